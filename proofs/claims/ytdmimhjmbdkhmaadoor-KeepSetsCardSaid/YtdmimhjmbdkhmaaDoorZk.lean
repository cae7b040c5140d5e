/- Contracts of keep that are proved by hand, and of library functions. -/
import Derived.Shelf.SlGeneric
import Derived.Ground.Names7Prog
import Derived.Shelf.Spec.TrailingZeros
import Derived.Ground.SlgfProg
import Derived.Shelf.SlicesE.IndexFunc
import Derived.Shelf.SlicesE.DeleteFunc
import Derived.Test.YtdmimhjmbdkhmaaDoorProg
import Derived.Test.YtdmimhjmbdkhmaaDoorZg
import Derived.Test.YtdmimhjmbdkhmaaDoorZw
import Derived.Test.YtdmimhjmbdkhmaaDoorXx0
import Derived.Lib.OwnBridge
set_option linter.unusedVariables false
set_option linter.unusedSimpArgs false
section
namespace Go.Proofs
open Go.Shelf
def Tryd.laysTz_ren : Go.Shelf.Ren := ⟨fun | 29 => 84 | n => n, fun | 22 => 67 | 3 => 3 | 4 => 4 | 25 => 68 | 54 => 91 | 0 => 0 | 5 => 5 | n => n, fun | 1 => 0 | n => n⟩
theorem Tryd.laysTz : Go.Proofs.Lays7.n29 Tryd.prog Tryd.laysTz_ren := {
  mixed := by kernel_rfl
  f29 := Tryd.func84.trans (congrArg some (by kernel_rfl))
  t0 := Tryd.underlying0
  a0 := Tryd.isAgg0
  z0 := Tryd.sizeOf0
  v0 := Tryd.zeroValue0
  i0 := by kernel_rfl
  t3 := Tryd.underlying3
  a3 := Tryd.isAgg3
  z3 := Tryd.sizeOf3
  v3 := Tryd.zeroValue3
  i3 := by kernel_rfl
  t4 := Tryd.underlying4
  a4 := Tryd.isAgg4
  z4 := Tryd.sizeOf4
  v4 := Tryd.zeroValue4
  i4 := by kernel_rfl
  t5 := Tryd.underlying5
  a5 := Tryd.isAgg5
  z5 := Tryd.sizeOf5
  v5 := Tryd.zeroValue5
  i5 := by kernel_rfl
  t22 := Tryd.underlying67
  a22 := Tryd.isAgg67
  z22 := Tryd.sizeOf67
  v22 := Tryd.zeroValue67
  i22 := by kernel_rfl
  t25 := Tryd.underlying68
  a25 := Tryd.isAgg68
  z25 := Tryd.sizeOf68
  v25 := Tryd.zeroValue68
  i25 := by kernel_rfl
  t54 := Tryd.underlying91
  a54 := Tryd.isAgg91
  z54 := Tryd.sizeOf91
  g1 := by kernel_rfl }
open Go.RowKit in
theorem Tryd.bits_TrailingZeros64 (x : Nat) (hx : x < 18446744073709551616) (w : World) (hT : x ≠ 0 → TabAt 0 Lib.deBruijn64tab w) :
    Calls Tryd.prog 84 #[.int .u64 x] w fun e w' => e = .returned (.int .i64 (Lib.ctz 64 x)) ∧ w' = w := Any7.bits_TrailingZeros64 Tryd.laysTz x hx w hT
def Tryd.laysIx_ren : Go.Shelf.Ren := ⟨fun | 6 => 83 | n => n, fun | 22 => 27 | 23 => 3 | 25 => 70 | 3 => 3 | 0 => 0 | 4 => 4 | n => n, fun | n => n⟩
theorem Tryd.laysIx : Go.Proofs.SlLaysH.n6 Tryd.prog Tryd.laysIx_ren := {
  mixed := by kernel_rfl
  f6 := ⟨Tryd.f83.name, by decide, Tryd.func83.trans (congrArg some (by kernel_rfl))⟩
  t0 := Tryd.underlying0
  a0 := Tryd.isAgg0
  z0 := Tryd.sizeOf0
  v0 := Tryd.zeroValue0
  t3 := Tryd.underlying3
  a3 := Tryd.isAgg3
  z3 := Tryd.sizeOf3
  v3 := Tryd.zeroValue3
  t4 := Tryd.underlying4
  a4 := Tryd.isAgg4
  z4 := Tryd.sizeOf4
  v4 := Tryd.zeroValue4
  t22 := Tryd.underlying27
  a22 := Tryd.isAgg27
  z22 := Tryd.sizeOf27
  v22 := Tryd.zeroValue27
  a23 := Tryd.isAgg3
  z23 := Tryd.sizeOf3
  t25 := Tryd.underlying70
  a25 := Tryd.isAgg70
  z25 := Tryd.sizeOf70
  v25 := Tryd.zeroValue70 }
open Go.RowKit Go.Lib in
theorem Tryd.slices_IndexFunc_empty {α : Type} [Inhabited α] (a : Option Addr) (c : Nat) (fv : Value) (w : World) :
    Calls Tryd.prog 83 #[.slice a 0 c, fv] w fun e w' => e = .returned (.int .i64 (-1)) ∧ w' = w := AnyE.slices_IndexFunc_empty Tryd.laysIx a c fv w
def Tryd.laysDf_ren : Go.Shelf.Ren := ⟨fun | 10 => 70 | 6 => 83 | n => n, fun | 22 => 27 | 23 => 3 | 25 => 70 | 3 => 3 | 4 => 4 | 0 => 0 | n => n, fun | n => n⟩
theorem Tryd.laysDf : Go.Proofs.SlLaysH.n10 Tryd.prog Tryd.laysDf_ren := {
  mixed := by kernel_rfl
  f6 := ⟨Tryd.f83.name, by decide, Tryd.func83.trans (congrArg some (by kernel_rfl))⟩
  f10 := ⟨Tryd.f70.name, by decide, Tryd.func70.trans (congrArg some (by kernel_rfl))⟩
  t0 := Tryd.underlying0
  a0 := Tryd.isAgg0
  z0 := Tryd.sizeOf0
  v0 := Tryd.zeroValue0
  t3 := Tryd.underlying3
  a3 := Tryd.isAgg3
  z3 := Tryd.sizeOf3
  v3 := Tryd.zeroValue3
  t4 := Tryd.underlying4
  a4 := Tryd.isAgg4
  z4 := Tryd.sizeOf4
  v4 := Tryd.zeroValue4
  t22 := Tryd.underlying27
  a22 := Tryd.isAgg27
  z22 := Tryd.sizeOf27
  v22 := Tryd.zeroValue27
  a23 := Tryd.isAgg3
  z23 := Tryd.sizeOf3
  t25 := Tryd.underlying70
  a25 := Tryd.isAgg70
  z25 := Tryd.sizeOf70
  v25 := Tryd.zeroValue70 }
open Go.RowKit Go.Lib Go.Sort in
theorem Tryd.slices_DeleteFunc {α : Type} [Inhabited α] (enc : α → Value) (hO : OneCell enc) (p : α → Bool) (g : Nat) (lb : Array Value) (eg : ∀ args w, (callFunc g args).run Tryd.prog w = .ok (.enter g args) w) (zr : α) (v23 : ∀ w, (zeroValue 3).run Tryd.prog w = .ok (enc zr) w) (blk off cap : Nat) (d : Array α) (w : World) (hp : PredAt Tryd.prog g lb enc p w) (hpo : PredOver Tryd.prog g lb enc p blk off d.size w) (hH : Holds enc w blk off d) (hsz : d.size ≤ 9223372036854775807) (hcap : d.size ≤ cap) :
    Calls Tryd.prog 70 #[.slice (some ⟨blk, off, none⟩) d.size cap, .func (.func g) #[] lb] w fun e w' => e = .returned (.slice (some ⟨blk, off, none⟩) (d.toList.filter fun x => !p x).length cap) ∧ ∃ q, w' = putRow enc (Sort.ahead w q) blk off ((d.toList.filter fun x => !p x) ++ List.replicate (d.size - (d.toList.filter fun x => !p x).length) zr).toArray := AnyE.slices_DeleteFunc Tryd.laysDf enc hO p g lb eg zr v23 blk off cap d w hp hpo hH hsz hcap
end Go.Proofs
end
section
set_option linter.unusedVariables false
namespace Go.Proofs.YtdmimhjmbdkhmaaDoor.X
open Go.RowKit Go.Proofs.YtdmimhjmbdkhmaaDoorW.PrintWords
structure GB (w : World) : Prop where mk :: (out : TabAt 0 Lib.deBruijn64tab w)
theorem GB_below {w W : World} (h : GB w) (hb : Below w.heap.size w W) : GB W := ⟨fun j hj => (hb.cell (World.block_lt_of_cell? w _ (h.out j hj))).trans (h.out j hj)⟩
theorem GB_alloc {w : World} {o : Obj} (h : GB w) : GB (w.alloc o) := GB_below h ((Below.refl _ _).alloc (Nat.le_refl _) _)
def bits_TrailingZeros64.f (a0 : Int) : Option Int := if 0 ≤ a0 then if a0 < 18446744073709551616 then some (Lib.ctz 64 a0.toNat : Nat) else none else none
theorem bits_TrailingZeros64.calls (a0 : Int) (r : Int) (w : World) (hGB : GB w) (h : bits_TrailingZeros64.f a0 = some r) :
    Calls Tryd.prog 84 #[.int .u64 a0] w fun e w' => e = .returned (.int .i64 r) ∧ Drawn0 w w' := by
  unfold bits_TrailingZeros64.f at h
  by_cases h0 : 0 ≤ a0
  · rw [if_pos h0] at h
    by_cases h1 : a0 < 18446744073709551616
    · rw [if_pos h1] at h
      obtain rfl := Option.some.inj h
      obtain ⟨x, rfl⟩ := Int.eq_ofNat_of_zero_le h0
      exact (Tryd.bits_TrailingZeros64 x (by omega) w (fun _ => hGB.out)).mono fun e w' ⟨he, hw⟩ => ⟨he, by rw [hw]; exact Drawn0.refl _⟩
    · rw [if_neg h1] at h
      cases h
  · rw [if_neg h0] at h
    cases h
end Go.Proofs.YtdmimhjmbdkhmaaDoor.X
end
section
namespace Go.Proofs.YtdmimhjmbdkhmaaDoor.X
open Go.RowKit Go.Proofs.YtdmimhjmbdkhmaaDoorW.PrintWords Go.Proofs.YtdmimhjmbdkhmaaDoorW.PrintLast Go.Proofs.YtdmimhjmbdkhmaaDoorW.PrintMore
attribute [local go_sem] max2_int min2_int max_two min_two max_three min_three max_four min_four
set_option linter.unusedVariables false
set_option linter.unusedSimpArgs false
mutual
def bitset_List.l0 : Nat → List Int → List Int → Int → Int → Option (List Int)
 | 0, _, _, _, _ => none
 | k + 1, x3, x6, x7, x8 => if x8 < x7 then (if 0 ≤ x8 then (if x8 < (x6.length : Int) then (bitset_List.l1 k x3 x8 (rd x6 x8) x6 x7 x8) else (none)) else (none)) else (some x3)
def bitset_List.l1 : Nat → List Int → Int → Int → List Int → Int → Int → Option (List Int)
 | 0, _, _, _, _, _, _ => none
 | k + 1, x3, x4, x5, x6, x7, x8 => if x5 = 0 then (bitset_List.l0 k x3 x6 x7 (wrap64 (x8 + 1))) else ((bits_TrailingZeros64.f x5).bind fun t108 => (if x3.length < 17592186044416 then (bitset_List.l1 k (x3 ++ [wrap64 ((wrap64 (x4 * 64)) + t108)]) x4 (Go.bits .and .u64 x5 (IntKind.u64.wrap (x5 - 1))) x6 x7 x8) else (none)))
end
def bitset_List.f (k : Nat) (l0 : List Int) : Option (List Int) := bitset_List.l0 k ([] : List Int) l0 (l0.length : Int) 0
theorem bitset_List.mono_l : ∀ k, (∀ y0 y1 y2 y3, LeO (bitset_List.l0 k y0 y1 y2 y3) (bitset_List.l0 (k + 1) y0 y1 y2 y3)) ∧ (∀ y0 y1 y2 y3 y4 y5, LeO (bitset_List.l1 k y0 y1 y2 y3 y4 y5) (bitset_List.l1 (k + 1) y0 y1 y2 y3 y4 y5))
 | 0 => ⟨fun _ _ _ _ r h => by simp [bitset_List.l0] at h, fun _ _ _ _ _ _ r h => by simp [bitset_List.l1] at h⟩
 | k + 1 => by
  obtain ⟨ih0, ih1⟩ := bitset_List.mono_l k
  refine ⟨?_, ?_⟩
  ·
   intro y0 y1 y2 y3
   unfold bitset_List.l0
   repeat' first
   | (with_reducible exact ih0 _ _ _ _)
   | (with_reducible exact ih1 _ _ _ _ _ _)
   | (with_reducible exact LeO.refl _)
   | (with_reducible exact LeO.none _)
   | (with_reducible refine LeO.ite ?_ ?_)
   | (with_reducible refine LeO.bind ?_ (fun _ => ?_))
   | exact ih0 _ _ _ _
   | exact ih1 _ _ _ _ _ _
   | exact LeO.none _
   | refine LeO.ite ?_ ?_
   | refine LeO.bind ?_ (fun _ => ?_)
  intro y0 y1 y2 y3 y4 y5
  unfold bitset_List.l1
  repeat' first
  | (with_reducible exact ih0 _ _ _ _)
  | (with_reducible exact ih1 _ _ _ _ _ _)
  | (with_reducible exact LeO.refl _)
  | (with_reducible exact LeO.none _)
  | (with_reducible refine LeO.ite ?_ ?_)
  | (with_reducible refine LeO.bind ?_ (fun _ => ?_))
  | exact ih0 _ _ _ _
  | exact ih1 _ _ _ _ _ _
  | exact LeO.none _
  | refine LeO.ite ?_ ?_
  | refine LeO.bind ?_ (fun _ => ?_)
theorem bitset_List.mono : ∀ a0 k, LeO (bitset_List.f k a0) (bitset_List.f (k + 1) a0) := by
 intro a0 k
 obtain ⟨ih0, ih1⟩ := bitset_List.mono_l k
 unfold bitset_List.f
 repeat' first
  | (with_reducible exact ih0 _ _ _ _)
  | (with_reducible exact ih1 _ _ _ _ _ _)
  | (with_reducible exact LeO.refl _)
  | (with_reducible exact LeO.none _)
  | (with_reducible refine LeO.ite ?_ ?_)
  | (with_reducible refine LeO.bind ?_ (fun _ => ?_))
  | exact ih0 _ _ _ _
  | exact ih1 _ _ _ _ _ _
  | exact LeO.none _
  | refine LeO.ite ?_ ?_
  | refine LeO.bind ?_ (fun _ => ?_)
set_option maxHeartbeats 8000000 in
set_option maxRecDepth 100000 in
theorem bitset_List.calls (k : Nat) (A0 : Option Addr) (c0 : Nat) (l0 : List Int) (r : List Int) (w : World) (hGB : GB w) (hr0 : Kd.C (Kd.int .u64) w A0 l0.length l0) (hc0 : l0.length ≤ c0) (h : bitset_List.f k l0 = some r) :
 Calls Tryd.prog 71 #[.slice A0 l0.length c0] w fun e w' => ∃ v0_ : Value, e = .returned (v0_) ∧ Kd.R (Kd.int .i64) 3 w' w.heap.size (fun _ => True) v0_ r ∧ Below w.heap.size w w' := by
 have HGB := Aside0.mk hGB
 clear hGB
 have HR0 := Aside0.mk hr0
 have HC0 := Aside0.mk hc0
 clear hr0 hc0
 have HB := Aside0.mk (Below.refl w.heap.size w)
 have H : (bitset_List.l0 k ([] : List Int) l0 (l0.length : Int) 0) = some r := h
 clear h
 have H' := Aside0.mk H
 clear H
 go_enter Tryd.func71, Tryd.ntmps71
 go_wp2
 go_loopg [3, 8] k (fun kq v3 v8 w' => ∃ (x3_1 : List Int) (x8_1 : Int), v8 = .int .i64 x8_1 ∧ Aside0 (bitset_List.l0 kq x3_1 l0 (l0.length : Int) x8_1 = some r) ∧ Aside0 (kq ≤ k) ∧ Aside0 (Kd.R (Kd.int .i64) 3 w' w.heap.size (fun _ => True) v3 x3_1) ∧ Aside0 (Below w.heap.size w w'))
 case atStart => exact ⟨(([] : List Int)), (0), (by first | rfl | (simp; done) | (simp [*]; done)), H', ⟨Nat.le_refl _⟩, ⟨by first | exact Kd.R_nil _ _ _ _ _ | exact Kd.N_nil _ _ _ _ _ | exact Kd.V_nil _ _ _ _ _ | exact Kd.Q_nil _ _ _ _ _ | exact Kd.S_nil _ _ _ _ _⟩, ⟨bl HB⟩⟩
 case round =>
  clear H'
  obtain ⟨x3_1, x8_1, rfl, HA, HK1, HO_3, HB⟩ := hrel
  cases gk with
  | zero => exact absurd HA.out (by simp [bitset_List.l0])
  | succ k1 =>
   have H := HA.out
   clear HA
   simp only [bitset_List.l0] at H
   by_cases c2 : x8_1 < (l0.length : Int)
   ·
    rw [if_pos c2] at H
    have c2b0 : decide (x8_1 < (l0.length : Int)) = true := decide_eq_true c2
    clear c2
    by_cases c3 : 0 ≤ x8_1
    ·
     rw [if_pos c3] at H
     have c3b0 : decide (0 ≤ x8_1) = true := decide_eq_true c3
     clear c3
     by_cases c4 : x8_1 < (l0.length : Int)
     ·
      rw [if_pos c4] at H
      have c4b0 : decide (x8_1 < (l0.length : Int)) = true := decide_eq_true c4
      clear c4
      have H' := Aside0.mk H
      clear H
      have p107 : 0 ≤ (x8_1 : Int) := of_decide_eq_true (by assumption)
      have q107 : x8_1 < (l0.length : Int) := of_decide_eq_true (by assumption)
      obtain ⟨ad107, e107, hx107_0⟩ := Kd.at_int HR0.out x8_1 p107 q107
      cases e107
      replace hx107_0 := (HB.out.cell (World.block_lt_of_cell? w _ hx107_0)).trans hx107_0
      replace p107 := eq_true p107
      replace q107 := eq_true q107
      go_wp2
      go_loopg [3, 5] k1 (fun kq v3 v5 w' => ∃ (x3_2 : List Int) (x5_2 : Int), v5 = .int .u64 x5_2 ∧ Aside0 (bitset_List.l1 kq x3_2 x8_1 x5_2 l0 (l0.length : Int) x8_1 = some r) ∧ Aside0 (kq ≤ k1) ∧ Aside0 (Kd.R (Kd.int .i64) 3 w' w.heap.size (fun _ => True) v3 x3_2) ∧ Aside0 (Below w.heap.size w w'))
      case atStart => exact ⟨(x3_1), (rd l0 x8_1), (by first | rfl | (simp; done) | (simp [*]; done)), H', ⟨Nat.le_refl _⟩, ⟨Kd.Rx HO_3.out⟩, ⟨bl HB⟩⟩
      case round =>
       clear H'
       try clear p1
       try clear q1
       try clear hx1
       try clear c2
       try clear c2b0
       try clear p2
       try clear c3
       try clear c3b0
       try clear c4
       try clear c4b0
       try clear hx107_0
       try clear p107
       try clear q107
       obtain ⟨x3_2, x5_2, rfl, HA, HK2, HO_3, HB⟩ := hrel
       cases gk with
       | zero => exact absurd HA.out (by simp [bitset_List.l1])
       | succ k2 =>
        have H := HA.out
        clear HA
        simp only [bitset_List.l1] at H
        by_cases c5 : x5_2 = 0
        ·
         rw [if_pos c5] at H
         have c5b0 : (x5_2 == 0) = true := beq_iff_eq.mpr c5
         have c5b1 : (x5_2 != 0) = false := bne_eq_false_iff_eq.mpr c5
         clear c5
         have H' := Aside0.mk H
         clear H
         go_wp2
         go_roundg k2
         case measure => have := HK1.out; have := HK2.out; omega
         case rel => exact ⟨(x3_2), (wrap64 (x8_1 + 1)), (by first | rfl | (simp; done) | (simp [*]; done)), H', ⟨by have := HK1.out; have := HK2.out; omega⟩, ⟨Kd.Rx HO_3.out⟩, ⟨bl HB⟩⟩
        rw [if_neg c5] at H
        have c5b0 : (x5_2 == 0) = false := beq_eq_false_iff_ne.mpr c5
        have c5b1 : (x5_2 != 0) = true := bne_iff_ne.mpr c5
        replace H := Option.bind_eq_some_iff.mp H
        obtain ⟨t108, A60, H⟩ := H
        replace H : (if x3_2.length < 17592186044416 then (bitset_List.l1 k2 (x3_2 ++ [wrap64 ((wrap64 (x8_1 * 64)) + t108)]) x8_1 (Go.bits .and .u64 x5_2 (IntKind.u64.wrap (x5_2 - 1))) l0 (l0.length : Int) x8_1) else (none)) = some r := H
        have A6 := Aside0.mk A60
        clear A60
        by_cases c7 : x3_2.length < 17592186044416
        ·
         rw [if_pos c7] at H
         have LMc7 := Aside0.mk c7
         clear c7
         obtain ⟨y109, hy109⟩ : ∃ y_ : List Int, y_ = (x3_2 ++ [wrap64 ((wrap64 (x8_1 * 64)) + t108)]) := ⟨_, rfl⟩
         replace H : (bitset_List.l1 k2 y109 x8_1 (Go.bits .and .u64 x5_2 (IntKind.u64.wrap (x5_2 - 1))) l0 (l0.length : Int) x8_1) = some r := by first | (rw [hy109]; with_reducible exact H) | (have H2_ := (Option.bind_some _ _).symm.trans H; rw [hy109]; with_reducible exact H2_) | (have H2_ := (Option.bind_some _ _).symm.trans H; with_reducible exact H2_) | with_reducible exact H | (rw [hy109]; exact H) | exact H
         have Ny109 := Aside0.mk hy109
         clear hy109
         have H' := Aside0.mk H
         clear H
         go_wp2_with (first | ((with_reducible refine gate_callee (f := 84) rfl ?_); refine goesL_ (some 23) rfl rfl Tryd.func84 (by kernel_rfl) rfl #[.int .u64 x5_2] rfl (by (try simp only [List.map_toArray, List.map_cons, List.map_nil]); first | done | rfl) ?_; (with_reducible refine (bits_TrailingZeros64.calls x5_2 t108 _ ?side1 A6.out).mono ?_); (case side1 => exact GB_below HGB.out (bl HB)); rintro e w' ⟨rfl, ⟨nd, rfl⟩⟩; refine ⟨_, rfl, ?_⟩) | ((with_reducible refine gate_builtin (b := .append) (xs := #[.tmp 19, .tmp 25]) rfl ?_); at_builtin; refine Kd.R_append (Kd.int .i64) (w0 := w) w.heap.size rfl (.tmp 19) (.tmp 25) 27 3 (.int .i64 0) 8 rfl Tryd.underlying27 info3 rfl (by decide) (by omega) u3 x3_2 (wrap64 ((wrap64 (x8_1 * 64)) + t108)) [.int .i64 (wrap64 ((wrap64 (x8_1 * 64)) + t108))] (fun _ => True) (fun _ => False) rfl rfl ?aP (fun _ hk => hk.elim) ?aF ?aO ?aB ?aS ?aL ?_; (case aP => exact rfl); (case aB => exact (bl HB)); (case aF => exact (fun _ _ => trivial)); (case aO => exact (Kd.Rx HO_3.out)); (case aS => exact (below_size (bl HB))); (case aL => have := LMc7.out; omega); intro v110 w8 ho hb hg hat; rw [← Ny109.out] at ho; replace HB := Aside0.mk (hb); have HO111 := Aside0.mk (ho); clear HO_3; clear ho hb hg hat))
         go_roundg k2
         case measure => have := HK1.out; have := HK2.out; omega
         case rel => exact ⟨(y109), (Go.bits .and .u64 x5_2 (IntKind.u64.wrap (x5_2 - 1))), (by first | rfl | (simp; done) | (simp [*]; done)), H', ⟨by have := HK1.out; have := HK2.out; omega⟩, ⟨Kd.Rx HO111.out⟩, ⟨bl HB⟩⟩
        rw [if_neg c7] at H
        exact absurd H (by simp)
     rw [if_neg c4] at H
     exact absurd H (by simp)
    rw [if_neg c3] at H
    exact absurd H (by simp)
   rw [if_neg c2] at H
   have c2b0 : decide (x8_1 < (l0.length : Int)) = false := decide_eq_false c2
   clear c2
   obtain rfl := Option.some.inj H
   go_wp2
   go_ret
   exact ⟨_, by first | rfl | (simp [errW_none, errW_some] <;> rfl) | (simp [*, errW_none, errW_some] <;> rfl), Kd.Rx HO_3.out, bl HB⟩
end Go.Proofs.YtdmimhjmbdkhmaaDoor.X
end
section
set_option linter.unusedVariables false
namespace Go.Proofs.YtdmimhjmbdkhmaaDoor.X
open Go.RowKit Go.Proofs.YtdmimhjmbdkhmaaDoorW.PrintWords Go.Sort
abbrev encN (n : Nat) : Value := .int .i64 (n : Int)
theorem encs_nat (xs : List Nat) : encs (Value.int .i64) (xs.map Int.ofNat) = xs.map encN := by
  simp [encs, encN]
theorem grown_putN (w : World) (g n : Nat) (d : Array Nat) : w.grownBy (putRow encN (Sort.ahead w n) g 0 d) (some g) := by
  refine ⟨rfl, rfl, rfl, by simp [putRow, mapBlock, Sort.ahead], fun k hk hne => ?_⟩
  have : g ≠ k := fun e => hne (by rw [e])
  simp [putRow, mapBlock, Sort.ahead, Array.getElem?_modify, this]
theorem index_none (fv : Value) (w : World) : Calls Tryd.prog 83 #[.slice none 0 0, fv] w fun e w' => e = .returned (.int .i64 (-1)) ∧ w = w' := (Tryd.slices_IndexFunc_empty (α := Nat) _ _ _ _).mono fun _ _ h => ⟨h.1, h.2.symm⟩
set_option maxHeartbeats 1000000 in
theorem delete_none (fv : Value) (w : World) : Calls Tryd.prog 70 #[.slice none 0 0, fv] w fun e w' => e = .returned (.slice none 0 0) ∧ w' = w := by
  go_enter Tryd.func70, Tryd.ntmps70
  go_wp2_with (go_at_call 83; refine (index_none _ _).mono ?_; rintro e w' ⟨rfl, rfl⟩)
  go_ret
  exact ⟨rfl, rfl⟩
theorem delete_row {p : Nat → Bool} {g : Nat} {lb : Array Value} (eg : ∀ args w, (callFunc g args).run Tryd.prog w = .ok (.enter g args) w) {base : Nat} {ok : Nat → Prop} {v : Value} {xs : List Nat} {w : World} (HO : (Kd.int .i64).R 3 w base ok v (xs.map Int.ofNat))
    (hp : PredAt Tryd.prog g lb encN p w) (hpo : ∀ b, v.ownBlock = some b → PredOver Tryd.prog g lb encN p b 0 xs.length w) :
    Calls Tryd.prog 70 #[v, .func (.func g) #[] lb] w fun e w' => ∃ v1 : Value, e = .returned v1 ∧ (Kd.int .i64).R 3 w' base ok v1 ((xs.filter fun x => !p x).map Int.ofNat) ∧ w.grownBy w' v.ownBlock ∧ v1.ownBlock = v.ownBlock := by
  have hown := Kd.own_of_R HO
  rw [encs_nat, List.length_map] at hown
  by_cases hv : v = .slice none 0 0
  · subst hv
    have hx : xs = [] := by
      rcases hown.2 with ⟨_, h0⟩ | ⟨g, cap, cur, he, _⟩
      · exact List.eq_nil_of_length_eq_zero h0
      · cases he
    subst hx
    refine (delete_none _ w).mono ?_
    rintro e w' ⟨rfl, rfl⟩
    exact ⟨_, rfl, HO, World.grownBy.refl _ _, rfl⟩
  · obtain ⟨b, cap, rfl, hb, hlt, hn, hm, hl, hH⟩ := Lib.holds_of_ownsRow hown hv
    have hz : ∀ w, (zeroValue 3).run Tryd.prog w = .ok (encN 0) w := fun w => by kernel_rfl
    have hc := Tryd.slices_DeleteFunc encN (fun _ => rfl) p g lb eg 0 hz b 0 cap xs.toArray w hp (by simpa using hpo b rfl) hH (by simpa [maxLen] using Nat.le_trans hn hm) (by simpa using hn)
    simp only [List.size_toArray] at hc
    refine hc.mono ?_
    rintro e w' ⟨rfl, n, rfl⟩
    have hle : (xs.filter fun x => !p x).length ≤ xs.length := List.length_filter_le _ _
    have h1 := Lib.ownsRow_putRow (q := n) (ys := (xs.filter fun x => !p x) ++ List.replicate (xs.length - (xs.filter fun x => !p x).length) 0) hown (by simp; omega) hle
    rw [List.take_left] at h1
    refine ⟨_, rfl, Kd.R_of_own ?_ HO.1, grown_putN _ _ _ _, rfl⟩
    rw [encs_nat, List.length_map]
    exact h1
set_option maxRecDepth 100000 in
set_option maxHeartbeats 2000000 in
theorem some1_gives (W : World) (gf gt : Nat) (A : Option Addr) (n c : Nat) (g : Nat) (lb : Array Value) (eg : ∀ args w, (callFunc g args).run Tryd.prog w = .ok (.enter g args) w) (p : Nat → Bool) (x : Nat)
    (hf : W.cell? ⟨gf, 0, none⟩ = some (.slice A n c)) (ht : W.cell? ⟨gt, 0, none⟩ = some (.func (.func g) #[] lb)) (hp : x < n → ∀ q, FnGives Tryd.prog g lb #[encN x] (.bool (p x)) (W.drewN q)) :
    FnGives Tryd.prog 72 #[.pointer (some ⟨gf, 0, none⟩), .pointer (some ⟨gt, 0, none⟩)] #[encN x] (.bool (!(decide (x < n) && p x))) W := by
  show Calls Tryd.prog 72 #[encN x, .pointer (some ⟨gf, 0, none⟩), .pointer (some ⟨gt, 0, none⟩)] W _
  have hu := Tryd.underlying30
  by_cases h : x < n
  · have hp' : ∀ q, Calls Tryd.prog g (#[encN x] ++ lb) (W.drewN q) fun e w' => e = .returned (.bool (p x)) ∧ ∃ q', w' = (W.drewN q).drewN q' := fun q => hp h q
    have HP := Aside0.mk hp'
    clear hp'
    have hb : decide (n ≤ x) = false := decide_eq_false (by omega)
    rw [decide_eq_true h]
    clear hp h
    go_enter Tryd.func72, Tryd.ntmps72
    go_wp2_with (go_at_fn g; refine (HP.out 0).mono ?_; rintro e w' ⟨rfl, q', rfl⟩)
    go_ret
    exact ⟨by simp, q', rfl⟩
  · have hb : decide (n ≤ x) = true := decide_eq_true (by omega)
    rw [decide_eq_false h]
    clear hp h
    go_enter Tryd.func72, Tryd.ntmps72
    go_wp2
    go_ret
    exact ⟨rfl, 0, rfl⟩
end Go.Proofs.YtdmimhjmbdkhmaaDoor.X
end
section
set_option linter.unusedVariables false
namespace Go.Proofs.YtdmimhjmbdkhmaaDoor.X
open Go.RowKit Go.Proofs.YtdmimhjmbdkhmaaDoorW.PrintWords Go.Sort
def CellsAs (w W : World) : Prop := ∀ a : Addr, a.block < w.heap.size → W.cell? a = w.cell? a
def keepF (k : Nat) (n : Nat) (l1 : List Int) (p : Nat → Bool) : Option (List Int) :=
  (bitset_List.f k l1).bind fun l => if l.all (fun x => decide (0 ≤ x)) = true then some (l.filter fun x : Int => decide (x < (n : Int)) && p x.toNat) else none
theorem keepF_mono (k n : Nat) (l : List Int) (p : Nat → Bool) : LeO (keepF k n l p) (keepF (k + 1) n l p) := LeO.bind (bitset_List.mono l k) (fun _ => LeO.refl _)
theorem nats_of : ∀ (l : List Int), l.all (fun x => decide (0 ≤ x)) = true → (l.map Int.toNat).map Int.ofNat = l
  | [], _ => rfl
  | x :: l, h => by
    simp only [List.all_cons, Bool.and_eq_true, decide_eq_true_eq] at h
    rw [List.map_cons, List.map_cons, nats_of l h.2]
    congr 1
    exact Int.toNat_of_nonneg h.1
theorem filt_of (n : Nat) (p : Nat → Bool) : ∀ (l : List Int), l.all (fun x => decide (0 ≤ x)) = true → (((l.map Int.toNat).filter fun x => !(!(decide (x < n) && p x))).map Int.ofNat) = l.filter fun x : Int => decide (x < (n : Int)) && p x.toNat
  | [], _ => rfl
  | x :: l, h => by
    simp only [List.all_cons, Bool.and_eq_true, decide_eq_true_eq] at h
    have ih := filt_of n p l h.2
    have e : decide (x.toNat < n) = decide (x < (n : Int)) := by
      have := h.1
      rcases Int.lt_or_le x n with c | c
      · rw [decide_eq_true c, decide_eq_true (by omega)]
      · rw [decide_eq_false (by omega), decide_eq_false (by omega)]
    simp only [Bool.not_not] at ih ⊢
    rw [List.map_cons, List.filter_cons, List.filter_cons, e]
    split
    · rw [List.map_cons, ih]
      congr 1
      exact Int.toNat_of_nonneg h.1
    · exact ih
theorem cells_of_below {w W : World} (h : Below w.heap.size w W) : CellsAs w W := fun a ha => h.cell ha
abbrev someW (w : World) (v0 v1 v2 v3 v4 vt : Value) : World := (w.alloc (.cells #[v0, v1, v2, v3, v4] 30)).alloc (.cells #[vt] 70)
abbrev someB (w : World) : Array Value := #[.pointer (some ⟨w.heap.size, 0, none⟩), .pointer (some ⟨w.heap.size + 1, 0, none⟩)]
theorem some_gen {w : World} {A0 : Option Addr} {n c0 : Nat} {v1 v2 v3 v4 : Value} {g : Nat} {lb : Array Value} (eg : ∀ args w, (callFunc g args).run Tryd.prog w = .ok (.enter g args) w) {p : Nat → Bool} (hT : ∀ W, CellsAs w W → ∀ x, x < n → FnGives Tryd.prog g lb #[encN x] (.bool (p x)) W)
    (W : World) (hW : CellsAs (someW w (.slice A0 n c0) v1 v2 v3 v4 (.func (.func g) #[] lb)) W) (x : Nat) : FnGives Tryd.prog 72 (someB w) #[encN x] (.bool (!(decide (x < n) && p x))) W := by
  have hs : (w.alloc (.cells #[.slice A0 n c0, v1, v2, v3, v4] 30)).heap.size = w.heap.size + 1 := by simp
  have hs2 : (someW w (.slice A0 n c0) v1 v2 v3 v4 (.func (.func g) #[] lb)).heap.size = w.heap.size + 2 := by simp
  refine some1_gives W w.heap.size (w.heap.size + 1) A0 n c0 g lb eg p x ?_ ?_ fun hx q => hT _ (fun a ha => ?_) x hx
  · rw [hW ⟨w.heap.size, 0, none⟩ (by rw [hs2]; show w.heap.size < _; omega)]
    exact (blk_cell (blk_alloc (blk_new w _) _) 0).trans rfl
  · rw [hW ⟨w.heap.size + 1, 0, none⟩ (by rw [hs2]; show w.heap.size + 1 < _; omega)]
    have := blk_new (w.alloc (.cells #[.slice A0 n c0, v1, v2, v3, v4] 30)) (.cells #[.func (.func g) #[] lb] 70)
    rw [hs] at this
    exact (blk_cell this 0).trans rfl
  · show W.cell? a = w.cell? a
    rw [hW a (by rw [hs2]; omega)]
    exact ((below_alloc (below_alloc (Below.refl _ w) _) _).cell ha)
theorem some_over {w w1 : World} (hb : Below w.heap.size w w1) (b n : Nat) (dk : Array Nat) (os : Array Obj) (hne : w.heap.size ≤ b) : CellsAs w (sortWorld encN w1 b 0 n dk os) := fun a ha => by
  unfold sortWorld
  have hlt : a.block < w1.heap.size := Nat.lt_of_lt_of_le ha hb.size
  rw [cell?_grow _ _ _ (by rw [size_putRow]; exact hlt), cell?_putRow_other _ _ b 0 _ _ (Or.inl (by omega))]
  exact hb.cell ha
set_option maxRecDepth 100000 in
set_option maxHeartbeats 4000000 in
theorem some_any (k : Nat) (A0 : Option Addr) (n c0 : Nat) (v1 v2 v3 v4 : Value) (A5 : Option Addr) (c5 : Nat) (l5 : List Int) (g : Nat) (lb : Array Value) (eg : ∀ args w, (callFunc g args).run Tryd.prog w = .ok (.enter g args) w) (p : Nat → Bool) (r : List Int) (w : World) (hGB : GB w) (hr : Kd.C (Kd.int .u64) w A5 l5.length l5) (hc : l5.length ≤ c5)
    (hT : ∀ W, CellsAs w W → ∀ x, x < n → FnGives Tryd.prog g lb #[encN x] (.bool (p x)) W) (h : keepF k n l5 p = some r) :
    Calls Tryd.prog 50 #[.agg #[.slice A0 n c0, v1, v2, v3, v4], .slice A5 l5.length c5, .func (.func g) #[] lb] w fun e w' => ∃ v0_ : Value, e = .returned (v0_) ∧ Kd.R (Kd.int .i64) 3 w' w.heap.size (fun _ => True) v0_ r ∧ Below w.heap.size w w' := by
  obtain ⟨l, hl, h⟩ := Option.bind_eq_some_iff.mp h
  by_cases hn : l.all (fun x => decide (0 ≤ x)) = true
  · rw [if_pos hn] at h
    have HR := Aside0.mk (Option.some.inj h)
    have HN := Aside0.mk hn
    have HL := Aside0.mk hl
    have HT := Aside0.mk hT
    have HGB := Aside0.mk hGB
    have HC := Aside0.mk hr
    have Hc := Aside0.mk hc
    clear h hn hl hT hGB hr hc
    have hu := Tryd.underlying30
    go_enter Tryd.func50, Tryd.ntmps50
    go_wp2_with (first | (go_at_call 71; refine (bitset_List.calls k A5 c5 l5 l _ (GB_alloc (GB_alloc HGB.out)) (Kd.Cx HC.out) Hc.out HL.out).mono ?_; rintro e w1 ⟨v, rfl, ho, hb⟩; have HO := Aside0.mk ho; have HB := Aside0.mk hb; clear ho hb) | (go_at_call 70; refine (delete_row (p := fun x => !(decide (x < n) && p x)) (lb := someB w) (enters_of Tryd.func72 (by kernel_rfl) rfl) (xs := l.map Int.toNat) (by rw [nats_of l HN.out]; exact HO.out) (fun W x hW => some_gen eg HT.out W (cells_of_below (HB.out.trans (hW.mono HB.out.size))) x) (fun b hv n os dk x _ => some_gen eg HT.out _ (some_over HB.out b n dk os (Kd.R_base HO.out b hv)) x)).mono ?_; rintro e w' ⟨vr, rfl, ho, hg, _⟩; have HO2 := Aside0.mk ho; have HG := Aside0.mk hg; clear ho hg))
    go_ret
    have hle : w.heap.size ≤ (someW w (.slice A0 n c0) v1 v2 v3 v4 (.func (.func g) #[] lb)).heap.size := by simp; omega
    refine ⟨_, rfl, ?_, ?_⟩
    · rw [← HR.out, ← filt_of n p l HN.out]
      exact Kd.R_lower HO2.out hle
    · exact pw_below_grown ((below_alloc (below_alloc (Below.refl _ w) _) _).trans (HB.out.mono hle)) _ (Nat.le_trans hle HB.out.size) HG.out (fun k_ h_ => Nat.le_trans hle (Kd.R_base HO.out k_ h_))
  · rw [if_neg hn] at h
    cases h
set_option maxRecDepth 100000 in
theorem close1_gives (W : World) (x : Nat) : FnGives Tryd.prog 51 #[] #[encN x] (.bool true) W := by
  show Calls Tryd.prog 51 #[encN x] W _
  go_enter Tryd.func51, Tryd.ntmps51
  go_wp2
  go_ret
  exact ⟨rfl, 0, rfl⟩
def keep_some.f (k : Nat) (l0_0 : List Int) (l0_1 : List Int) (a0_2 : Int) (a0_3 : Int) (l0_4 : List S40) (l1 : List Int) : Option (List Int) := keepF k l0_0.length l1 (fun _ => true)
theorem keep_some.mono : ∀ a0 a1 a2 a3 a4 a5 k, LeO (keep_some.f k a0 a1 a2 a3 a4 a5) (keep_some.f (k + 1) a0 a1 a2 a3 a4 a5) := fun _ _ _ _ _ _ k => keepF_mono k _ _ _
theorem keep_some.calls (k : Nat) (A0_0 : Option Addr) (c0_0 : Nat) (l0_0 : List Int) (A0_1 : Option Addr) (c0_1 : Nat) (l0_1 : List Int) (a0_2 : Int) (a0_3 : Int) (A0_4 : Option Addr) (c0_4 : Nat) (l0_4 : List S40) (A1 : Option Addr) (c1 : Nat) (l1 : List Int) (r : List Int) (w : World) (hGB : GB w) (hr0_0 : Kd.C (Kd.int .i64) w A0_0 l0_0.length l0_0) (hc0_0 : l0_0.length ≤ c0_0) (hr0_1 : Kd.C (Kd.int .i64) w A0_1 l0_1.length l0_1) (hc0_1 : l0_1.length ≤ c0_1) (hr0_4 : Kd.C k40 w A0_4 l0_4.length l0_4) (hc0_4 : l0_4.length ≤ c0_4) (hr1 : Kd.C (Kd.int .u64) w A1 l1.length l1) (hc1 : l1.length ≤ c1) (h : keep_some.f k l0_0 l0_1 a0_2 a0_3 l0_4 l1 = some r) :
    Calls Tryd.prog 50 #[.agg #[.slice A0_0 l0_0.length c0_0, .slice A0_1 l0_1.length c0_1, .int .i64 a0_2, .int .i64 a0_3, .slice A0_4 l0_4.length c0_4], .slice A1 l1.length c1, .func (.func 51) #[] #[]] w fun e w' => ∃ v0_ : Value, e = .returned (v0_) ∧ Kd.R (Kd.int .i64) 3 w' w.heap.size (fun _ => True) v0_ r ∧ Below w.heap.size w w' :=
  some_any k A0_0 l0_0.length c0_0 _ _ _ _ A1 c1 l1 51 #[] (enters_of Tryd.func51 (by kernel_rfl) rfl) (fun _ => true) r w hGB hr1 hc1 (fun W _ x _ => close1_gives W x) h
set_option maxRecDepth 100000 in
set_option maxHeartbeats 1000000 in
theorem refs1_gives (W : World) (gf : Nat) (ad : Addr) (n c x : Nat) (v : Int) (hx : x < n) (hf : W.cell? ⟨gf, 0, none⟩ = some (.slice (some ad) n c)) (hv : W.cell? (ad.add x) = some (.int .i64 v)) :
    FnGives Tryd.prog 53 #[.pointer (some ⟨gf, 0, none⟩)] #[encN x] (.bool (v == 1)) W := by
  show Calls Tryd.prog 53 #[encN x, .pointer (some ⟨gf, 0, none⟩)] W _
  have hu := Tryd.underlying30
  have h0 : (0 : Int) ≤ (x : Int) := by omega
  have h1 : (x : Int) < (n : Int) := by omega
  go_enter Tryd.func53, Tryd.ntmps53
  go_wp2
  go_ret
  exact ⟨rfl, 0, rfl⟩
def keep_Refs.f (k : Nat) (l0_0 : List Int) (l0_1 : List Int) (a0_2 : Int) (a0_3 : Int) (l0_4 : List S40) (l1 : List Int) : Option (List Int) := keepF k l0_0.length l1 (fun x => rd l0_0 (x : Int) == 1)
theorem keep_Refs.mono : ∀ a0 a1 a2 a3 a4 a5 k, LeO (keep_Refs.f k a0 a1 a2 a3 a4 a5) (keep_Refs.f (k + 1) a0 a1 a2 a3 a4 a5) := fun _ _ _ _ _ _ k => keepF_mono k _ _ _
set_option maxRecDepth 100000 in
set_option maxHeartbeats 4000000 in
theorem keep_Refs.calls (k : Nat) (A0_0 : Option Addr) (c0_0 : Nat) (l0_0 : List Int) (A0_1 : Option Addr) (c0_1 : Nat) (l0_1 : List Int) (a0_2 : Int) (a0_3 : Int) (A0_4 : Option Addr) (c0_4 : Nat) (l0_4 : List S40) (A1 : Option Addr) (c1 : Nat) (l1 : List Int) (r : List Int) (w : World) (hGB : GB w) (hr0_0 : Kd.C (Kd.int .i64) w A0_0 l0_0.length l0_0) (hc0_0 : l0_0.length ≤ c0_0) (hr0_1 : Kd.C (Kd.int .i64) w A0_1 l0_1.length l0_1) (hc0_1 : l0_1.length ≤ c0_1) (hr0_4 : Kd.C k40 w A0_4 l0_4.length l0_4) (hc0_4 : l0_4.length ≤ c0_4) (hr1 : Kd.C (Kd.int .u64) w A1 l1.length l1) (hc1 : l1.length ≤ c1) (h : keep_Refs.f k l0_0 l0_1 a0_2 a0_3 l0_4 l1 = some r) :
    Calls Tryd.prog 26 #[.agg #[.slice A0_0 l0_0.length c0_0, .slice A0_1 l0_1.length c0_1, .int .i64 a0_2, .int .i64 a0_3, .slice A0_4 l0_4.length c0_4], .slice A1 l1.length c1] w fun e w' => ∃ v0_ : Value, e = .returned (v0_) ∧ Kd.R (Kd.int .i64) 3 w' w.heap.size (fun _ => True) v0_ r ∧ Below w.heap.size w w' := by
  have HGB := Aside0.mk hGB
  have HR0 := Aside0.mk hr0_0
  have HR1 := Aside0.mk hr1
  have Hc1 := Aside0.mk hc1
  have HH : Aside0 (keepF k l0_0.length l1 (fun x => rd l0_0 (x : Int) == 1) = some r) := ⟨h⟩
  clear hGB hr0_0 hc0_0 hr0_1 hc0_1 hr0_4 hc0_4 hr1 hc1 h
  have hu := Tryd.underlying30
  go_enter Tryd.func26, Tryd.ntmps26
  go_wp2_with (go_at_call 50; refine (some_any k A0_0 l0_0.length c0_0 _ _ _ _ A1 c1 l1 53 #[.pointer (some ⟨w.heap.size, 0, none⟩)] (enters_of Tryd.func53 (by kernel_rfl) rfl) (fun x => rd l0_0 (x : Int) == 1) r _ (GB_alloc HGB.out) (Kd.Cx HR1.out) Hc1.out (fun W hW x hx => by
    obtain ⟨ad, rfl, hv⟩ := Kd.at_int HR0.out (x : Int) (by omega) (by omega)
    rw [Int.toNat_natCast] at hv
    have hlt := World.block_lt_of_cell? w _ hv
    have hv2 : W.cell? (ad.add x) = some (.int .i64 (rd l0_0 (x : Int))) := by
      rw [hW _ (by simp; omega)]
      exact ((below_alloc (Below.refl _ w) _).cell hlt).trans hv
    refine refs1_gives W w.heap.size ad l0_0.length c0_0 x _ hx ?_ hv2
    rw [hW _ (by simp)]
    exact (blk_cell (blk_new w _) 0).trans rfl) HH.out).mono ?_; rintro e w' ⟨vr, rfl, ho, hb⟩; have HO := Aside0.mk ho; have HB := Aside0.mk hb; clear ho hb)
  go_ret
  have hle := below_size (below_alloc (Below.refl _ w) (.cells #[.slice A0_0 l0_0.length c0_0, .slice A0_1 l0_1.length c0_1, .int .i64 a0_2, .int .i64 a0_3, .slice A0_4 l0_4.length c0_4] 30))
  exact ⟨_, rfl, Kd.R_lower HO.out hle, (below_alloc (Below.refl _ w) _).trans (HB.out.mono hle)⟩
set_option maxRecDepth 100000 in
set_option maxHeartbeats 1000000 in
theorem ders1_gives (W : World) (gf : Nat) (ad : Addr) (n c x : Nat) (v : Int) (hx : x < n) (hf : W.cell? ⟨gf, 0, none⟩ = some (.slice (some ad) n c)) (hv : W.cell? (ad.add x) = some (.int .i64 v)) :
    FnGives Tryd.prog 55 #[.pointer (some ⟨gf, 0, none⟩)] #[encN x] (.bool (v == 2)) W := by
  show Calls Tryd.prog 55 #[encN x, .pointer (some ⟨gf, 0, none⟩)] W _
  have hu := Tryd.underlying30
  have h0 : (0 : Int) ≤ (x : Int) := by omega
  have h1 : (x : Int) < (n : Int) := by omega
  go_enter Tryd.func55, Tryd.ntmps55
  go_wp2
  go_ret
  exact ⟨rfl, 0, rfl⟩
def keep_Ders.f (k : Nat) (l0_0 : List Int) (l0_1 : List Int) (a0_2 : Int) (a0_3 : Int) (l0_4 : List S40) (l1 : List Int) : Option (List Int) := keepF k l0_0.length l1 (fun x => rd l0_0 (x : Int) == 2)
theorem keep_Ders.mono : ∀ a0 a1 a2 a3 a4 a5 k, LeO (keep_Ders.f k a0 a1 a2 a3 a4 a5) (keep_Ders.f (k + 1) a0 a1 a2 a3 a4 a5) := fun _ _ _ _ _ _ k => keepF_mono k _ _ _
set_option maxRecDepth 100000 in
set_option maxHeartbeats 4000000 in
theorem keep_Ders.calls (k : Nat) (A0_0 : Option Addr) (c0_0 : Nat) (l0_0 : List Int) (A0_1 : Option Addr) (c0_1 : Nat) (l0_1 : List Int) (a0_2 : Int) (a0_3 : Int) (A0_4 : Option Addr) (c0_4 : Nat) (l0_4 : List S40) (A1 : Option Addr) (c1 : Nat) (l1 : List Int) (r : List Int) (w : World) (hGB : GB w) (hr0_0 : Kd.C (Kd.int .i64) w A0_0 l0_0.length l0_0) (hc0_0 : l0_0.length ≤ c0_0) (hr0_1 : Kd.C (Kd.int .i64) w A0_1 l0_1.length l0_1) (hc0_1 : l0_1.length ≤ c0_1) (hr0_4 : Kd.C k40 w A0_4 l0_4.length l0_4) (hc0_4 : l0_4.length ≤ c0_4) (hr1 : Kd.C (Kd.int .u64) w A1 l1.length l1) (hc1 : l1.length ≤ c1) (h : keep_Ders.f k l0_0 l0_1 a0_2 a0_3 l0_4 l1 = some r) :
    Calls Tryd.prog 28 #[.agg #[.slice A0_0 l0_0.length c0_0, .slice A0_1 l0_1.length c0_1, .int .i64 a0_2, .int .i64 a0_3, .slice A0_4 l0_4.length c0_4], .slice A1 l1.length c1] w fun e w' => ∃ v0_ : Value, e = .returned (v0_) ∧ Kd.R (Kd.int .i64) 3 w' w.heap.size (fun _ => True) v0_ r ∧ Below w.heap.size w w' := by
  have HGB := Aside0.mk hGB
  have HR0 := Aside0.mk hr0_0
  have HR1 := Aside0.mk hr1
  have Hc1 := Aside0.mk hc1
  have HH : Aside0 (keepF k l0_0.length l1 (fun x => rd l0_0 (x : Int) == 2) = some r) := ⟨h⟩
  clear hGB hr0_0 hc0_0 hr0_1 hc0_1 hr0_4 hc0_4 hr1 hc1 h
  have hu := Tryd.underlying30
  go_enter Tryd.func28, Tryd.ntmps28
  go_wp2_with (go_at_call 50; refine (some_any k A0_0 l0_0.length c0_0 _ _ _ _ A1 c1 l1 55 #[.pointer (some ⟨w.heap.size, 0, none⟩)] (enters_of Tryd.func55 (by kernel_rfl) rfl) (fun x => rd l0_0 (x : Int) == 2) r _ (GB_alloc HGB.out) (Kd.Cx HR1.out) Hc1.out (fun W hW x hx => by
    obtain ⟨ad, rfl, hv⟩ := Kd.at_int HR0.out (x : Int) (by omega) (by omega)
    rw [Int.toNat_natCast] at hv
    have hlt := World.block_lt_of_cell? w _ hv
    have hv2 : W.cell? (ad.add x) = some (.int .i64 (rd l0_0 (x : Int))) := by
      rw [hW _ (by simp; omega)]
      exact ((below_alloc (Below.refl _ w) _).cell hlt).trans hv
    refine ders1_gives W w.heap.size ad l0_0.length c0_0 x _ hx ?_ hv2
    rw [hW _ (by simp)]
    exact (blk_cell (blk_new w _) 0).trans rfl) HH.out).mono ?_; rintro e w' ⟨vr, rfl, ho, hb⟩; have HO := Aside0.mk ho; have HB := Aside0.mk hb; clear ho hb)
  go_ret
  have hle := below_size (below_alloc (Below.refl _ w) (.cells #[.slice A0_0 l0_0.length c0_0, .slice A0_1 l0_1.length c0_1, .int .i64 a0_2, .int .i64 a0_3, .slice A0_4 l0_4.length c0_4] 30))
  exact ⟨_, rfl, Kd.R_lower HO.out hle, (below_alloc (Below.refl _ w) _).trans (HB.out.mono hle)⟩
end Go.Proofs.YtdmimhjmbdkhmaaDoor.X
end
