/- Contracts of functions that are proved by hand and of library functions. -/
import Derived.Shelf.Small.Strs
import Derived.Shelf.Strings.Search1
import Derived.Ground.Names2Prog
import Derived.Shelf.Slices.CompactI
import Derived.Ground.SlgmProg
import Derived.Shelf.SortM.Plain
import Derived.Shelf.SortM.SortNone
import Derived.Test.YtdmimhjmbdkhmaaDoorProg
import Derived.Test.YtdmimhjmbdkhmaaDoorZg
import Derived.Lib.OwnBridge
import Derived.Test.YtdmimhjmbdkhmaaDoorZw
set_option linter.unusedVariables false
set_option linter.unusedSimpArgs false
section
namespace Go.Proofs
open Go.Shelf
def Tryd.lays137_ren : Go.Shelf.Ren := ⟨fun | 137 => 92 | 217 => 105 | 266 => 112 | n => n, fun | 9 => 9 | 5 => 5 | 3 => 3 | n => n, fun | n => n⟩
theorem Tryd.lays137 : Go.Proofs.Lays.n137 Tryd.prog Tryd.lays137_ren := {
  mixed := by kernel_rfl
  f137 := Tryd.func92.trans (congrArg some (by kernel_rfl))
  f217 := Tryd.func105.trans (congrArg some (by kernel_rfl))
  f266 := Tryd.func112.trans (congrArg some (by kernel_rfl))
  t3 := Tryd.underlying3
  a3 := Tryd.isAgg3
  z3 := Tryd.sizeOf3
  v3 := Tryd.zeroValue3
  t5 := Tryd.underlying5
  a5 := Tryd.isAgg5
  z5 := Tryd.sizeOf5
  v5 := Tryd.zeroValue5
  t9 := Tryd.underlying9
  a9 := Tryd.isAgg9
  z9 := Tryd.sizeOf9
  v9 := Tryd.zeroValue9 }
open Go.RowKit in
theorem Tryd.strings_IndexByte (s : ByteArray) (c : Int) (w : World) :
    Calls Tryd.prog 92 #[.string s, .int .u8 c] w fun e w' => e = .returned (.int .i64 (Lib.indexByte s.data.toList c.toNat.toUInt8)) ∧ w' = w := Any.strings_IndexByte Tryd.lays137 s c w
def Tryd.lays217_ren : Go.Shelf.Ren := ⟨fun | 217 => 105 | 266 => 112 | n => n, fun | 9 => 9 | 5 => 5 | 3 => 3 | n => n, fun | n => n⟩
open Go.RowKit Go.Lib in
def Tryd.laysNm220_ren : Go.Shelf.Ren := ⟨fun | 20 => 86 | n => n, fun | 22 => 27 | 3 => 3 | 4 => 4 | 0 => 0 | n => n, fun | n => n⟩
theorem Tryd.laysNm220 : Go.Proofs.Lays2.n20 Tryd.prog Tryd.laysNm220_ren := {
  mixed := by kernel_rfl
  f20 := Tryd.func86.trans (congrArg some (by kernel_rfl))
  t0 := Tryd.underlying0
  a0 := Tryd.isAgg0
  z0 := Tryd.sizeOf0
  v0 := Tryd.zeroValue0
  t3 := Tryd.underlying3
  a3 := Tryd.isAgg3
  z3 := Tryd.sizeOf3
  v3 := Tryd.zeroValue3
  t4 := Tryd.underlying4
  a4 := Tryd.isAgg4
  z4 := Tryd.sizeOf4
  v4 := Tryd.zeroValue4
  t22 := Tryd.underlying27
  a22 := Tryd.isAgg27
  z22 := Tryd.sizeOf27
  v22 := Tryd.zeroValue27
  i3 := by kernel_rfl }
open Go.RowKit Go.Lib Go.Sort in
open Go.RowKit Go.Lib Go.Sort in
theorem Tryd.slices_Compact_int (blk off cap : Nat) (zs : List Int) (w : World) (hH : Holds (Value.int .i64) w blk off zs.toArray) (hsz : zs.length ≤ 9223372036854775807) (hcap : zs.length ≤ cap) :
    Calls Tryd.prog 86 #[.slice (some ⟨blk, off, none⟩) zs.length cap] w fun e w' => e = .returned (.slice (some ⟨blk, off, none⟩) (Lib.compact zs).length cap) ∧ ∃ q, w' = putRow (Value.int .i64) (Sort.ahead w q) blk off (Lib.compact zs ++ List.replicate (zs.length - (Lib.compact zs).length) 0).toArray := Any.slices_Compact_int Tryd.laysNm220 blk off cap zs w hH hsz hcap
open Go.RowKit Go.Lib Go.Sort in
theorem Tryd.slices_Compact_int_empty (a : Option Addr) (cap : Nat) (w : World) :
    Calls Tryd.prog 86 #[.slice a 0 cap] w fun e w' => e = .returned (.slice a 0 cap) ∧ w' = w := Any.slices_Compact_int_empty Tryd.laysNm220 a cap w
def Tryd.laysSlM5_f85_ren : Go.Shelf.Ren := ⟨fun | 5 => 85 | 8 => 91 | 7 => 90 | 19 => 103 | 20 => 104 | 10 => 94 | 11 => 95 | 12 => 96 | 13 => 97 | 14 => 98 | 15 => 99 | 16 => 100 | 17 => 101 | 18 => 102 | 30 => 106 | 31 => 107 | 32 => 108 | 33 => 109 | 34 => 110 | 35 => 111 | 40 => 113 | n => n, fun | 23 => 27 | 25 => 3 | 3 => 3 | 32 => 68 | 22 => 27 | 0 => 0 | 44 => 104 | 46 => 67 | 4 => 4 | 36 => 97 | 35 => 96 | 41 => 46 | 5 => 5 | 9 => 9 | 53 => 106 | 57 => 110 | 63 => 112 | 64 => 113 | n => n, fun | n => n⟩
theorem Tryd.laysSlM5_f85 : Go.Proofs.SlLaysM.n5 Tryd.prog Tryd.laysSlM5_f85_ren := {
  mixed := by kernel_rfl
  f5 := ⟨Tryd.f85.name, by decide, Tryd.func85.trans (congrArg some (by kernel_rfl))⟩
  f7 := ⟨Tryd.f90.name, by decide, Tryd.func90.trans (congrArg some (by kernel_rfl))⟩
  f8 := Tryd.func91.trans (congrArg some (by kernel_rfl))
  f10 := ⟨Tryd.f94.name, by decide, Tryd.func94.trans (congrArg some (by kernel_rfl))⟩
  f11 := ⟨Tryd.f95.name, by decide, Tryd.func95.trans (congrArg some (by kernel_rfl))⟩
  f12 := ⟨Tryd.f96.name, by decide, Tryd.func96.trans (congrArg some (by kernel_rfl))⟩
  f13 := ⟨Tryd.f97.name, by decide, Tryd.func97.trans (congrArg some (by kernel_rfl))⟩
  f14 := ⟨Tryd.f98.name, by decide, Tryd.func98.trans (congrArg some (by kernel_rfl))⟩
  f15 := ⟨Tryd.f99.name, by decide, Tryd.func99.trans (congrArg some (by kernel_rfl))⟩
  f16 := ⟨Tryd.f100.name, by decide, Tryd.func100.trans (congrArg some (by kernel_rfl))⟩
  f17 := ⟨Tryd.f101.name, by decide, Tryd.func101.trans (congrArg some (by kernel_rfl))⟩
  f18 := ⟨Tryd.f102.name, by decide, Tryd.func102.trans (congrArg some (by kernel_rfl))⟩
  f19 := Tryd.func103.trans (congrArg some (by kernel_rfl))
  f20 := Tryd.func104.trans (congrArg some (by kernel_rfl))
  f30 := ⟨Tryd.f106.name, by decide, Tryd.func106.trans (congrArg some (by kernel_rfl))⟩
  f31 := Tryd.func107.trans (congrArg some (by kernel_rfl))
  f32 := Tryd.func108.trans (congrArg some (by kernel_rfl))
  f33 := ⟨Tryd.f109.name, by decide, Tryd.func109.trans (congrArg some (by kernel_rfl))⟩
  f34 := ⟨Tryd.f110.name, by decide, Tryd.func110.trans (congrArg some (by kernel_rfl))⟩
  f35 := ⟨Tryd.f111.name, by decide, Tryd.func111.trans (congrArg some (by kernel_rfl))⟩
  f40 := ⟨Tryd.f113.name, by decide, Tryd.func113.trans (congrArg some (by kernel_rfl))⟩
  t0 := Tryd.underlying0
  a0 := Tryd.isAgg0
  z0 := Tryd.sizeOf0
  v0 := Tryd.zeroValue0
  t3 := Tryd.underlying3
  a3 := Tryd.isAgg3
  z3 := Tryd.sizeOf3
  v3 := Tryd.zeroValue3
  t4 := Tryd.underlying4
  a4 := Tryd.isAgg4
  z4 := Tryd.sizeOf4
  v4 := Tryd.zeroValue4
  t5 := Tryd.underlying5
  a5 := Tryd.isAgg5
  z5 := Tryd.sizeOf5
  v5 := Tryd.zeroValue5
  t9 := Tryd.underlying9
  a9 := Tryd.isAgg9
  z9 := Tryd.sizeOf9
  v9 := Tryd.zeroValue9
  t22 := Tryd.underlying27
  a22 := Tryd.isAgg27
  z22 := Tryd.sizeOf27
  v22 := Tryd.zeroValue27
  t23 := Tryd.underlying27
  a23 := Tryd.isAgg27
  z23 := Tryd.sizeOf27
  v23 := Tryd.zeroValue27
  t25 := Tryd.underlying3
  a25 := Tryd.isAgg3
  z25 := Tryd.sizeOf3
  v25 := Tryd.zeroValue3
  t32 := Tryd.underlying68
  a32 := Tryd.isAgg68
  z32 := Tryd.sizeOf68
  v32 := Tryd.zeroValue68
  t35 := Tryd.underlying96
  a35 := Tryd.isAgg96
  z35 := Tryd.sizeOf96
  v35 := Tryd.zeroValue96
  t36 := Tryd.underlying97
  a36 := Tryd.isAgg97
  z36 := Tryd.sizeOf97
  v36 := Tryd.zeroValue97
  t41 := Tryd.underlying46
  a41 := Tryd.isAgg46
  z41 := Tryd.sizeOf46
  v41 := Tryd.zeroValue46
  t44 := Tryd.underlying104
  a44 := Tryd.isAgg104
  z44 := Tryd.sizeOf104
  v44 := Tryd.zeroValue104
  t46 := Tryd.underlying67
  a46 := Tryd.isAgg67
  z46 := Tryd.sizeOf67
  v46 := Tryd.zeroValue67
  t53 := Tryd.underlying106
  a53 := Tryd.isAgg106
  z53 := Tryd.sizeOf106
  v53 := Tryd.zeroValue106
  t57 := Tryd.underlying110
  a57 := Tryd.isAgg110
  z57 := Tryd.sizeOf110
  v57 := Tryd.zeroValue110
  t63 := Tryd.underlying112
  a63 := Tryd.isAgg112
  z63 := Tryd.sizeOf112
  v63 := Tryd.zeroValue112
  t64 := Tryd.underlying113
  a64 := Tryd.isAgg113
  z64 := Tryd.sizeOf113
  v64 := Tryd.zeroValue113 }
open Go.Sort Go.RowKit in
theorem Tryd.slices_Sort_int (blk off cap : Nat) (zs : List Int) (w : World) (hH : Holds (Value.int .i64) w blk off zs.toArray) (hblk : blk < w.heap.size) (hsz : zs.length < 4611686018427387904) :
    Calls Tryd.prog 85 #[.slice (some ⟨blk, off, none⟩) zs.length cap] w fun e w' =>
      e = .returned (.tuple #[]) ∧ ∃ n os, w' = grow (putRow (Value.int .i64) (Sort.ahead w n) blk off (zs.mergeSort fun x y => decide (x ≤ y)).toArray) os := AnyM.slices_Sort_int Tryd.laysSlM5_f85 blk off cap zs w hH hblk hsz
open Go.RowKit Go.Sort in
theorem Tryd.slices_Sort_int_none (p : Option Addr) (cap : Nat) (w : World) :
    Calls Tryd.prog 85 #[.slice p 0 cap] w fun e w' => e = .returned (.tuple #[]) ∧ w' = w := AnyM.slices_Sort_int_none Tryd.laysSlM5_f85 p cap w
end Go.Proofs
end
section
set_option linter.unusedVariables false
namespace Go.Proofs.YtdmimhjmbdkhmaaDoor.X
open Go.RowKit Go.Proofs.YtdmimhjmbdkhmaaDoorW.PrintWords Go.Sort
theorem below_grow (w : World) (os : Array Obj) : Below w.heap.size w (grow w os) := ⟨rfl, rfl, rfl, by simp [grow], fun k hk => by simp [grow, Array.getElem?_append_left hk]⟩
theorem grownBy_putRow {α : Type} [Inhabited α] (enc : α → Value) (w : World) (g n : Nat) (d : Array α) : w.grownBy (putRow enc (Sort.ahead w n) g 0 d) (some g) := by
  refine ⟨rfl, rfl, rfl, by simp [putRow, mapBlock, Sort.ahead], fun k hk hne => ?_⟩
  have : g ≠ k := fun e => hne (by rw [e])
  simp [putRow, mapBlock, Sort.ahead, Array.getElem?_modify, this]
abbrev sortL (xs : List Int) : List Int := xs.mergeSort fun x y => decide (x ≤ y)
theorem sort_row {base : Nat} {ok : Nat → Prop} {v : Value} {xs : List Int} {w : World} (HO : (Kd.int .i64).R 3 w base ok v xs) (hsz : xs.length < 4611686018427387904) :
    Calls Tryd.prog 85 #[v] w fun e w' => e = .returned (.tuple #[]) ∧ (Kd.int .i64).R 3 w' base ok v (sortL xs) ∧ w.grownBy w' v.ownBlock := by
  have hown := Kd.own_of_R HO
  by_cases hv : v = .slice none 0 0
  · subst hv
    have hx : xs = [] := by
      rcases hown.2 with ⟨_, h0⟩ | ⟨g, cap, cur, he, _⟩
      · exact List.eq_nil_of_length_eq_zero h0
      · cases he
    subst hx
    refine (Tryd.slices_Sort_int_none none 0 w).mono ?_
    rintro e w' ⟨rfl, rfl⟩
    exact ⟨rfl, by simpa [sortL] using HO, World.grownBy.refl _ _⟩
  · obtain ⟨g, cap, rfl, hb, hlt, hn, hm, hl, hH⟩ := Lib.holds_of_ownsRow hown hv
    refine (Tryd.slices_Sort_int g 0 cap xs w hH hlt hsz).mono ?_
    rintro e w' ⟨rfl, n, os, rfl⟩
    have h1 := Lib.ownsRow_putRow (q := n) (ys := sortL xs) hown (by simp [sortL]) (Nat.le_refl _)
    rw [List.take_of_length_le (by simp [sortL])] at h1
    have h2 := pw_own_below h1 (below_grow _ os)
    refine ⟨rfl, Kd.R_of_own (by rw [show (sortL xs).length = xs.length from by simp [sortL]]; exact h2) HO.1, ?_⟩
    exact World.grownBy.trans (grownBy_putRow _ _ _ _ _) (grown_of_below (below_grow _ os) _)
theorem compact_length_le (xs : List Int) : (Lib.compact xs).length ≤ xs.length := by
  have h := List.length_filter_le (Lib.keeps xs.toArray) (List.range xs.length)
  simp only [Lib.compact, Lib.compactUpTo, List.length_map]
  simpa using h
theorem compact_row {base : Nat} {ok : Nat → Prop} {v : Value} {xs : List Int} {w : World} (HO : (Kd.int .i64).R 3 w base ok v xs) :
    Calls Tryd.prog 86 #[v] w fun e w' => ∃ v1 : Value, e = .returned v1 ∧ (Kd.int .i64).R 3 w' base ok v1 (Lib.compact xs) ∧ w.grownBy w' v.ownBlock ∧ v1.ownBlock = v.ownBlock := by
  have hown := Kd.own_of_R HO
  by_cases hx : xs = []
  · subst hx
    obtain ⟨A, c, rfl⟩ := Kd.R_slice HO
    refine (Tryd.slices_Compact_int_empty A c w).mono ?_
    rintro e w' ⟨rfl, rfl⟩
    exact ⟨_, rfl, HO, World.grownBy.refl _ _, rfl⟩
  · have hv : v ≠ .slice none 0 0 := by
      rintro rfl
      rcases hown.2 with ⟨_, h0⟩ | ⟨g, cap, cur, he, _⟩
      · exact hx (List.eq_nil_of_length_eq_zero h0)
      · cases he
    obtain ⟨g, cap, rfl, hb, hlt, hn, hm, hl, hH⟩ := Lib.holds_of_ownsRow hown hv
    refine (Tryd.slices_Compact_int g 0 cap xs w hH (Nat.le_trans hn hm) hn).mono ?_
    rintro e w' ⟨rfl, n, rfl⟩
    have hle := compact_length_le xs
    have h1 := Lib.ownsRow_putRow (q := n) (ys := Lib.compact xs ++ List.replicate (xs.length - (Lib.compact xs).length) 0) hown (by simp; omega) hle
    rw [List.take_left] at h1
    exact ⟨_, rfl, Kd.R_of_own h1 HO.1, grownBy_putRow _ _ _ _ _, rfl⟩
theorem sortL_two (a b : Int) : sortL [a, b] = if a ≤ b then [a, b] else [b, a] := by
  by_cases h : a ≤ b <;> simp [sortL, List.mergeSort, List.MergeSort.Internal.splitInTwo, h]
theorem sortL_one (a : Int) : sortL [a] = [a] := by simp [sortL]
theorem compact_one (a : Int) : Lib.compact [a] = [a] := by simp [Lib.compact, Lib.compactUpTo, Lib.keeps, List.range, List.range.loop]
theorem compact_two (a b : Int) : Lib.compact [a, b] = if a = b then [a] else [a, b] := by
  by_cases h : a = b
  · subst h; simp [Lib.compact, Lib.compactUpTo, Lib.keeps, List.range, List.range.loop]
  · have h' : ¬ b = a := fun e => h e.symm
    simp [Lib.compact, Lib.compactUpTo, Lib.keeps, List.range, List.range.loop, h, h']
def nextL (op N M : Int) : List Int := if op = 22 then (if N = M then [N] else if N ≤ M then [N, M] else [M, N]) else if op = 21 then [N] else []
theorem nextL_of (N M : Int) : Lib.compact (sortL [N, M]) = if N = M then [N] else if N ≤ M then [N, M] else [M, N] := by
  rw [sortL_two]
  by_cases h : N ≤ M
  · rw [if_pos h, compact_two]
  · have h2 : ¬ N = M := by omega
    have h3 : ¬ M = N := by omega
    rw [if_neg h, compact_two, if_neg h3, if_neg h2]
theorem lit_R (W : World) (n : Nat) (hn : W.heap.size = n) (base : Nat) (ok : Nat → Prop) (xs : List Int) (hb : base ≤ n) (hok : ok n) (hm : xs.length ≤ 9223372036854775807) :
    (Kd.int .i64).R 3 (W.alloc (.cells (encs (Value.int .i64) xs).toArray 3)) base ok (.slice (some ⟨n, 0, none⟩) xs.length xs.length) xs := by
  subst hn
  refine Kd.R_of_own ?_ (fun k hk => by have : W.heap.size = k := by simpa [Value.ownBlock] using hk
                                        rw [← this]; exact hok)
  have h := World.ownsRow_lit (base := base) (e := 3) (size := 1) W (encs (Value.int .i64) xs).toArray xs.length hb (by simpa [maxLen] using hm) (by simp [encs_length])
  simpa using h
def shape_Next.f (a0_0 a0_1 a0_2 a0_3 a0_4 a0_5 : Int) (l0_6 : List Int) : Option (List Int) := some (nextL a0_0 a0_4 a0_5)
set_option maxHeartbeats 2000000 in
theorem shape_Next.calls (a0_0 : Int) (a0_1 : Int) (a0_2 : Int) (a0_3 : Int) (a0_4 : Int) (a0_5 : Int) (A0_6 : Option Addr) (c0_6 : Nat) (l0_6 : List Int) (r : List Int) (w : World) (hr0_6 : Kd.C (Kd.int .i64) w A0_6 l0_6.length l0_6) (hc0_6 : l0_6.length ≤ c0_6) (h : shape_Next.f a0_0 a0_1 a0_2 a0_3 a0_4 a0_5 l0_6 = some r) :
    Calls Tryd.prog 77 #[.agg #[.int .i64 a0_0, .int .i64 a0_1, .int .i64 a0_2, .int .i64 a0_3, .int .i64 a0_4, .int .i64 a0_5, .slice A0_6 l0_6.length c0_6]] w fun e w' => ∃ v0_ : Value, e = .returned (v0_) ∧ Kd.R (Kd.int .i64) 3 w' w.heap.size (fun _ => True) v0_ r ∧ Below w.heap.size w w' := by
  have HRR := Aside0.mk (Option.some.inj h)
  clear h hr0_6 hc0_6
  have hu := Tryd.underlying44
  by_cases h22 : a0_0 = 22
  · have hb1 : (a0_0 == 22) = true := beq_iff_eq.mpr h22
    have HFIN : Aside0 (Lib.compact (sortL [a0_4, a0_5]) = r) := ⟨by rw [nextL_of, ← HRR.out, nextL, if_pos h22]⟩
    clear h22
    go_enter Tryd.func77, Tryd.ntmps77
    go_wp2_with (first | (go_at_call 85; refine (sort_row (base := w.heap.size) (ok := fun k_ => w.heap.size ≤ k_) (xs := [a0_4, a0_5]) (lit_R _ (w.heap.size + 1) (by simp) _ _ [a0_4, a0_5] (by omega) (by omega) (by simp)) (by simp)).mono ?_; rintro e w1 ⟨rfl, ho, hg⟩; have HO := Aside0.mk ho; have HB := Aside0.mk (pw_below_grown ((below_alloc (below_alloc (Below.refl _ w) _) _)) _ (by simp; omega) hg (fun k_ h_ => by simp [Value.ownBlock] at h_; omega)); clear ho hg) | (go_at_call 86; refine (compact_row HO.out).mono ?_; rintro e w2 ⟨v2, rfl, ho, hg, he⟩; have HO2 := Aside0.mk ho; have HB2 := Aside0.mk (pw_below_grown HB.out _ HB.out.size hg (fun k_ h_ => by simp [Value.ownBlock] at h_; omega)); clear ho hg he))
    go_ret
    exact ⟨_, rfl, by rw [← HFIN.out]; exact Kd.R_mono HO2.out (fun _ _ => trivial), HB2.out⟩
  · have hb1 : (a0_0 == 22) = false := beq_eq_false_iff_ne.mpr h22
    by_cases h21 : a0_0 = 21
    · have hb2 : (a0_0 == 21) = true := beq_iff_eq.mpr h21
      have HFIN : Aside0 (Lib.compact (sortL [a0_4]) = r) := ⟨by rw [sortL_one, compact_one, ← HRR.out, nextL, if_neg h22, if_pos h21]⟩
      clear h22 h21
      go_enter Tryd.func77, Tryd.ntmps77
      go_wp2_with (first | (go_at_call 85; refine (sort_row (base := w.heap.size) (ok := fun k_ => w.heap.size ≤ k_) (xs := [a0_4]) (lit_R _ (w.heap.size + 1) (by simp) _ _ [a0_4] (by omega) (by omega) (by simp)) (by simp)).mono ?_; rintro e w1 ⟨rfl, ho, hg⟩; have HO := Aside0.mk ho; have HB := Aside0.mk (pw_below_grown ((below_alloc (below_alloc (Below.refl _ w) _) _)) _ (by simp; omega) hg (fun k_ h_ => by simp [Value.ownBlock] at h_; omega)); clear ho hg) | (go_at_call 86; refine (compact_row HO.out).mono ?_; rintro e w2 ⟨v2, rfl, ho, hg, he⟩; have HO2 := Aside0.mk ho; have HB2 := Aside0.mk (pw_below_grown HB.out _ HB.out.size hg (fun k_ h_ => by simp [Value.ownBlock] at h_; omega)); clear ho hg he))
      go_ret
      exact ⟨_, rfl, by rw [← HFIN.out]; exact Kd.R_mono HO2.out (fun _ _ => trivial), HB2.out⟩
    · have hb2 : (a0_0 == 21) = false := beq_eq_false_iff_ne.mpr h21
      have HFIN : Aside0 (Lib.compact (sortL []) = r) := ⟨by rw [← HRR.out, nextL, if_neg h22, if_neg h21]; simp [sortL, Lib.compact, Lib.compactUpTo]⟩
      clear h22 h21
      go_enter Tryd.func77, Tryd.ntmps77
      go_wp2_with (first | (go_at_call 85; refine (sort_row (base := w.heap.size) (ok := fun k_ => w.heap.size ≤ k_) (xs := []) (Kd.R_nil _ _ _ _ _) (by simp)).mono ?_; rintro e w1 ⟨rfl, ho, hg⟩; have HO := Aside0.mk ho; have HB := Aside0.mk (pw_below_grown (below_alloc (Below.refl _ w) _) _ (by simp) hg (fun k_ h_ => by simp [Value.ownBlock] at h_)); clear ho hg) | (go_at_call 86; refine (compact_row HO.out).mono ?_; rintro e w2 ⟨v2, rfl, ho, hg, he⟩; have HO2 := Aside0.mk ho; have HB2 := Aside0.mk (pw_below_grown HB.out _ HB.out.size hg (fun k_ h_ => by simp [Value.ownBlock] at h_)); clear ho hg he))
      go_ret
      exact ⟨_, rfl, by rw [← HFIN.out]; exact Kd.R_mono HO2.out (fun _ _ => trivial), HB2.out⟩
end Go.Proofs.YtdmimhjmbdkhmaaDoor.X
end
section
set_option linter.unusedVariables false
namespace Go.Proofs.YtdmimhjmbdkhmaaDoor.X
open Go.RowKit Go.Proofs.YtdmimhjmbdkhmaaDoorW.PrintWords
def partsF (op : Int) : ByteArray := if op < 0 then ⟨#[]⟩ else if op ≥ 24 then ⟨#[]⟩ else partsB.getD op.toNat ⟨#[]⟩
def strings_IndexByte.f (a0 : ByteArray) (a1 : Int) : Option Int := some (Lib.indexByte a0.data.toList a1.toNat.toUInt8)
theorem strings_IndexByte.calls (a0 : ByteArray) (a1 : Int) (r : Int) (w : World) (h : strings_IndexByte.f a0 a1 = some r) :
    Calls Tryd.prog 92 #[.string a0, .int .u8 a1] w fun e w' => e = .returned (.int .i64 r) ∧ Drawn0 w w' := by
  obtain rfl := Option.some.inj h
  refine (Tryd.strings_IndexByte a0 a1 w).mono ?_
  rintro e w' ⟨rfl, rfl⟩
  exact ⟨rfl, Drawn0.refl _⟩
set_option maxHeartbeats 8000000 in
theorem ref_Parts (op : Int) (w : World) : Calls Tryd.prog 67 #[.int .i64 op] w fun e w' => e = .returned (.string (partsF op)) ∧ w = w' := by
  by_cases h : 1 ≤ op ∧ op ≤ 23
  · have hc : op = 1 ∨ op = 2 ∨ op = 3 ∨ op = 4 ∨ op = 5 ∨ op = 6 ∨ op = 7 ∨ op = 8 ∨ op = 9 ∨ op = 10 ∨ op = 11 ∨ op = 12 ∨ op = 13 ∨ op = 14 ∨ op = 15 ∨ op = 16 ∨ op = 17 ∨ op = 18 ∨ op = 19 ∨ op = 20 ∨ op = 21 ∨ op = 22 ∨ op = 23 := by omega
    clear h
    rcases hc with rfl | rfl | rfl | rfl | rfl | rfl | rfl | rfl | rfl | rfl | rfl | rfl | rfl | rfl | rfl | rfl | rfl | rfl | rfl | rfl | rfl | rfl | rfl
    all_goals
      go_enter Tryd.func67, Tryd.ntmps67
      go_wp2
      go_ret
      exact ⟨rfl, rfl⟩
  · have hF : partsF op = ⟨#[]⟩ := by
      unfold partsF
      split
      · rfl
      · split
        · rfl
        · obtain rfl : op = 0 := by omega
          rfl
    rw [hF]
    have n1 : (op == 1) = false := beq_eq_false_iff_ne.mpr (by omega)
    have n2 : (op == 2) = false := beq_eq_false_iff_ne.mpr (by omega)
    have n3 : (op == 3) = false := beq_eq_false_iff_ne.mpr (by omega)
    have n4 : (op == 4) = false := beq_eq_false_iff_ne.mpr (by omega)
    have n5 : (op == 5) = false := beq_eq_false_iff_ne.mpr (by omega)
    have n6 : (op == 6) = false := beq_eq_false_iff_ne.mpr (by omega)
    have n7 : (op == 7) = false := beq_eq_false_iff_ne.mpr (by omega)
    have n8 : (op == 8) = false := beq_eq_false_iff_ne.mpr (by omega)
    have n9 : (op == 9) = false := beq_eq_false_iff_ne.mpr (by omega)
    have n10 : (op == 10) = false := beq_eq_false_iff_ne.mpr (by omega)
    have n11 : (op == 11) = false := beq_eq_false_iff_ne.mpr (by omega)
    have n12 : (op == 12) = false := beq_eq_false_iff_ne.mpr (by omega)
    have n13 : (op == 13) = false := beq_eq_false_iff_ne.mpr (by omega)
    have n14 : (op == 14) = false := beq_eq_false_iff_ne.mpr (by omega)
    have n15 : (op == 15) = false := beq_eq_false_iff_ne.mpr (by omega)
    have n16 : (op == 16) = false := beq_eq_false_iff_ne.mpr (by omega)
    have n17 : (op == 17) = false := beq_eq_false_iff_ne.mpr (by omega)
    have n18 : (op == 18) = false := beq_eq_false_iff_ne.mpr (by omega)
    have n19 : (op == 19) = false := beq_eq_false_iff_ne.mpr (by omega)
    have n20 : (op == 20) = false := beq_eq_false_iff_ne.mpr (by omega)
    have n21 : (op == 21) = false := beq_eq_false_iff_ne.mpr (by omega)
    have n22 : (op == 22) = false := beq_eq_false_iff_ne.mpr (by omega)
    have n23 : (op == 23) = false := beq_eq_false_iff_ne.mpr (by omega)
    clear h hF
    go_enter Tryd.func67, Tryd.ntmps67
    go_wp2
    go_ret
    exact ⟨rfl, rfl⟩
def hasS (s : ByteArray) (c : Int) : Bool := s.data.toList.any fun b => (b.toNat : Int) == c
def hasF (op c : Int) : Bool := hasS (partsF op) c
theorem partsF_size (op : Int) : (partsF op).size ≤ 3 := by
  unfold partsF
  split
  · decide
  · split
    · decide
    · have hc : op.toNat < 24 := by omega
      generalize op.toNat = n at hc
      revert n
      decide
theorem bt_eq (s : ByteArray) (j : Nat) (h : j < s.size) : bt s (j : Int) = ((s.data.toList[j]'(by simpa using h)).toNat : Int) := by
  rw [← bt_at s (j : Int) (by omega)]
  simp [ByteArray.getElem_eq_getElem_data]
theorem has_yes {s : ByteArray} {c : Int} {k : Nat} (h : k < s.size) (hb : (bt s (k : Int) == c) = true) : hasS s c = true := by
  unfold hasS
  rw [bt_eq s k h] at hb
  exact List.any_eq_true.mpr ⟨_, List.getElem_mem _, hb⟩
theorem has_no {s : ByteArray} {c : Int} (h : ∀ j : Nat, j < s.size → (bt s (j : Int) == c) = false) : hasS s c = false := by
  unfold hasS
  refine List.any_eq_false.mpr fun b hb => ?_
  obtain ⟨j, hj, rfl⟩ := List.getElem_of_mem hb
  have := h j (by simpa using hj)
  rw [bt_eq s j (by simpa using hj)] at this
  rw [this]; simp
set_option maxHeartbeats 1000000 in
theorem ref_has (op c : Int) (w : World) : Calls Tryd.prog 43 #[.int .i64 op, .int .u8 c] w fun e w' => e = .returned (.bool (hasF op c)) ∧ Drawn0 w w' := by
  have hs := partsF_size op
  unfold hasF
  generalize hp : partsF op = s at hs ⊢
  have HP := Aside0.mk hp
  clear hp
  go_enter Tryd.func43, Tryd.ntmps43
  go_wp2_with (go_at_call 67; refine (ref_Parts op _).mono ?_; rintro e w' ⟨rfl, rfl⟩; rw [HP.out])
  go_loopw [6] (fun i wr => ∃ k : Nat, k ≤ s.size ∧ i = .int .i64 k ∧ Aside0 (∀ j : Nat, j < k → ((bt s j : Int) == c) = false) ∧ Aside0 (Drawn0 w wr)) (fun i _ => s.size - (intOf i).toNat)
  case atStart => exact ⟨0, Nat.zero_le _, rfl, ⟨fun j h => absurd h (by omega)⟩, ⟨Drawn0.refl _⟩⟩
  case round =>
    obtain ⟨k, hk, rfl, hN, HD⟩ := hrel
    obtain ⟨nd, rfl⟩ := HD.out
    by_cases hlt : k < s.size
    · have c1 : (decide ((k : Int) < (s.size : Int))) = true := decide_eq_true (by omega)
      have hb : ∀ h : k < s.size, ((s[k]'h).toNat : Int) = bt s (k : Int) := fun h => bt_at s (k : Int) (by simpa using h)
      have p6 : (0 : Int) ≤ (k : Int) := by omega
      have q6 : (k : Int) < (s.size : Int) := by omega
      replace p6 := eq_true p6
      replace q6 := eq_true q6
      by_cases hc : (bt s (k : Int) == c) = true
      · go_wp2
        go_ret
        exact ⟨by rw [has_yes hlt hc]; rfl, by repeat (first | exact Drawn0.refl _ | apply Drawn0.step)⟩
      · have hc2 : (bt s (k : Int) == c) = false := by simpa using hc
        go_wp2
        go_roundw
        case rel => exact ⟨k + 1, hlt, by go_num, ⟨fun j hj => by rcases Nat.lt_succ_iff_lt_or_eq.mp hj with h | rfl; exact hN.out j h; exact hc2⟩, ⟨by repeat (first | exact Drawn0.refl _ | apply Drawn0.step)⟩⟩
        case measure => simp [intOf]; omega
    · have c1 : (decide ((k : Int) < (s.size : Int))) = false := decide_eq_false (by omega)
      go_wp2
      go_ret
      exact ⟨by rw [has_no (fun j hj => hN.out j (by omega))]; rfl, by repeat (first | exact Drawn0.refl _ | apply Drawn0.step)⟩
def portolanref03_Parts.f (a0 : Int) : Option ByteArray := some (partsF a0)
theorem portolanref03_Parts.calls (a0 : Int) (r : ByteArray) (w : World) (h : portolanref03_Parts.f a0 = some r) :
    Calls Tryd.prog 67 #[.int .i64 a0] w fun e w' => e = .returned (.string r) ∧ Drawn0 w w' := by
  obtain rfl := Option.some.inj h
  refine (ref_Parts a0 w).mono ?_
  rintro e w' ⟨rfl, rfl⟩
  exact ⟨rfl, Drawn0.refl _⟩
def portolanref04_has.f (a0 : Int) (a1 : Int) : Option Bool := some (hasF a0 a1)
theorem portolanref04_has.calls (a0 : Int) (a1 : Int) (r : Bool) (w : World) (h : portolanref04_has.f a0 a1 = some r) :
    Calls Tryd.prog 43 #[.int .i64 a0, .int .u8 a1] w fun e w' => e = .returned (.bool r) ∧ Drawn0 w w' := by
  obtain rfl := Option.some.inj h
  exact ref_has a0 a1 w
end Go.Proofs.YtdmimhjmbdkhmaaDoor.X
end
section
set_option linter.unusedVariables false
namespace Go.Proofs.YtdmimhjmbdkhmaaDoor.X
open Go.RowKit Go.Proofs.YtdmimhjmbdkhmaaDoorW.PrintWords
section
variable {P : Program} {ops : Array Oper} {Q : Exit → Act → World → Prop}
theorem upon_same {o : Oper} {a : Act} {K : Act → World → Prop} {R : Act → World → Prop} {r} : o.upon P a K (fun e a w => match e with | .normal => R a w | e => Q e a w) r → o.upon P a K Q r := by
  intro h
  rcases r with ⟨x, w'⟩ | ⟨x, w'⟩ <;> cases x <;> exact h
theorem wpList_cutat (n : Nat) (R : Act → World → Prop) : ∀ (l : List Oper) (a : Act) (w : World), (∀ a w, R a w → wpList P ops Q (l.drop n) a w) → wpList P ops (fun e a w => match e with | .normal => R a w | e => Q e a w) (l.take n) a w → wpList P ops Q l a w := by
  induction n with
  | zero => intro l a w hR h; exact hR a w h
  | succ n ih =>
    intro l a w hR h
    cases l with
    | nil => exact hR a w h
    | cons o l =>
      simp only [List.take_succ_cons, List.drop_succ_cons] at hR h
      unfold wpList at h ⊢
      split at h
      · rename_i hw
        rw [if_pos hw]
        rcases h with h | h
        · refine Or.inl ?_
          have h1 := Oper.wp_mono (K' := wpList P ops Q l) (fun a w h => ih l a w hR h) h
          exact upon_same h1
        · exact Or.inr h
      · rename_i hw
        rw [if_neg hw]
        exact ih l _ w hR h
theorem gate_some {d op t p af g} {rest : List Oper} {a : Act} {W : World} (hw : Region.wanted { dst := d, op := op, type := t, pos := p, after := af, guard := some g } (yielded ops a.tmps) = true) (h : wpList P ops Q ({ dst := d, op := op, type := t, pos := p, after := af, guard := none } :: rest) a W) : wpList P ops Q ({ dst := d, op := op, type := t, pos := p, after := af, guard := some g } :: rest) a W := gate_guard hw h
theorem skip_some {d op t p af g} {rest : List Oper} {a : Act} {W : World} (hw : Region.wanted { dst := d, op := op, type := t, pos := p, after := af, guard := some g } (yielded ops a.tmps) = false) (h : wpList P ops Q rest (a.put d undef) W) : wpList P ops Q ({ dst := d, op := op, type := t, pos := p, after := af, guard := some g } :: rest) a W := skip_guard hw h
end
def bareF (op d a b n m : Int) (len : Nat) : Bool := ((d == 0) || hasF op 68) && ((a == 0) || hasF op 65) && ((b == 0) || hasF op 66) && ((n == 0) || hasF op 78 || hasF op 110) && ((m == 0) || hasF op 77) && (((len : Int) == 0) || hasF op 76)
set_option maxHeartbeats 8000000 in
set_option maxRecDepth 100000 in
theorem bare (op d a b n m : Int) (A : Option Addr) (len c : Nat) (w : World) :
    Calls Tryd.prog 76 #[.agg #[.int .i64 op, .int .i64 d, .int .i64 a, .int .i64 b, .int .i64 n, .int .i64 m, .slice A len c]] w fun e w' => e = .returned (.bool (bareF op d a b n m len)) ∧ Below w.heap.size w w' := by
  have hu44 := Tryd.underlying44
  unfold bareF
  go_enter Tryd.func76, Tryd.ntmps76
  refine wp_seq_k fun K hK => ?_
  replace hK := Aside0.mk hK
  go_wp2
  refine hK.out _ _ ?_
  clear hK
  refine wp_seq_k fun K2 hK2 => ?_
  replace hK2 := Aside0.mk hK2
  refine wp_region_lit ?_
  simp only [List.append_eq, List.cons_append, List.nil_append]
  obtain ⟨R0, hR00⟩ : ∃ R : Act → World → Prop, ∀ a' w', R a' w' ↔ (∃ u3 u4 u5 u6 u7 u8 u9 u10 : Value, ∃ bb : Bool, bb = (((d == 0) || hasF op 68)) ∧ a' = { tmps := #[.agg #[.int .i64 op, .int .i64 d, .int .i64 a, .int .i64 b, .int .i64 n, .int .i64 m, .slice A len c], .pointer (some ⟨w.heap.size, 0, none⟩), .bool false, u3, u4, u5, u6, u7, u8, u9, u10, .bool bb, undef, undef, undef, undef, undef, undef, undef, undef, undef, undef, undef, undef, undef, undef, undef, undef, undef, undef, undef, undef, undef, undef, undef, undef, undef, undef, undef, undef, undef, undef, undef, undef, undef, undef, undef, undef, undef, undef, undef, undef, undef, undef, undef, undef, undef, undef, undef, undef, undef, undef, undef, undef, undef, undef, undef], defers := [] } ∧ Drawn0 (w.alloc (.cells #[.int .i64 op, .int .i64 d, .int .i64 a, .int .i64 b, .int .i64 n, .int .i64 m, .slice A len c] 44)) w') := ⟨_, fun _ _ => Iff.rfl⟩
  have hR0 := Aside0.mk hR00
  clear hR00
  refine wpList_cutat 9 R0 _ _ _ ?rest0 ?chunk0
  case chunk0 =>
    simp only [List.take_succ_cons, List.take_zero]
    cases q0 : (d == 0)
    · skip
      cases q1 : hasF op 68
      · (go_wp2_with (first | (with_reducible refine gate_some (by rfl) ?_) | (with_reducible refine skip_some (by rfl) ?_; go_simp) | (go_at_call 43; refine (ref_has _ _ _).mono ?_; rintro e w' ⟨rfl, nd, rfl⟩; first | rw [q0] | rw [q1])); exact (hR0.out _ _).mpr ⟨_, _, _, _, _, _, _, _, false, by rw [q0, q1]; try rfl, rfl, by repeat (first | exact Drawn0.refl _ | apply Drawn0.step)⟩)
      · (go_wp2_with (first | (with_reducible refine gate_some (by rfl) ?_) | (with_reducible refine skip_some (by rfl) ?_; go_simp) | (go_at_call 43; refine (ref_has _ _ _).mono ?_; rintro e w' ⟨rfl, nd, rfl⟩; first | rw [q0] | rw [q1])); exact (hR0.out _ _).mpr ⟨_, _, _, _, _, _, _, _, true, by rw [q0, q1]; try rfl, rfl, by repeat (first | exact Drawn0.refl _ | apply Drawn0.step)⟩)
    · (go_wp2_with (first | (with_reducible refine gate_some (by rfl) ?_) | (with_reducible refine skip_some (by rfl) ?_; go_simp) | (go_at_call 43; refine (ref_has _ _ _).mono ?_; rintro e w' ⟨rfl, nd, rfl⟩; first | rw [q0])); exact (hR0.out _ _).mpr ⟨_, _, _, _, _, _, _, _, true, by rw [q0]; try rfl, rfl, by repeat (first | exact Drawn0.refl _ | apply Drawn0.step)⟩)
  case rest0 =>
  intro a' w' hR
  obtain ⟨u3, u4, u5, u6, u7, u8, u9, u10, bb, hbb, rfl, nd0, rfl⟩ := (hR0.out _ _).mp hR
  replace hbb := Aside0.mk hbb
  clear hR hR0
  simp only [List.drop_succ_cons, List.drop_zero]
  obtain ⟨R1, hR10⟩ : ∃ R : Act → World → Prop, ∀ a' w', R a' w' ↔ (∃ u3 u4 u5 u6 u7 u8 u9 u10 u11 u12 u13 u14 u15 u16 u17 u18 u19 u20 : Value, ∃ bb : Bool, bb = ((((d == 0) || hasF op 68)) && ((a == 0) || hasF op 65)) ∧ a' = { tmps := #[.agg #[.int .i64 op, .int .i64 d, .int .i64 a, .int .i64 b, .int .i64 n, .int .i64 m, .slice A len c], .pointer (some ⟨w.heap.size, 0, none⟩), .bool false, u3, u4, u5, u6, u7, u8, u9, u10, u11, u12, u13, u14, u15, u16, u17, u18, u19, u20, .bool bb, undef, undef, undef, undef, undef, undef, undef, undef, undef, undef, undef, undef, undef, undef, undef, undef, undef, undef, undef, undef, undef, undef, undef, undef, undef, undef, undef, undef, undef, undef, undef, undef, undef, undef, undef, undef, undef, undef, undef, undef, undef, undef, undef, undef, undef], defers := [] } ∧ Drawn0 (w.alloc (.cells #[.int .i64 op, .int .i64 d, .int .i64 a, .int .i64 b, .int .i64 n, .int .i64 m, .slice A len c] 44)) w') := ⟨_, fun _ _ => Iff.rfl⟩
  have hR1 := Aside0.mk hR10
  clear hR10
  refine wpList_cutat 10 R1 _ _ _ ?rest1 ?chunk1
  case chunk1 =>
    simp only [List.take_succ_cons, List.take_zero]
    cases bb
    · (go_wp2_with (first | (with_reducible refine gate_some (by rfl) ?_) | (with_reducible refine skip_some (by rfl) ?_; go_simp)); exact (hR1.out _ _).mpr ⟨_, _, _, _, _, _, _, _, _, _, _, _, _, _, _, _, _, _, false, by rw [← hbb.out]; try rfl, rfl, by repeat (first | exact Drawn0.refl _ | apply Drawn0.step)⟩)
    · skip
      cases q0 : (a == 0)
      · skip
        cases q1 : hasF op 65
        · (go_wp2_with (first | (with_reducible refine gate_some (by rfl) ?_) | (with_reducible refine skip_some (by rfl) ?_; go_simp) | (go_at_call 43; refine (ref_has _ _ _).mono ?_; rintro e w' ⟨rfl, nd, rfl⟩; first | rw [q0] | rw [q1])); exact (hR1.out _ _).mpr ⟨_, _, _, _, _, _, _, _, _, _, _, _, _, _, _, _, _, _, false, by rw [← hbb.out, q0, q1]; try rfl, rfl, by repeat (first | exact Drawn0.refl _ | apply Drawn0.step)⟩)
        · (go_wp2_with (first | (with_reducible refine gate_some (by rfl) ?_) | (with_reducible refine skip_some (by rfl) ?_; go_simp) | (go_at_call 43; refine (ref_has _ _ _).mono ?_; rintro e w' ⟨rfl, nd, rfl⟩; first | rw [q0] | rw [q1])); exact (hR1.out _ _).mpr ⟨_, _, _, _, _, _, _, _, _, _, _, _, _, _, _, _, _, _, true, by rw [← hbb.out, q0, q1]; try rfl, rfl, by repeat (first | exact Drawn0.refl _ | apply Drawn0.step)⟩)
      · (go_wp2_with (first | (with_reducible refine gate_some (by rfl) ?_) | (with_reducible refine skip_some (by rfl) ?_; go_simp) | (go_at_call 43; refine (ref_has _ _ _).mono ?_; rintro e w' ⟨rfl, nd, rfl⟩; first | rw [q0])); exact (hR1.out _ _).mpr ⟨_, _, _, _, _, _, _, _, _, _, _, _, _, _, _, _, _, _, true, by rw [← hbb.out, q0]; try rfl, rfl, by repeat (first | exact Drawn0.refl _ | apply Drawn0.step)⟩)
  case rest1 =>
  intro a' w' hR
  obtain ⟨u3, u4, u5, u6, u7, u8, u9, u10, u11, u12, u13, u14, u15, u16, u17, u18, u19, u20, bb, hbb, rfl, nd1, rfl⟩ := (hR1.out _ _).mp hR
  replace hbb := Aside0.mk hbb
  clear hR hR1
  simp only [List.drop_succ_cons, List.drop_zero]
  obtain ⟨R2, hR20⟩ : ∃ R : Act → World → Prop, ∀ a' w', R a' w' ↔ (∃ u3 u4 u5 u6 u7 u8 u9 u10 u11 u12 u13 u14 u15 u16 u17 u18 u19 u20 u21 u22 u23 u24 u25 u26 u27 u28 u29 u30 : Value, ∃ bb : Bool, bb = (((((d == 0) || hasF op 68)) && ((a == 0) || hasF op 65)) && ((b == 0) || hasF op 66)) ∧ a' = { tmps := #[.agg #[.int .i64 op, .int .i64 d, .int .i64 a, .int .i64 b, .int .i64 n, .int .i64 m, .slice A len c], .pointer (some ⟨w.heap.size, 0, none⟩), .bool false, u3, u4, u5, u6, u7, u8, u9, u10, u11, u12, u13, u14, u15, u16, u17, u18, u19, u20, u21, u22, u23, u24, u25, u26, u27, u28, u29, u30, .bool bb, undef, undef, undef, undef, undef, undef, undef, undef, undef, undef, undef, undef, undef, undef, undef, undef, undef, undef, undef, undef, undef, undef, undef, undef, undef, undef, undef, undef, undef, undef, undef, undef, undef, undef, undef], defers := [] } ∧ Drawn0 (w.alloc (.cells #[.int .i64 op, .int .i64 d, .int .i64 a, .int .i64 b, .int .i64 n, .int .i64 m, .slice A len c] 44)) w') := ⟨_, fun _ _ => Iff.rfl⟩
  have hR2 := Aside0.mk hR20
  clear hR20
  refine wpList_cutat 10 R2 _ _ _ ?rest2 ?chunk2
  case chunk2 =>
    simp only [List.take_succ_cons, List.take_zero]
    cases bb
    · (go_wp2_with (first | (with_reducible refine gate_some (by rfl) ?_) | (with_reducible refine skip_some (by rfl) ?_; go_simp)); exact (hR2.out _ _).mpr ⟨_, _, _, _, _, _, _, _, _, _, _, _, _, _, _, _, _, _, _, _, _, _, _, _, _, _, _, _, false, by rw [← hbb.out]; try rfl, rfl, by repeat (first | exact Drawn0.refl _ | apply Drawn0.step)⟩)
    · skip
      cases q0 : (b == 0)
      · skip
        cases q1 : hasF op 66
        · (go_wp2_with (first | (with_reducible refine gate_some (by rfl) ?_) | (with_reducible refine skip_some (by rfl) ?_; go_simp) | (go_at_call 43; refine (ref_has _ _ _).mono ?_; rintro e w' ⟨rfl, nd, rfl⟩; first | rw [q0] | rw [q1])); exact (hR2.out _ _).mpr ⟨_, _, _, _, _, _, _, _, _, _, _, _, _, _, _, _, _, _, _, _, _, _, _, _, _, _, _, _, false, by rw [← hbb.out, q0, q1]; try rfl, rfl, by repeat (first | exact Drawn0.refl _ | apply Drawn0.step)⟩)
        · (go_wp2_with (first | (with_reducible refine gate_some (by rfl) ?_) | (with_reducible refine skip_some (by rfl) ?_; go_simp) | (go_at_call 43; refine (ref_has _ _ _).mono ?_; rintro e w' ⟨rfl, nd, rfl⟩; first | rw [q0] | rw [q1])); exact (hR2.out _ _).mpr ⟨_, _, _, _, _, _, _, _, _, _, _, _, _, _, _, _, _, _, _, _, _, _, _, _, _, _, _, _, true, by rw [← hbb.out, q0, q1]; try rfl, rfl, by repeat (first | exact Drawn0.refl _ | apply Drawn0.step)⟩)
      · (go_wp2_with (first | (with_reducible refine gate_some (by rfl) ?_) | (with_reducible refine skip_some (by rfl) ?_; go_simp) | (go_at_call 43; refine (ref_has _ _ _).mono ?_; rintro e w' ⟨rfl, nd, rfl⟩; first | rw [q0])); exact (hR2.out _ _).mpr ⟨_, _, _, _, _, _, _, _, _, _, _, _, _, _, _, _, _, _, _, _, _, _, _, _, _, _, _, _, true, by rw [← hbb.out, q0]; try rfl, rfl, by repeat (first | exact Drawn0.refl _ | apply Drawn0.step)⟩)
  case rest2 =>
  intro a' w' hR
  obtain ⟨u3, u4, u5, u6, u7, u8, u9, u10, u11, u12, u13, u14, u15, u16, u17, u18, u19, u20, u21, u22, u23, u24, u25, u26, u27, u28, u29, u30, bb, hbb, rfl, nd2, rfl⟩ := (hR2.out _ _).mp hR
  replace hbb := Aside0.mk hbb
  clear hR hR2
  simp only [List.drop_succ_cons, List.drop_zero]
  obtain ⟨R3, hR30⟩ : ∃ R : Act → World → Prop, ∀ a' w', R a' w' ↔ (∃ u3 u4 u5 u6 u7 u8 u9 u10 u11 u12 u13 u14 u15 u16 u17 u18 u19 u20 u21 u22 u23 u24 u25 u26 u27 u28 u29 u30 u31 u32 u33 u34 u35 u36 u37 u38 u39 u40 u41 u42 u43 u44 u45 : Value, ∃ bb : Bool, bb = ((((((d == 0) || hasF op 68)) && ((a == 0) || hasF op 65)) && ((b == 0) || hasF op 66)) && (((n == 0) || hasF op 78) || hasF op 110)) ∧ a' = { tmps := #[.agg #[.int .i64 op, .int .i64 d, .int .i64 a, .int .i64 b, .int .i64 n, .int .i64 m, .slice A len c], .pointer (some ⟨w.heap.size, 0, none⟩), .bool false, u3, u4, u5, u6, u7, u8, u9, u10, u11, u12, u13, u14, u15, u16, u17, u18, u19, u20, u21, u22, u23, u24, u25, u26, u27, u28, u29, u30, u31, u32, u33, u34, u35, u36, u37, u38, u39, u40, u41, u42, u43, u44, u45, .bool bb, undef, undef, undef, undef, undef, undef, undef, undef, undef, undef, undef, undef, undef, undef, undef, undef, undef, undef, undef, undef], defers := [] } ∧ Drawn0 (w.alloc (.cells #[.int .i64 op, .int .i64 d, .int .i64 a, .int .i64 b, .int .i64 n, .int .i64 m, .slice A len c] 44)) w') := ⟨_, fun _ _ => Iff.rfl⟩
  have hR3 := Aside0.mk hR30
  clear hR30
  refine wpList_cutat 15 R3 _ _ _ ?rest3 ?chunk3
  case chunk3 =>
    simp only [List.take_succ_cons, List.take_zero]
    cases bb
    · (go_wp2_with (first | (with_reducible refine gate_some (by rfl) ?_) | (with_reducible refine skip_some (by rfl) ?_; go_simp)); exact (hR3.out _ _).mpr ⟨_, _, _, _, _, _, _, _, _, _, _, _, _, _, _, _, _, _, _, _, _, _, _, _, _, _, _, _, _, _, _, _, _, _, _, _, _, _, _, _, _, _, _, false, by rw [← hbb.out]; try rfl, rfl, by repeat (first | exact Drawn0.refl _ | apply Drawn0.step)⟩)
    · skip
      cases q0 : (n == 0)
      · skip
        cases q1 : hasF op 78
        · skip
          cases q2 : hasF op 110
          · (go_wp2_with (first | (with_reducible refine gate_some (by rfl) ?_) | (with_reducible refine skip_some (by rfl) ?_; go_simp) | (go_at_call 43; refine (ref_has _ _ _).mono ?_; rintro e w' ⟨rfl, nd, rfl⟩; first | rw [q0] | rw [q1] | rw [q2])); exact (hR3.out _ _).mpr ⟨_, _, _, _, _, _, _, _, _, _, _, _, _, _, _, _, _, _, _, _, _, _, _, _, _, _, _, _, _, _, _, _, _, _, _, _, _, _, _, _, _, _, _, false, by rw [← hbb.out, q0, q1, q2]; try rfl, rfl, by repeat (first | exact Drawn0.refl _ | apply Drawn0.step)⟩)
          · (go_wp2_with (first | (with_reducible refine gate_some (by rfl) ?_) | (with_reducible refine skip_some (by rfl) ?_; go_simp) | (go_at_call 43; refine (ref_has _ _ _).mono ?_; rintro e w' ⟨rfl, nd, rfl⟩; first | rw [q0] | rw [q1] | rw [q2])); exact (hR3.out _ _).mpr ⟨_, _, _, _, _, _, _, _, _, _, _, _, _, _, _, _, _, _, _, _, _, _, _, _, _, _, _, _, _, _, _, _, _, _, _, _, _, _, _, _, _, _, _, true, by rw [← hbb.out, q0, q1, q2]; try rfl, rfl, by repeat (first | exact Drawn0.refl _ | apply Drawn0.step)⟩)
        · (go_wp2_with (first | (with_reducible refine gate_some (by rfl) ?_) | (with_reducible refine skip_some (by rfl) ?_; go_simp) | (go_at_call 43; refine (ref_has _ _ _).mono ?_; rintro e w' ⟨rfl, nd, rfl⟩; first | rw [q0] | rw [q1])); exact (hR3.out _ _).mpr ⟨_, _, _, _, _, _, _, _, _, _, _, _, _, _, _, _, _, _, _, _, _, _, _, _, _, _, _, _, _, _, _, _, _, _, _, _, _, _, _, _, _, _, _, true, by rw [← hbb.out, q0, q1]; try rfl, rfl, by repeat (first | exact Drawn0.refl _ | apply Drawn0.step)⟩)
      · (go_wp2_with (first | (with_reducible refine gate_some (by rfl) ?_) | (with_reducible refine skip_some (by rfl) ?_; go_simp) | (go_at_call 43; refine (ref_has _ _ _).mono ?_; rintro e w' ⟨rfl, nd, rfl⟩; first | rw [q0])); exact (hR3.out _ _).mpr ⟨_, _, _, _, _, _, _, _, _, _, _, _, _, _, _, _, _, _, _, _, _, _, _, _, _, _, _, _, _, _, _, _, _, _, _, _, _, _, _, _, _, _, _, true, by rw [← hbb.out, q0]; try rfl, rfl, by repeat (first | exact Drawn0.refl _ | apply Drawn0.step)⟩)
  case rest3 =>
  intro a' w' hR
  obtain ⟨u3, u4, u5, u6, u7, u8, u9, u10, u11, u12, u13, u14, u15, u16, u17, u18, u19, u20, u21, u22, u23, u24, u25, u26, u27, u28, u29, u30, u31, u32, u33, u34, u35, u36, u37, u38, u39, u40, u41, u42, u43, u44, u45, bb, hbb, rfl, nd3, rfl⟩ := (hR3.out _ _).mp hR
  replace hbb := Aside0.mk hbb
  clear hR hR3
  simp only [List.drop_succ_cons, List.drop_zero]
  obtain ⟨R4, hR40⟩ : ∃ R : Act → World → Prop, ∀ a' w', R a' w' ↔ (∃ u3 u4 u5 u6 u7 u8 u9 u10 u11 u12 u13 u14 u15 u16 u17 u18 u19 u20 u21 u22 u23 u24 u25 u26 u27 u28 u29 u30 u31 u32 u33 u34 u35 u36 u37 u38 u39 u40 u41 u42 u43 u44 u45 u46 u47 u48 u49 u50 u51 u52 u53 u54 u55 : Value, ∃ bb : Bool, bb = (((((((d == 0) || hasF op 68)) && ((a == 0) || hasF op 65)) && ((b == 0) || hasF op 66)) && (((n == 0) || hasF op 78) || hasF op 110)) && ((m == 0) || hasF op 77)) ∧ a' = { tmps := #[.agg #[.int .i64 op, .int .i64 d, .int .i64 a, .int .i64 b, .int .i64 n, .int .i64 m, .slice A len c], .pointer (some ⟨w.heap.size, 0, none⟩), .bool false, u3, u4, u5, u6, u7, u8, u9, u10, u11, u12, u13, u14, u15, u16, u17, u18, u19, u20, u21, u22, u23, u24, u25, u26, u27, u28, u29, u30, u31, u32, u33, u34, u35, u36, u37, u38, u39, u40, u41, u42, u43, u44, u45, u46, u47, u48, u49, u50, u51, u52, u53, u54, u55, .bool bb, undef, undef, undef, undef, undef, undef, undef, undef, undef, undef], defers := [] } ∧ Drawn0 (w.alloc (.cells #[.int .i64 op, .int .i64 d, .int .i64 a, .int .i64 b, .int .i64 n, .int .i64 m, .slice A len c] 44)) w') := ⟨_, fun _ _ => Iff.rfl⟩
  have hR4 := Aside0.mk hR40
  clear hR40
  refine wpList_cutat 10 R4 _ _ _ ?rest4 ?chunk4
  case chunk4 =>
    simp only [List.take_succ_cons, List.take_zero]
    cases bb
    · (go_wp2_with (first | (with_reducible refine gate_some (by rfl) ?_) | (with_reducible refine skip_some (by rfl) ?_; go_simp)); exact (hR4.out _ _).mpr ⟨_, _, _, _, _, _, _, _, _, _, _, _, _, _, _, _, _, _, _, _, _, _, _, _, _, _, _, _, _, _, _, _, _, _, _, _, _, _, _, _, _, _, _, _, _, _, _, _, _, _, _, _, _, false, by rw [← hbb.out]; try rfl, rfl, by repeat (first | exact Drawn0.refl _ | apply Drawn0.step)⟩)
    · skip
      cases q0 : (m == 0)
      · skip
        cases q1 : hasF op 77
        · (go_wp2_with (first | (with_reducible refine gate_some (by rfl) ?_) | (with_reducible refine skip_some (by rfl) ?_; go_simp) | (go_at_call 43; refine (ref_has _ _ _).mono ?_; rintro e w' ⟨rfl, nd, rfl⟩; first | rw [q0] | rw [q1])); exact (hR4.out _ _).mpr ⟨_, _, _, _, _, _, _, _, _, _, _, _, _, _, _, _, _, _, _, _, _, _, _, _, _, _, _, _, _, _, _, _, _, _, _, _, _, _, _, _, _, _, _, _, _, _, _, _, _, _, _, _, _, false, by rw [← hbb.out, q0, q1]; try rfl, rfl, by repeat (first | exact Drawn0.refl _ | apply Drawn0.step)⟩)
        · (go_wp2_with (first | (with_reducible refine gate_some (by rfl) ?_) | (with_reducible refine skip_some (by rfl) ?_; go_simp) | (go_at_call 43; refine (ref_has _ _ _).mono ?_; rintro e w' ⟨rfl, nd, rfl⟩; first | rw [q0] | rw [q1])); exact (hR4.out _ _).mpr ⟨_, _, _, _, _, _, _, _, _, _, _, _, _, _, _, _, _, _, _, _, _, _, _, _, _, _, _, _, _, _, _, _, _, _, _, _, _, _, _, _, _, _, _, _, _, _, _, _, _, _, _, _, _, true, by rw [← hbb.out, q0, q1]; try rfl, rfl, by repeat (first | exact Drawn0.refl _ | apply Drawn0.step)⟩)
      · (go_wp2_with (first | (with_reducible refine gate_some (by rfl) ?_) | (with_reducible refine skip_some (by rfl) ?_; go_simp) | (go_at_call 43; refine (ref_has _ _ _).mono ?_; rintro e w' ⟨rfl, nd, rfl⟩; first | rw [q0])); exact (hR4.out _ _).mpr ⟨_, _, _, _, _, _, _, _, _, _, _, _, _, _, _, _, _, _, _, _, _, _, _, _, _, _, _, _, _, _, _, _, _, _, _, _, _, _, _, _, _, _, _, _, _, _, _, _, _, _, _, _, _, true, by rw [← hbb.out, q0]; try rfl, rfl, by repeat (first | exact Drawn0.refl _ | apply Drawn0.step)⟩)
  case rest4 =>
  intro a' w' hR
  obtain ⟨u3, u4, u5, u6, u7, u8, u9, u10, u11, u12, u13, u14, u15, u16, u17, u18, u19, u20, u21, u22, u23, u24, u25, u26, u27, u28, u29, u30, u31, u32, u33, u34, u35, u36, u37, u38, u39, u40, u41, u42, u43, u44, u45, u46, u47, u48, u49, u50, u51, u52, u53, u54, u55, bb, hbb, rfl, nd4, rfl⟩ := (hR4.out _ _).mp hR
  replace hbb := Aside0.mk hbb
  clear hR hR4
  simp only [List.drop_succ_cons, List.drop_zero]
  cases bb
  · go_wp2_with (first | (with_reducible refine gate_some (by rfl) ?_) | (with_reducible refine skip_some (by rfl) ?_; go_simp))
    refine hK2.out _ _ ?_
    go_wp2
    go_ret
    exact ⟨by rw [← hbb.out]; try rfl, by repeat (first | exact Below.refl _ _ | apply below_drew1 | apply pw_below_drewN | refine below_alloc ?_ _)⟩
  · skip
    cases q0 : ((len : Int) == 0)
    · skip
      cases q1 : hasF op 76
      · (go_wp2_with (first | (with_reducible refine gate_some (by rfl) ?_) | (with_reducible refine skip_some (by rfl) ?_; go_simp) | (go_at_call 43; refine (ref_has _ _ _).mono ?_; rintro e w' ⟨rfl, nd, rfl⟩; first | rw [q0] | rw [q1])); refine hK2.out _ _ ?_; go_wp2; go_ret; exact ⟨by rw [← hbb.out, q0, q1]; try rfl, by repeat (first | exact Below.refl _ _ | apply below_drew1 | apply pw_below_drewN | refine below_alloc ?_ _)⟩)
      · (go_wp2_with (first | (with_reducible refine gate_some (by rfl) ?_) | (with_reducible refine skip_some (by rfl) ?_; go_simp) | (go_at_call 43; refine (ref_has _ _ _).mono ?_; rintro e w' ⟨rfl, nd, rfl⟩; first | rw [q0] | rw [q1])); refine hK2.out _ _ ?_; go_wp2; go_ret; exact ⟨by rw [← hbb.out, q0, q1]; try rfl, by repeat (first | exact Below.refl _ _ | apply below_drew1 | apply pw_below_drewN | refine below_alloc ?_ _)⟩)
    · (go_wp2_with (first | (with_reducible refine gate_some (by rfl) ?_) | (with_reducible refine skip_some (by rfl) ?_; go_simp) | (go_at_call 43; refine (ref_has _ _ _).mono ?_; rintro e w' ⟨rfl, nd, rfl⟩; first | rw [q0])); refine hK2.out _ _ ?_; go_wp2; go_ret; exact ⟨by rw [← hbb.out, q0]; try rfl, by repeat (first | exact Below.refl _ _ | apply below_drew1 | apply pw_below_drewN | refine below_alloc ?_ _)⟩)
def portolanref04_bare.f (a0_0 a0_1 a0_2 a0_3 a0_4 a0_5 : Int) (l0_6 : List Int) : Option Bool := some (bareF a0_0 a0_1 a0_2 a0_3 a0_4 a0_5 l0_6.length)
theorem portolanref04_bare.calls (a0_0 : Int) (a0_1 : Int) (a0_2 : Int) (a0_3 : Int) (a0_4 : Int) (a0_5 : Int) (A0_6 : Option Addr) (c0_6 : Nat) (l0_6 : List Int) (r : Bool) (w : World) (hr0_6 : Kd.C (Kd.int .i64) w A0_6 l0_6.length l0_6) (hc0_6 : l0_6.length ≤ c0_6) (h : portolanref04_bare.f a0_0 a0_1 a0_2 a0_3 a0_4 a0_5 l0_6 = some r) :
    Calls Tryd.prog 76 #[.agg #[.int .i64 a0_0, .int .i64 a0_1, .int .i64 a0_2, .int .i64 a0_3, .int .i64 a0_4, .int .i64 a0_5, .slice A0_6 l0_6.length c0_6]] w fun e w' => e = .returned (.bool r) ∧ Below w.heap.size w w' := by
  obtain rfl := Option.some.inj h
  exact bare a0_0 a0_1 a0_2 a0_3 a0_4 a0_5 A0_6 l0_6.length c0_6 w
end Go.Proofs.YtdmimhjmbdkhmaaDoor.X
end
