/- Contracts of functions that are proved by hand. -/
import Derived.Test.YtdmimhjmbdkhmaaDoorZw
import Derived.Test.YtdmimhjmbdkhmaaDoorProg
import Derived.Lib.SliceRun
import Derived.Laws.CopyOwn
set_option linter.unusedVariables false
set_option linter.unusedSimpArgs false
section
namespace Go.Proofs.YtdmimhjmbdkhmaaDoor.X
def neatL (l : List Int) : List Int := (l.reverse.dropWhile (· == 0)).reverse
theorem neatL_zero (l : List Int) : neatL (l ++ [0]) = neatL l := by simp [neatL]
theorem neatL_ne (l : List Int) (x : Int) (h : x ≠ 0) : neatL (l ++ [x]) = l ++ [x] := by simp [neatL, h]
theorem take_snoc_getD (l : List Int) (m : Nat) (h : m < l.length) : l.take (m + 1) = l.take m ++ [l.getD m 0] := by
  rw [List.take_succ_eq_append_getElem h, List.getD_eq_getElem?_getD, List.getElem?_eq_getElem h]; rfl
end Go.Proofs.YtdmimhjmbdkhmaaDoor.X
end
section
set_option linter.unusedVariables false
namespace Go.Proofs.YtdmimhjmbdkhmaaDoor.X
open Go.RowKit Go.Proofs.YtdmimhjmbdkhmaaDoorW.PrintWords
section
variable {P : Program} {ops : Array Oper} {rest : List Oper} {o : Oper} {a : Act} {Q : Exit → Act → World → Prop} {α : Type}
theorem Kd.R_makecap (d : Kd α) {w0 W : World} (base e : Nat) (hgd : o.guard = none) {N : Tmp} (hd : o.dst = some N) (t : TypeId) (x y : Operand) (ho : o.op = .makeSlice t x y) (n : Int) (hx : a.eval x = .int .i64 0) (hy : a.eval y = .int .i64 n)
    (ht : P.underlying t = some (.slice e)) (z : Value) (bytes : Nat) (hinfo : (P.info? e).map (fun i => (i.zero, i.size, i.bytes)) = some (some z, d.sz, bytes)) (hz : z.cells.size = d.sz) (hs0 : 0 < d.sz) (hb0 : 0 < bytes)
    {ok okp : Nat → Prop} (hfresh : ok W.heap.size) (h0 : 0 ≤ n) (hl : n.toNat * bytes ≤ 281474976710656) (HB : Below base w0 W) (hbase : base ≤ W.heap.size)
    (h : ∀ v1 w1, d.R e w1 base ok v1 [] → Below base w0 w1 → W.grownBy w1 none → (∃ b, v1.ownBlock = some b ∧ W.heap.size ≤ b) → wpList P ops Q rest (a.put o.dst v1) w1) : wpList P ops Q (o :: rest) a W := by
  obtain ⟨m, rfl⟩ := Int.eq_ofNat_of_zero_le h0
  simp only [Int.toNat_natCast] at hl
  obtain ⟨i0, hi, hzz⟩ := Option.map_eq_some_iff.1 hinfo
  simp only [Prod.mk.injEq] at hzz
  obtain ⟨hz0, hz1, hz2⟩ := hzz
  have hm : m ≤ 281474976710656 := Nat.le_trans (Nat.le_mul_of_pos_right _ hb0) hl
  have hr := run_make (P := P) (w := W) t e i0 z ht hi hz0 .i64 .i64 0 (m : Int) (by omega) (by omega)
    (by
      have h3 : ((i0.bytes * m : Nat) : Int) ≤ 281474976710656 := by rw [hz2, Nat.mul_comm]; omega
      rwa [Int.natCast_mul] at h3) (by omega)
  simp only [Int.toNat_natCast, Int.toNat_zero] at hr
  rw [hz1] at hr
  refine Kd.event_run hgd (v := .slice (some ⟨W.heap.size, 0, none⟩) 0 m) (w1 := W.alloc (.cells (madeCells z.cells (m * d.sz)) e)) ?_ (h _ _ ⟨fun k hk => ?_, [], ?_, Reps.none _ _⟩ (HB.alloc hbase _) (World.grownBy_alloc W _ none) ⟨W.heap.size, by simp [Value.ownBlock], Nat.le_refl _⟩)
  · simp [execOp, ho, hx, hy, hr]
  · have : W.heap.size = k := by simpa [Value.ownBlock] using hk
    subst this
    exact hfresh
  · refine ⟨by simp, .inr ⟨W.heap.size, m, _, rfl, hbase, heap_alloc_new W _, Nat.zero_le _, ?_, by simp [size_madeCells], by simp⟩⟩
    simp only [maxLen]; omega
end
theorem C_none {α : Type} {d : Kd α} {w : World} {l : List α} (h : Kd.C d w none l.length l) : l = [] := by
  rcases Nat.eq_zero_or_pos l.length with h0 | h0
  · exact List.eq_nil_of_length_eq_zero h0
  · obtain ⟨ad, e, _⟩ := h.2.2 h0
    cases e
theorem info_u64 : (Tryd.prog.info? 67).map (fun i => (i.zero, i.size, i.bytes)) = some (some (.int .u64 0), 1, 8) := by kernel_rfl
def slices_Clone_uint64_uint64.f (l0 : List Int) : Option (List Int) := if l0.length < 17592186044416 then some l0 else none
set_option maxHeartbeats 400000 in
theorem slices_Clone_uint64_uint64.calls (A0 : Option Addr) (c0 : Nat) (l0 : List Int) (r : List Int) (w : World) (hr0 : Kd.C (Kd.int .u64) w A0 l0.length l0) (hc0 : l0.length ≤ c0) (h : slices_Clone_uint64_uint64.f l0 = some r) :
    Calls Tryd.prog 73 #[.slice A0 l0.length c0] w fun e w' => ∃ v0_ : Value, e = .returned (v0_) ∧ Kd.R (Kd.int .u64) 67 w' w.heap.size (fun _ => True) v0_ r ∧ Below w.heap.size w w' := by
  unfold slices_Clone_uint64_uint64.f at h
  by_cases hl : l0.length < 17592186044416
  · rw [if_pos hl] at h
    obtain rfl := Option.some.inj h
    have LM := Aside0.mk hl
    have HR := Aside0.mk hr0
    clear hl h hr0
    have he : ∀ (W : World) (a : Option Addr) (n c : Nat), (binOp .eql 31 (.slice a n c) (.slice none 0 0)).run Tryd.prog W = .ok (.bool a.isNone) W := fun W a n c => Lib.run_eql_slice_nil W _ _ a n c 0 0 Tryd.underlying31
    cases A0 with
    | none =>
      obtain rfl := C_none HR.out
      go_enter Tryd.func73, Tryd.ntmps73
      go_wp2
      go_ret
      exact ⟨_, rfl, Kd.R_nil _ _ _ _ _, Below.refl _ _⟩
    | some ad =>
      go_enter Tryd.func73, Tryd.ntmps73
      go_wp2_with (first | ((with_reducible refine gate_dst (N := 5) rfl ?_); refine Kd.R_lit (Kd.int .u64) _ 67 ?hg (N := 5) ?hd (xs := ([] : List Int)) (inner := []) (ok := fun _ => True) (okp := fun _ => True) ?hr ?hp (fun _ hk => hk) trivial (Below.refl _ _) (Nat.le_refl _) (by simp) ?_; (case hd => rfl); (case hg => rfl); (case hr => first | (go_simp; done) | (go_simp; rfl)); (case hp => exact (Reps.none _ _)); intro v455 w4 ho5 hb hg_ hnew_; clear hg_ hnew_; have HO := Aside0.mk ho5; have HB := Aside0.mk hb; clear ho5 hb) | ((with_reducible refine gate_builtin (b := .append) (xs := #[.tmp 5, .tmp 6]) rfl ?_); at_builtin; refine Kd.R_append_rows (Kd.int .u64) (w0 := w) w.heap.size rfl (.tmp 5) (.tmp 6) 31 67 (.int .u64 0) 8 rfl Tryd.underlying31 info_u64 rfl (by decide) (by omega) v455 [] l0 _ _ _ (fun _ => True) (fun _ => False) rfl rfl HO.out (Kd.C_below HR.out HB.out) (fun _ _ h => h) (fun _ h => h.elim) (fun _ _ => trivial) HB.out HB.out.size ?aL ?_; (case aL => have := LM.out; simp; omega); intro v458 w6 ho hb hg hat; have HO2 := Aside0.mk ho; have HB2 := Aside0.mk hb; clear ho hb hg hat))
      go_ret
      exact ⟨_, rfl, by simpa using HO2.out, HB2.out⟩
  · rw [if_neg hl] at h
    cases h
end Go.Proofs.YtdmimhjmbdkhmaaDoor.X
end
section
set_option linter.unusedVariables false
namespace Go.Proofs.YtdmimhjmbdkhmaaDoor.X
open Go.RowKit Go.Proofs.YtdmimhjmbdkhmaaDoorW.PrintWords
def portolanref02_Neat.f (l0 : List Int) : Option (List Int) := if l0.length < 17592186044416 then some (neatL l0) else none
set_option maxHeartbeats 1000000 in
set_option maxRecDepth 100000 in
theorem portolanref02_Neat.calls (A0 : Option Addr) (c0 : Nat) (l0 : List Int) (r : List Int) (w : World) (hr0 : Kd.C (Kd.int .u64) w A0 l0.length l0) (hc0 : l0.length ≤ c0) (h : portolanref02_Neat.f l0 = some r) :
    Calls Tryd.prog 44 #[.slice A0 l0.length c0] w fun e w' => ∃ v0_ : Value, e = .returned (v0_) ∧ Kd.R (Kd.int .u64) 67 w' w.heap.size (fun _ => True) v0_ r ∧ Below w.heap.size w w' := by
  unfold portolanref02_Neat.f at h
  by_cases hl : l0.length < 17592186044416
  · rw [if_pos hl] at h
    have hr := Option.some.inj h
    have HRR := Aside0.mk hr
    have LM := Aside0.mk hl
    have HR := Aside0.mk hr0
    have HC := Aside0.mk hc0
    have hlen : l0.length < 17592186044416 := hl
    clear hl h hr0 hr hc0
    go_enter Tryd.func44, Tryd.ntmps44
    go_wp2
    go_loopw [3] (fun n wr => ∃ m : Nat, m ≤ l0.length ∧ n = .int .i64 m ∧ Aside0 (neatL (l0.take m) = neatL l0) ∧ Aside0 (Below w.heap.size w wr)) (fun n _ => (intOf n).toNat)
    case atStart => exact ⟨l0.length, Nat.le_refl _, rfl, ⟨by rw [List.take_length]⟩, ⟨Below.refl _ _⟩⟩
    case round =>
      obtain ⟨m, hm, rfl, hN, HB⟩ := hrel
      obtain ⟨i0, hi0, _, _, _⟩ := info_parts info_u64
      have HRT := Aside0.mk (Kd.C_take HR.out hm)
      cases m with
      | zero =>
        have HFIN : Aside0 (neatL l0 = l0.take 0) := ⟨by rw [← hN.out]; simp [neatL]⟩
        have hcut := cut_to (P := Tryd.prog) 31 67 .i64 Tryd.underlying31 hi0 A0 l0.length c0 (0 : Int) (by omega) (by omega) HC.out
        go_wp2_with (first | ((with_reducible refine gate_dst (N := 18) rfl ?_); refine Kd.R_lit (Kd.int .u64) _ 67 ?hg (N := 18) ?hd (xs := ([] : List Int)) (inner := []) (ok := fun _ => True) (okp := fun _ => True) ?hr ?hp (fun _ hk => hk) trivial (Below.refl _ _) (Nat.le_refl _) (by simp) ?_; (case hd => rfl); (case hg => rfl); (case hr => first | (go_simp; done) | (go_simp; rfl)); (case hp => exact (Reps.none _ _)); intro v1 w4 ho5 hb hg_ hnew_; clear hg_ hnew_; have HO := Aside0.mk (Kd.R_lower ho5 (below_size (by repeat (first | exact HB.out | apply below_drew1 | apply pw_below_drewN)))); have HB1 := Aside0.mk (below_step (by repeat (first | exact HB.out | apply below_drew1 | apply pw_below_drewN)) hb); clear ho5 hb) | ((with_reducible refine gate_builtin (b := .append) (xs := #[.tmp 18, .tmp 21]) rfl ?_); at_builtin; refine Kd.R_append_rows (Kd.int .u64) (w0 := w) w.heap.size rfl (.tmp 18) (.tmp 21) 31 67 (.int .u64 0) 8 rfl Tryd.underlying31 info_u64 rfl (by decide) (by omega) v1 [] (l0.take 0) _ _ _ (fun _ => True) (fun _ => False) rfl rfl HO.out (by have h_ := HRT.out; rw [List.length_take_of_le hm] at h_; exact (Kd.C_below h_ HB1.out)) (fun _ _ h => h) (fun _ h => h.elim) (fun _ _ => trivial) HB1.out (below_size HB1.out) ?aL ?_; (case aL => first | (simp only [List.length_nil]; omega) | (simp; omega) | (simp; done)); intro v458 w6 ho hb hg hat; have HO2 := Aside0.mk ho; have HB2 := Aside0.mk hb; clear ho hb hg hat))
        go_ret
        exact ⟨_, rfl, by rw [← HRR.out, HFIN.out]; simpa using HO2.out, HB2.out⟩
      | succ m =>
        have hrd : Aside0 (l0.take (m + 1) = l0.take m ++ [rd l0 (m : Int)]) := ⟨by rw [take_snoc_getD l0 m hm]; simp [rd]⟩
        obtain ⟨ad, e, hx⟩ := Kd.at_int HR.out (m : Int) (by omega) (by omega)
        subst e
        rw [Int.toNat_natCast] at hx
        replace hx := (HB.out.cell (World.block_lt_of_cell? w _ hx)).trans hx
        have hcut := cut_to (P := Tryd.prog) 31 67 .i64 Tryd.underlying31 hi0 (some ad) l0.length c0 ((m : Int) + 1) (by omega) (by omega) HC.out
        have htn : ((m : Int) + 1).toNat = m + 1 := by omega
        rw [htn] at hcut
        have hpos : decide (0 < (m : Int) + 1) = true := decide_eq_true (by omega)
        have hlt : (m : Int) < (l0.length : Int) := by omega
        clear htn
        by_cases hz : rd l0 (m : Int) = 0
        · have hzb : (rd l0 (m : Int) == 0) = true := beq_iff_eq.mpr hz
          have hN2 : Aside0 (neatL (l0.take m) = neatL l0) := ⟨by rw [← hN.out, hrd.out, hz, neatL_zero]⟩
          clear hz hcut
          go_wp2
          go_roundw
          case rel => exact ⟨m, by omega, by go_num, hN2, ⟨by repeat (first | exact HB.out | apply below_drew1 | apply pw_below_drewN)⟩⟩
          case measure => simp [intOf]
        · have hzb : (rd l0 (m : Int) == 0) = false := beq_eq_false_iff_ne.mpr hz
          have HFIN : Aside0 (neatL l0 = l0.take (m + 1)) := ⟨by rw [← hN.out, hrd.out, neatL_ne _ _ hz]⟩
          clear hz
          go_wp2_with (first | ((with_reducible refine gate_dst (N := 18) rfl ?_); refine Kd.R_lit (Kd.int .u64) _ 67 ?hg (N := 18) ?hd (xs := ([] : List Int)) (inner := []) (ok := fun _ => True) (okp := fun _ => True) ?hr ?hp (fun _ hk => hk) trivial (Below.refl _ _) (Nat.le_refl _) (by simp) ?_; (case hd => rfl); (case hg => rfl); (case hr => first | (go_simp; done) | (go_simp; rfl)); (case hp => exact (Reps.none _ _)); intro v1 w4 ho5 hb hg_ hnew_; clear hg_ hnew_; have HO := Aside0.mk (Kd.R_lower ho5 (below_size (by repeat (first | exact HB.out | apply below_drew1 | apply pw_below_drewN)))); have HB1 := Aside0.mk (below_step (by repeat (first | exact HB.out | apply below_drew1 | apply pw_below_drewN)) hb); clear ho5 hb) | ((with_reducible refine gate_builtin (b := .append) (xs := #[.tmp 18, .tmp 21]) rfl ?_); at_builtin; refine Kd.R_append_rows (Kd.int .u64) (w0 := w) w.heap.size rfl (.tmp 18) (.tmp 21) 31 67 (.int .u64 0) 8 rfl Tryd.underlying31 info_u64 rfl (by decide) (by omega) v1 [] (l0.take (m + 1)) _ _ _ (fun _ => True) (fun _ => False) rfl rfl HO.out (by have h_ := HRT.out; rw [List.length_take_of_le hm] at h_; exact (Kd.C_below h_ HB1.out)) (fun _ _ h => h) (fun _ h => h.elim) (fun _ _ => trivial) HB1.out (below_size HB1.out) ?aL ?_; (case aL => first | (simp only [List.length_nil]; omega) | (simp; omega) | (simp; done)); intro v458 w6 ho hb hg hat; have HO2 := Aside0.mk ho; have HB2 := Aside0.mk hb; clear ho hb hg hat))
          go_ret
          exact ⟨_, rfl, by rw [← HRR.out, HFIN.out]; simpa using HO2.out, HB2.out⟩
  · rw [if_neg hl] at h
    cases h
end Go.Proofs.YtdmimhjmbdkhmaaDoor.X
end
section
set_option linter.unusedVariables false
namespace Go.Proofs.YtdmimhjmbdkhmaaDoor.X
open Go.RowKit Go.Proofs.YtdmimhjmbdkhmaaDoorW.PrintWords
def partsB : List ByteArray := [⟨#[]⟩, ⟨#[68, 110]⟩, ⟨#[68, 65]⟩, ⟨#[68, 65, 66]⟩, ⟨#[68, 65, 66]⟩, ⟨#[68, 65, 66]⟩, ⟨#[68, 65, 66]⟩, ⟨#[68]⟩, ⟨#[68, 65]⟩, ⟨#[68, 65, 66]⟩, ⟨#[68, 78, 77]⟩, ⟨#[68, 65, 78]⟩, ⟨#[65, 78, 66]⟩, ⟨#[68, 65, 78]⟩, ⟨#[65, 78, 66]⟩, ⟨#[68, 65, 78]⟩, ⟨#[68, 65, 110]⟩, ⟨#[68, 65]⟩, ⟨#[65, 66]⟩, ⟨#[68, 78, 76]⟩, ⟨#[65]⟩, ⟨#[78]⟩, ⟨#[65, 78, 77]⟩, ⟨#[65]⟩]
structure GG (w : World) : Prop where mk :: (out : ∀ j : Nat, j < 24 → w.cell? ⟨1, j, none⟩ = some (.string (partsB.getD j ⟨#[]⟩)))
theorem GG_below {w W : World} (h : GG w) (hb : Below w.heap.size w W) : GG W := ⟨fun j hj => (hb.cell (World.block_lt_of_cell? w _ (h.out j hj))).trans (h.out j hj)⟩
theorem GG_alloc {w : World} {o : Obj} (h : GG w) : GG (w.alloc o) := GG_below h ((Below.refl _ _).alloc (Nat.le_refl _) _)
theorem GG_drewN {w : World} {n : Nat} (h : GG w) : GG (w.drewN n) := GG_below h (pw_below_drewN (Below.refl _ _) n)
theorem GG_drew {w : World} (h : GG w) : GG w.drew := GG_below h (below_drew (Below.refl _ _))
def code_Parts.f (a0 : Int) : Option ByteArray := if a0 < 0 then some ⟨#[]⟩ else if a0 ≥ 24 then some ⟨#[]⟩ else some (partsB.getD a0.toNat ⟨#[]⟩)
theorem code_Parts.calls (a0 : Int) (r : ByteArray) (w : World) (hGG : GG w) (h : code_Parts.f a0 = some r) :
    Calls Tryd.prog 93 #[.int .i64 a0] w fun e w' => e = .returned (.string r) ∧ Drawn0 w w' := by
  unfold code_Parts.f at h
  by_cases h0 : a0 < 0
  · rw [if_pos h0] at h
    obtain rfl := Option.some.inj h
    clear h
    have hb : decide (a0 < 0) = true := decide_eq_true h0
    go_enter Tryd.func93, Tryd.ntmps93
    go_wp2
    go_ret
    exact ⟨rfl, by repeat (first | exact Drawn0.refl _ | apply Drawn0.step)⟩
  · rw [if_neg h0] at h
    have hb : decide (a0 < 0) = false := decide_eq_false h0
    by_cases h1 : a0 ≥ 24
    · rw [if_pos h1] at h
      obtain rfl := Option.some.inj h
      clear h
      have hb1 : decide (24 ≤ a0) = true := decide_eq_true h1
      go_enter Tryd.func93, Tryd.ntmps93
      go_wp2
      go_ret
      exact ⟨rfl, by repeat (first | exact Drawn0.refl _ | apply Drawn0.step)⟩
    · rw [if_neg h1] at h
      obtain rfl := Option.some.inj h
      clear h
      have hb1 : decide (24 ≤ a0) = false := decide_eq_false h1
      have hc := hGG.out a0.toNat (by omega)
      clear hGG
      generalize hp : partsB.getD a0.toNat ⟨#[]⟩ = v at hc ⊢
      clear hp
      go_enter Tryd.func93, Tryd.ntmps93
      go_wp2
      go_ret
      exact ⟨rfl, by repeat (first | exact Drawn0.refl _ | apply Drawn0.step)⟩
end Go.Proofs.YtdmimhjmbdkhmaaDoor.X
end
section
set_option linter.unusedVariables false
namespace Go.Proofs.YtdmimhjmbdkhmaaDoor.X
open Go.RowKit Go.Proofs.YtdmimhjmbdkhmaaDoorW.PrintWords
theorem neatL_take (l : List Int) : l.take (neatL l).length = neatL l := by
  have h : neatL l <+: l := by
    have h1 : l.reverse.dropWhile (· == 0) <:+ l.reverse := List.dropWhile_suffix _
    have h2 := List.reverse_prefix.2 h1
    simpa [neatL] using h2
  obtain ⟨t, ht⟩ := h
  have h3 := List.take_left (l₁ := neatL l) (l₂ := t)
  rw [ht] at h3
  exact h3
theorem neatL_length_le (l : List Int) : (neatL l).length ≤ l.length := by
  have := congrArg List.length (neatL_take l)
  rw [List.length_take] at this
  omega
def zipop (op : Int → Int → Int) (a b : List Int) : List Int := (List.range (max a.length b.length)).map fun i => op (a.getD i 0) (b.getD i 0)
theorem zipop_length (op : Int → Int → Int) (a b : List Int) : (zipop op a b).length = max a.length b.length := by simp [zipop]
theorem R_copy_int (k : IntKind) {P : Program} {w0 W : World} {ops : Array Oper} {rest : List Oper} {o : Oper} {a : Act} {Q : Exit → Act → World → Prop} (base : Nat) (hgd : o.guard = none) (d s : Operand) (dT sT : TypeId)
    (ho : o.op = .call { callee := .builtin .copy, args := #[d, s], argTypes := #[dT, sT] }) (e : Nat) (hu : P.underlying dT = some (.slice e)) (hsz : (P.info? e).map (·.size) = some 1) (ok : Nat → Prop)
    (v : Value) (xs ys : List Int) (A : Option Addr) (c : Nat) (hd : a.eval d = v) (hs : a.eval s = .slice A ys.length c) (HO : (Kd.int k).R e W base ok v xs) (HR : (Kd.int k).C W A ys.length ys) (HB : Below base w0 W)
    (h : ∀ w1, (Kd.int k).R e w1 base ok v (ys.take xs.length ++ xs.drop ys.length) → Below base w0 w1 → wpList P ops Q rest (a.put o.dst (goInt (min ys.length xs.length : Nat))) w1) :
    wpList P ops Q (o :: rest) a W := by
  have hown := Kd.own_of_R HO
  have hok := HO.1
  by_cases h0 : min ys.length xs.length = 0
  · obtain ⟨A1, c1, rfl⟩ := Kd.R_slice HO
    refine wpList_copy_nothing hgd d s dT sT ho e hu hsz A1 A xs.length c1 ys.length c hd hs h0 ?_
    have h1 := h W ?_ HB
    · rw [h0] at h1; exact h1
    · have : ys.take xs.length ++ xs.drop ys.length = xs := by
        rcases Nat.eq_zero_or_pos ys.length with hy | hy
        · rw [List.eq_nil_of_length_eq_zero hy]; simp
        · have hx : xs.length = 0 := by omega
          rw [List.eq_nil_of_length_eq_zero hx]; simp
      rw [this]; exact HO
  · obtain ⟨hl, hv | ⟨g, cap, cur, rfl, hbg, hg, hnc, hcm, hcs, ht⟩⟩ := hown
    · omega
    · obtain ⟨ad, rfl, hcell⟩ := HR.2.2 (by omega)
      have hcl : cur.toList.length = cap := by simp [hcs]
      refine wpList_copy_splice hgd d s dT sT ho e hu hsz (some ⟨g, 0, none⟩) (some ad) xs.length cap ys.length c hd hs g 0 cur.toList e (by simpa using hg) (encs (Value.int k) (ys.take xs.length)) (by rw [encs_length, List.length_take]; exact Nat.min_comm _ _) ?_ ?_ ?_ base w0 HB hbg ?_
      · intro _
        refine ⟨rfl, ad, rfl, fun j v hj => ?_⟩
        have hjl := (List.getElem?_eq_some_iff.1 hj).1
        rw [encs_length, List.length_take] at hjl
        obtain ⟨cc, hcc, hK, hcv⟩ := hcell j (ys[j]'(by omega)) (List.getElem?_eq_getElem (by omega))
        have hK2 : cc = [.int k (ys[j]'(by omega))] := hK
        have h2 := hcv 0 (.int k (ys[j]'(by omega))) (by rw [hK2]; rfl)
        rw [show (Kd.int k).sz = 1 from rfl, Nat.mul_one, Nat.add_zero] at h2
        rw [h2]
        simp only [encs, List.getElem?_map, List.getElem?_take] at hj
        rw [if_pos (by omega), List.getElem?_eq_getElem (by omega)] at hj
        simpa using hj
      · rw [encs_length, List.length_take, hcl]; omega
      · intro v hv
        simp only [encs, List.mem_map] at hv
        obtain ⟨x, _, rfl⟩ := hv
        rfl
      · intro w1 hg1 hb1
        have h3 := h w1 ?_ hb1
        · rw [encs_length, List.length_take, Nat.min_comm xs.length] ; exact h3
        · have hlen : (ys.take xs.length ++ xs.drop ys.length).length = xs.length := by simp; omega
          refine Kd.R_of_own (e := e) ⟨by rw [encs_length]; simp, .inr ⟨g, cap, _, by rw [hlen], hbg, hg1.out, by omega, hcm, ?_, ?_⟩⟩ hok
          · simp [length_splice, encs_length, hcl]
            rw [length_splice _ _ _ (by rw [encs_length, List.length_take, hcl]; omega), hcl]
          · rw [hlen]
            simp only [splice, Nat.zero_add, List.take_zero, List.nil_append, Nat.mul_one, List.toList_toArray]
            have hxs : cur.toList.take xs.length = encs (Value.int k) xs := by simpa using ht
            have hmin : (encs (Value.int k) (ys.take xs.length)).length = min xs.length ys.length := by rw [encs_length, List.length_take]
            rw [List.take_append, hmin, List.take_of_length_le (by rw [hmin]; omega)]
            simp only [encs, List.map_append, List.map_take, List.map_drop]
            congr 1
            rw [← List.drop_take, hxs]
            simp only [encs]
            rcases Nat.le_total ys.length xs.length with hle | hle
            · rw [Nat.min_eq_right hle]
            · rw [Nat.min_eq_left hle, List.drop_of_length_le (by simp), List.drop_of_length_le (by simpa using hle)]
end Go.Proofs.YtdmimhjmbdkhmaaDoor.X
end
section
set_option linter.unusedVariables false
namespace Go.Proofs.YtdmimhjmbdkhmaaDoor.X
open Go.RowKit Go.Proofs.YtdmimhjmbdkhmaaDoorW.PrintWords
set_option maxHeartbeats 1000000 in
set_option maxRecDepth 100000 in
theorem neat_cut (A0 : Option Addr) (c0 : Nat) (l0 : List Int) (w : World) (hr0 : Kd.C (Kd.int .u64) w A0 l0.length l0) (hc0 : l0.length ≤ c0) :
    Calls Tryd.prog 74 #[.slice A0 l0.length c0] w fun e w' => e = .returned (.slice A0 (neatL l0).length c0) ∧ Drawn0 w w' := by
  have HR := Aside0.mk hr0
  have HC := Aside0.mk hc0
  have hlen : l0.length ≤ 9223372036854775807 := hr0.2.1
  clear hr0 hc0
  go_enter Tryd.func74, Tryd.ntmps74
  go_wp2
  go_loopw [0] (fun v wr => ∃ m : Nat, m ≤ l0.length ∧ v = .slice A0 m c0 ∧ Aside0 (neatL (l0.take m) = neatL l0) ∧ Aside0 (Drawn0 w wr)) (fun v _ => match v with | .slice _ n _ => n | _ => 0)
  case atStart => exact ⟨l0.length, Nat.le_refl _, rfl, ⟨by rw [List.take_length]⟩, ⟨Drawn0.refl _⟩⟩
  case round =>
    obtain ⟨m, hm, rfl, hN, HD⟩ := hrel
    obtain ⟨nd, rfl⟩ := HD.out
    obtain ⟨i0, hi0, _, _, _⟩ := info_parts info_u64
    cases m with
    | zero =>
      have HFIN : Aside0 ((neatL l0).length = 0) := ⟨by rw [← hN.out]; simp [neatL]⟩
      go_wp2
      go_ret
      exact ⟨by rw [HFIN.out]; rfl, by repeat (first | exact HD.out | apply Drawn0.step)⟩
    | succ m =>
      have hrd : Aside0 (l0.take (m + 1) = l0.take m ++ [rd l0 (m : Int)]) := ⟨by rw [take_snoc_getD l0 m hm]; simp [rd]⟩
      obtain ⟨ad, e, hx⟩ := Kd.at_int HR.out (m : Int) (by omega) (by omega)
      subst e
      rw [Int.toNat_natCast] at hx
      have hcut := cut_to (P := Tryd.prog) 31 67 .i64 Tryd.underlying31 hi0 (some ad) (m + 1) c0 (m : Int) (by omega) (by omega) (by have := HC.out; omega)
      rw [Int.toNat_natCast] at hcut
      have hpos : decide (0 < (m : Int) + 1) = true := decide_eq_true (by omega)
      have hlt : (m : Int) < (l0.length : Int) := by omega
      by_cases hz : rd l0 (m : Int) = 0
      · have hzb : (rd l0 (m : Int) == 0) = true := beq_iff_eq.mpr hz
        have hN2 : Aside0 (neatL (l0.take m) = neatL l0) := ⟨by rw [← hN.out, hrd.out, hz, neatL_zero]⟩
        clear hz
        go_wp2
        go_roundw
        case rel => exact ⟨m, by omega, rfl, hN2, ⟨by repeat (first | exact HD.out | apply Drawn0.step)⟩⟩
        case measure => simp
      · have hzb : (rd l0 (m : Int) == 0) = false := beq_eq_false_iff_ne.mpr hz
        have HFIN : Aside0 ((neatL l0).length = m + 1) := ⟨by rw [← hN.out, hrd.out, neatL_ne _ _ hz, ← hrd.out, List.length_take_of_le hm]⟩
        clear hz
        go_wp2
        go_ret
        exact ⟨by rw [HFIN.out]; rfl, by repeat (first | exact HD.out | apply Drawn0.step)⟩
def bitset_neat.f (l0 : List Int) : Option (List Int) := some (neatL l0)
theorem bitset_neat.calls (P0_ : Nat → Prop) (A0 : Option Addr) (c0 : Nat) (l0 : List Int) (r : List Int) (w : World) (hs0 : Kd.V (Kd.int .u64) 67 w w.heap.size (fun k_ => P0_ k_) (.slice A0 l0.length c0) l0) (h : bitset_neat.f l0 = some r) :
    Calls Tryd.prog 74 #[.slice A0 l0.length c0] w fun e w' => ∃ v0_ : Value, e = .returned (v0_) ∧ Kd.V (Kd.int .u64) 67 w' w.heap.size (fun k_ => (P0_ k_ ∨ w.heap.size ≤ k_)) v0_ r ∧ Below w.heap.size w w' := by
  obtain rfl := Option.some.inj h
  have hV := Kd.V_at hs0
  refine (neat_cut A0 c0 l0 w (Kd.F_now hV.2.2) hV.2.1).mono ?_
  rintro e w' ⟨rfl, hd⟩
  refine ⟨_, rfl, ?_, hd.below⟩
  have h2 := Kd.F_take (m := (neatL l0).length) hV.2.2 (neatL_length_le l0)
  rw [neatL_take] at h2
  have h3 := Kd.V_mk (e := 67) (base := w.heap.size) (c := c0) (Nat.le_trans (neatL_length_le l0) hV.2.1) h2
  obtain ⟨n, rfl⟩ := hd
  exact Kd.V_mono (Kd.V_drewN h3 n) (fun k hk => .inl hk)
end Go.Proofs.YtdmimhjmbdkhmaaDoor.X
end
section
set_option linter.unusedVariables false
namespace Go.Proofs.YtdmimhjmbdkhmaaDoor.X
open Go.RowKit Go.Proofs.YtdmimhjmbdkhmaaDoorW.PrintWords
def baseL (a b : List Int) : List Int := a.take (List.replicate (max a.length b.length) (0 : Int)).length ++ (List.replicate (max a.length b.length) (0 : Int)).drop a.length
theorem baseL_length (a b : List Int) : (baseL a b).length = max a.length b.length := by simp [baseL]; omega
theorem baseL_get (a b : List Int) (i : Nat) : (baseL a b).getD i 0 = a.getD i 0 := by
  unfold baseL
  rw [List.length_replicate, List.take_of_length_le (Nat.le_max_left _ _)]
  simp only [List.getD_eq_getElem?_getD]
  rcases Nat.lt_or_ge i a.length with h | h
  · rw [List.getElem?_append_left h]
  · rw [List.getElem?_append_right h, List.getElem?_drop, List.getElem?_eq_none h]
    rcases Nat.lt_or_ge (a.length + (i - a.length)) (max a.length b.length) with h2 | h2
    · rw [List.getElem?_replicate_of_lt h2]; rfl
    · rw [List.getElem?_eq_none (by simpa using h2)]
theorem mix_step (op : Int → Int → Int) (a b : List Int) (k : Nat) (hk : k < max a.length b.length) :
    ((zipop op a b).take k ++ (baseL a b).drop k).set k (op (a.getD k 0) (b.getD k 0)) = (zipop op a b).take (k + 1) ++ (baseL a b).drop (k + 1) := by
  have h1 : ((zipop op a b).take k).length = k := by rw [List.length_take, zipop_length]; omega
  rw [List.set_append_right _ _ (by omega), h1, Nat.sub_self]
  rw [List.take_succ_eq_append_getElem (by rw [zipop_length]; exact hk), List.append_assoc]
  congr 1
  rw [List.drop_eq_getElem_cons (by rw [baseL_length]; exact hk), List.set_cons_zero]
  simp [zipop]
theorem rdOf_int (xs : List Int) (i : Int) : rdOf (0 : Int) xs i = rd xs i := rfl
theorem join1 (x y : Int) (W : World) : Calls Tryd.prog 78 #[.int .u64 x, .int .u64 y] W fun e W' => e = .returned (.int .u64 (Go.bits .or .u64 x y)) ∧ W' = W := by
  go_enter Tryd.func78, Tryd.ntmps78
  go_wp2
  go_ret
  exact ⟨rfl, rfl⟩
theorem size_u64 : (Tryd.prog.info? 67).map (·.size) = some 1 := by kernel_rfl
set_option maxHeartbeats 4000000 in
set_option maxRecDepth 100000 in
theorem merge_or (A0 : Option Addr) (c0 : Nat) (l0 : List Int) (A1 : Option Addr) (c1 : Nat) (l1 : List Int) (w : World) (hr0 : Kd.C (Kd.int .u64) w A0 l0.length l0) (hc0 : l0.length ≤ c0) (hr1 : Kd.C (Kd.int .u64) w A1 l1.length l1) (hc1 : l1.length ≤ c1) (hb : l0.length ≤ 17592186044416 ∧ l1.length ≤ 17592186044416) :
    Calls Tryd.prog 64 #[.slice A0 l0.length c0, .slice A1 l1.length c1, .func (.func 78) #[] #[]] w fun e w' => ∃ v0_ : Value, e = .returned (v0_) ∧ Kd.V (Kd.int .u64) 67 w' w.heap.size (fun k_ => w.heap.size ≤ k_) v0_ (neatL (zipop (fun x y => Go.bits .or .u64 x y) l0 l1)) ∧ Below w.heap.size w w' := by
  have HR0 := Aside0.mk hr0
  have HR1 := Aside0.mk hr1
  have HC0 := Aside0.mk hc0
  have HC1 := Aside0.mk hc1
  have HBD := Aside0.mk hb
  clear hr0 hc0 hr1 hc1 hb
  obtain ⟨n, hn⟩ : ∃ n : Nat, n = max l0.length l1.length := ⟨_, rfl⟩
  have Hn := Aside0.mk hn
  have hmx : (if l0.length < l1.length then (l1.length : Int) else (l0.length : Int)) = (n : Int) := by rw [hn]; split <;> omega
  have hn2 : n ≤ 17592186044416 := by have := HBD.out; omega
  clear hn
  go_enter Tryd.func64, Tryd.ntmps64
  go_wp2_with (first | ((with_reducible refine gate_dst (N := 15) rfl ?_); refine Kd.R_make (Kd.int .u64) _ 67 rfl (N := 15) rfl 31 _ _ rfl (n : Int) rfl rfl Tryd.underlying31 (.int .u64 0) 8 info_u64 rfl (by decide) (by omega) (0 : Int) (ok := fun _ => True) (okp := fun _ => True) rfl (fun _ hk => hk) trivial (by omega) (by omega) (Below.refl _ _) (Nat.le_refl _) ?_; intro v1 w1 ho hb hg hat; rw [Int.toNat_natCast] at ho; have HO := Aside0.mk ho; have HB := Aside0.mk hb; clear ho hb hg hat) | ((with_reducible refine gate_builtin (b := .copy) (xs := #[.tmp 16, .tmp 17]) rfl ?_); refine R_copy_int .u64 (w0 := w) w.heap.size rfl (.tmp 16) (.tmp 17) 31 31 rfl 67 Tryd.underlying31 size_u64 (fun _ => True) v1 _ l0 A0 c0 rfl rfl HO.out (Kd.C_below HR0.out HB.out) HB.out ?_; intro w2 ho hb; have HO2 : Aside0 ((Kd.int .u64).R 67 w2 w.heap.size (fun _ => True) v1 (baseL l0 l1)) := ⟨by unfold baseL; rw [← Hn.out]; exact ho⟩; have HB2 := Aside0.mk hb; clear ho hb HO HB; obtain ⟨A2, c2, e2⟩ := Kd.R_slice HO2.out; rw [baseL_length, ← Hn.out] at e2; subst e2))
  go_loopw [21] (fun i wr => ∃ k : Nat, k ≤ n ∧ i = .int .i64 k ∧ Aside0 ((Kd.int .u64).R 67 wr w.heap.size (fun _ => True) (.slice A2 n c2) ((zipop (fun x y => Go.bits .or .u64 x y) l0 l1).take k ++ (baseL l0 l1).drop k)) ∧ Aside0 (Below w.heap.size w wr)) (fun i _ => n - (intOf i).toNat)
  case atStart => exact ⟨0, Nat.zero_le _, rfl, ⟨by simpa using HO2.out⟩, HB2⟩
  case round =>
    obtain ⟨k, hk, rfl, HO, HB⟩ := hrel
    by_cases hlt : k < n
    · have hlen : ((zipop (fun x y => Go.bits .or .u64 x y) l0 l1).take k ++ (baseL l0 l1).drop k).length = n := by rw [List.length_append, List.length_take, List.length_drop, zipop_length, baseL_length, ← Hn.out]; omega
      obtain ⟨L, hL⟩ : ∃ L, L = (zipop (fun x y => Go.bits .or .u64 x y) l0 l1).take k ++ (baseL l0 l1).drop k := ⟨_, rfl⟩
      rw [← hL] at HO hlen
      have hLk : rd L (k : Int) = l0.getD k 0 := by
        unfold rd
        rw [Int.toNat_natCast, hL, ← baseL_get l0 l1 k]
        simp only [List.getD_eq_getElem?_getD]
        rw [List.getElem?_append_right (by rw [List.length_take]; omega), List.length_take, zipop_length, ← Hn.out, List.getElem?_drop]
        congr 2; omega
      have HLK := Aside0.mk hLk
      have HL := Aside0.mk hL
      have HLEN := Aside0.mk hlen
      clear hL hLk hlen
      obtain ⟨go, co, eo, gb, gl, cl, HG⟩ := Kd.R_form HO.out (by rw [HLEN.out]; omega)
      rw [HLEN.out] at eo
      injection eo with ea _ ec
      subst ea; subst ec
      clear HG cl gl
      obtain ⟨ad, e, hx⟩ := Kd.at_int (Kd.R_reads' HO.out).2.2 (k : Int) (by omega) (by rw [HLEN.out]; omega)
      cases e
      rw [HLK.out] at hx
      obtain ⟨hx2, hf2⟩ := Kd.R_celln 0 HO.out (k : Int) (by omega) (by omega)
      rw [Int.toNat_natCast] at hx hx2 hf2
      have HMIX := Aside0.mk (mix_step (fun x y => Go.bits .or .u64 x y) l0 l1 k (by have := Hn.out; omega))
      have hkl : decide ((k : Int) < (n : Int)) = true := decide_eq_true (by omega)
      have hbr := rdOf_int L (k : Int)
      rw [hbr, HLK.out] at hx2
      clear hbr
      by_cases h1 : k < l1.length
      · obtain ⟨ad1, e1, hy⟩ := Kd.at_int (Kd.C_below HR1.out HB.out) (k : Int) (by omega) (by omega)
        subst e1
        rw [Int.toNat_natCast] at hy
        have hyk : rd l1 (k : Int) = l1.getD k 0 := by unfold rd; rw [Int.toNat_natCast]
        rw [hyk] at hy
        have HP : Aside0 ((Kd.int .u64).R 67 (wr.setCell ⟨go, k, none⟩ (.int .u64 (Go.bits .or .u64 (l0.getD k 0) (l1.getD k 0)))) w.heap.size (fun _ => True) (.slice (some ⟨go, 0, none⟩) n c2) ((zipop (fun x y => Go.bits .or .u64 x y) l0 l1).take (k + 1) ++ (baseL l0 l1).drop (k + 1))) := ⟨by
          have h_ := Kd.R_putn HO.out (k : Int) (Go.bits .or .u64 (l0.getD k 0) (l1.getD k 0))
          rw [Int.toNat_natCast, HL.out, HMIX.out] at h_
          exact h_⟩
        have GB := Aside0.mk gb
        generalize l0.getD k 0 = x at *
        generalize l1.getD k 0 = y at *
        clear HMIX HLK hyk
        go_wp2_with (go_at_call 78; refine (join1 _ _ _).mono ?_; rintro e w' ⟨rfl, rfl⟩)
        go_roundw
        case rel => exact ⟨k + 1, by omega, by go_num, HP, ⟨below_set HB.out GB.out⟩⟩
        case measure => simp [intOf]; omega
      · have HP : Aside0 ((Kd.int .u64).R 67 (wr.setCell ⟨go, k, none⟩ (.int .u64 (Go.bits .or .u64 (l0.getD k 0) 0))) w.heap.size (fun _ => True) (.slice (some ⟨go, 0, none⟩) n c2) ((zipop (fun x y => Go.bits .or .u64 x y) l0 l1).take (k + 1) ++ (baseL l0 l1).drop (k + 1))) := ⟨by
          have h_ := Kd.R_putn HO.out (k : Int) (Go.bits .or .u64 (l0.getD k 0) 0)
          have hz : l1.getD k 0 = 0 := by rw [List.getD_eq_getElem?_getD, List.getElem?_eq_none (by omega)]; rfl
          rw [hz] at HMIX
          rw [Int.toNat_natCast, HL.out, HMIX.out] at h_
          exact h_⟩
        have GB := Aside0.mk gb
        have hkn : decide ((k : Int) < (l1.length : Int)) = false := decide_eq_false (by omega)
        generalize l0.getD k 0 = x at *
        clear HMIX HLK
        go_wp2_with (go_at_call 78; refine (join1 _ _ _).mono ?_; rintro e w' ⟨rfl, rfl⟩)
        go_roundw
        case rel => exact ⟨k + 1, by omega, by go_num, HP, ⟨below_set HB.out GB.out⟩⟩
        case measure => simp [intOf]; omega
    · have hkn : k = n := by omega
      have hZ : (zipop (fun x y => Go.bits .or .u64 x y) l0 l1).take k ++ (baseL l0 l1).drop k = zipop (fun x y => Go.bits .or .u64 x y) l0 l1 := by
        rw [List.take_of_length_le (by rw [zipop_length, ← Hn.out]; omega), List.drop_of_length_le (by rw [baseL_length, ← Hn.out]; omega), List.append_nil]
      rw [hZ] at HO
      clear hZ
      subst hkn
      have hzl : (zipop (fun x y => Go.bits .or .u64 x y) l0 l1).length = k := by rw [zipop_length, ← Hn.out]
      obtain ⟨Z, hZd⟩ : ∃ Z, Z = zipop (fun x y => Go.bits .or .u64 x y) l0 l1 := ⟨_, rfl⟩
      rw [← hZd] at HO hzl
      have HZD := Aside0.mk hZd
      clear hZd
      have hrr := Kd.R_reads' HO.out
      have hkk : decide ((k : Int) < (k : Int)) = false := decide_eq_false (by omega)
      have hCC := Aside0.mk hrr.2.2
      have hcc := Aside0.mk hrr.2.1
      have HZL := Aside0.mk hzl
      have hVV := Aside0.mk (Kd.V_at (base := 0) (Kd.R_V (base' := 0) (Kd.R_mono (Kd.R_bound HO.out) (fun k_ h_ => h_.2.1))))
      clear hrr hzl
      go_wp2_with (go_at_call 74; refine calls_of_args (args' := #[.slice A2 Z.length c2]) (by rw [HZL.out]) ?_; refine (neat_cut A2 c2 Z _ hCC.out (by have := hcc.out; have := HZL.out; omega)).mono ?_; rintro e w' ⟨rfl, ⟨nd, rfl⟩⟩)
      go_ret
      refine ⟨_, rfl, ?_, by repeat (first | exact HB.out | apply below_drew1 | apply pw_below_drewN)⟩
      rw [← HZD.out]
      show Kd.V _ _ _ _ _ (.slice A2 (neatL Z).length c2) _
      have h2 := Kd.F_take (m := (neatL Z).length) hVV.out.2.2 (neatL_length_le Z)
      rw [neatL_take] at h2
      exact Kd.V_drewN (Kd.V_mk (e := 67) (base := w.heap.size) (c := c2) (Nat.le_trans (neatL_length_le Z) (by have := hcc.out; have := HZL.out; omega)) h2) _
end Go.Proofs.YtdmimhjmbdkhmaaDoor.X
end
section
set_option linter.unusedVariables false
namespace Go.Proofs.YtdmimhjmbdkhmaaDoor.X
open Go.RowKit Go.Proofs.YtdmimhjmbdkhmaaDoorW.PrintWords
def andNotL (a b : List Int) : List Int := neatL (zipop (fun x y => Go.bits .andNot .u64 x y) a b)
def orL (a b : List Int) : List Int := neatL (zipop (fun x y => Go.bits .or .u64 x y) a b)
def bitset_Less.f (l0 l1 : List Int) : Option (List Int) := if l0.length ≤ 17592186044416 ∧ l1.length ≤ 17592186044416 then some (andNotL l0 l1) else none
theorem orL_length_le (a b : List Int) : (orL a b).length ≤ max a.length b.length := Nat.le_trans (neatL_length_le _) (Nat.le_of_eq (zipop_length _ _ _))
def joinL (l : List (List Int)) : List Int := l.foldl orL []
theorem joinL_snoc (l : List (List Int)) (s : List Int) : joinL (l ++ [s]) = orL (joinL l) s := by simp [joinL]
theorem foldl_orL_le (B : Nat) : ∀ (l : List (List Int)) (o : List Int), (∀ s ∈ l, s.length ≤ B) → o.length ≤ B → (l.foldl orL o).length ≤ B
  | [], o, _, h => h
  | s :: l, o, hl, h => foldl_orL_le B l (orL o s) (fun x hx => hl x (List.mem_cons_of_mem _ hx)) (by have := orL_length_le o s; have := hl s List.mem_cons_self; omega)
theorem joinL_le (B : Nat) (l : List (List Int)) (hl : ∀ s ∈ l, s.length ≤ B) : (joinL l).length ≤ B := foldl_orL_le B l [] hl (Nat.zero_le _)
theorem take_snoc_getD' (l : List (List Int)) (m : Nat) (h : m < l.length) : l.take (m + 1) = l.take m ++ [l.getD m []] := by
  rw [List.take_succ_eq_append_getElem h, List.getD_eq_getElem?_getD, List.getElem?_eq_getElem h]; rfl
def bitset_Join.f (l0 : List (List Int)) : Option (List Int) := if ∀ s ∈ l0, s.length ≤ 17592186044416 then some (joinL l0) else none
set_option maxHeartbeats 2000000 in
theorem bitset_Join.calls (A0 : Option Addr) (c0 : Nat) (l0 : List (List Int)) (r : List Int) (w : World) (hr0 : Kd.C (Kd.slice 67 (Kd.int .u64)) w A0 l0.length l0) (hc0 : l0.length ≤ c0) (h : bitset_Join.f l0 = some r) :
    Calls Tryd.prog 61 #[.slice A0 l0.length c0] w fun e w' => ∃ v0_ : Value, e = .returned (v0_) ∧ Kd.V (Kd.int .u64) 67 w' w.heap.size (fun k_ => (w.heap.size ≤ k_)) v0_ r ∧ Below w.heap.size w w' := by
  unfold bitset_Join.f at h
  by_cases hb : ∀ s ∈ l0, s.length ≤ 17592186044416
  · rw [if_pos hb] at h
    have HRR := Aside0.mk (Option.some.inj h)
    have HR := Aside0.mk hr0
    have HBD := Aside0.mk hb
    have hlen : l0.length ≤ 9223372036854775807 := hr0.2.1
    clear hr0 hc0 hb h
    go_enter Tryd.func61, Tryd.ntmps61
    go_wp2
    go_loopw [3, 8] (fun v i wr => ∃ k : Nat, k ≤ l0.length ∧ i = .int .i64 k ∧ Aside0 (Kd.V (Kd.int .u64) 67 wr w.heap.size (fun k_ => w.heap.size ≤ k_) v (joinL (l0.take k))) ∧ Aside0 (Below w.heap.size w wr)) (fun _ i _ => l0.length - (intOf i).toNat)
    case atStart => exact ⟨0, Nat.zero_le _, rfl, ⟨Kd.V_nil _ _ _ _ _⟩, ⟨Below.refl _ _⟩⟩
    case round =>
      obtain ⟨k, hk, rfl, HV, HB⟩ := hrel
      by_cases hlt : k < l0.length
      · have HJ : Aside0 (joinL (l0.take (k + 1)) = orL (joinL (l0.take k)) (l0.getD k [])) := ⟨by rw [take_snoc_getD' l0 k hlt, joinL_snoc]⟩
        have HBs : Aside0 ((joinL (l0.take k)).length ≤ 17592186044416 ∧ (l0.getD k []).length ≤ 17592186044416) := ⟨joinL_le _ _ (fun s hs => HBD.out s (List.mem_of_mem_take hs)), by
          rw [List.getD_eq_getElem?_getD, List.getElem?_eq_getElem hlt]
          exact HBD.out _ (List.getElem_mem hlt)⟩
        obtain ⟨ad, c, e, _, hK, hc0⟩ := Kd.C_get (Kd.C_below HR.out HB.out) ([] : List Int) (k : Int) (by omega) (by omega)
        obtain ⟨A1, c1, rfl, hl1, hg1⟩ := hK
        subst e
        have hcell := hc0 0 _ rfl
        rw [Int.toNat_natCast] at hcell hl1 hg1
        rw [show (Kd.slice 67 (Kd.int .u64)).sz = 1 from rfl, Nat.mul_one, Nat.add_zero] at hcell
        clear hc0
        generalize joinL (l0.take k) = J at *
        generalize l0.getD k [] = S at *
        obtain ⟨Ao, co, eo⟩ := Kd.V_slice HV.out
        subst eo
        have HVA := Aside0.mk (Kd.V_at HV.out)
        have HL1 := Aside0.mk hl1
        have HG1 := Aside0.mk hg1
        clear hl1 hg1
        go_wp2_with (go_at_call 64; refine (merge_or Ao co J A1 c1 S _ (Kd.F_now HVA.out.2.2) HVA.out.2.1 HG1.out HL1.out HBs.out).mono ?_; rintro e w1 ⟨v, rfl, hv, hb⟩; have HV2 := Aside0.mk (Kd.V_mono hv (fun k_ h_ => Nat.le_trans HB.out.size h_)); have HB2 := Aside0.mk (below_step HB.out hb); clear hv hb)
        go_roundw
        case rel => exact ⟨k + 1, by omega, by go_num, ⟨by rw [HJ.out]; exact HV2.out⟩, HB2⟩
        case measure => simp [intOf]; omega
      · have hkn : k = l0.length := by omega
        have HF : Aside0 (joinL (l0.take k) = r) := ⟨by rw [hkn, List.take_length]; exact HRR.out⟩
        rw [HF.out] at HV
        have hkk : decide ((k : Int) < (l0.length : Int)) = false := decide_eq_false (by omega)
        clear hkn
        obtain ⟨Ao, co, eo⟩ := Kd.V_slice HV.out
        subst eo
        go_wp2
        go_ret
        exact ⟨_, rfl, by (with_reducible repeat (first | apply Kd.V_drewN | apply Kd.V_drew)); exact HV.out, by repeat (first | exact HB.out | apply below_drew1 | apply pw_below_drewN)⟩
  · rw [if_neg hb] at h
    cases h
end Go.Proofs.YtdmimhjmbdkhmaaDoor.X
end
