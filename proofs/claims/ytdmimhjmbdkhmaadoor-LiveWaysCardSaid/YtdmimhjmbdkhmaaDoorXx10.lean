/- Part of a proof about the Go function named in the last text of this claim. -/
import Derived.Test.YtdmimhjmbdkhmaaDoorZw
import Derived.Test.YtdmimhjmbdkhmaaDoorXx0
import Derived.Test.YtdmimhjmbdkhmaaDoorXx6
import Derived.Test.YtdmimhjmbdkhmaaDoorXx7
import Derived.Test.YtdmimhjmbdkhmaaDoorXx9
set_option linter.unusedVariables false
set_option linter.unusedSimpArgs false
namespace Go.Proofs.YtdmimhjmbdkhmaaDoor.X
open Go.RowKit Go.Proofs.YtdmimhjmbdkhmaaDoorW.PrintWords Go.Proofs.YtdmimhjmbdkhmaaDoorW.PrintLast Go.Proofs.YtdmimhjmbdkhmaaDoorW.PrintMore
attribute [local go_sem] max2_int min2_int max_two min_two max_three min_three max_four min_four
set_option linter.unusedVariables false
set_option linter.unusedSimpArgs false
mutual
def portolanref04_Check.j0 : Nat → Bool → List (S30) → Option (Int)
 | 0, _, _ => none
 | k + 1, x27, x384000 => if x27 = true then (some 5) else (portolanref04_Check.l0 k 0 x384000)
def portolanref04_Check.l0 : Nat → Int → List (S30) → Option (Int)
 | 0, _, _ => none
 | k + 1, x3, x384000 => if x3 < (x384000.length : Int) then (if 0 ≤ x3 then ((portolanref04_Func.f k ((rd_T30 x384000 x3).f0) ((rd_T30 x384000 x3).f1) ((rd_T30 x384000 x3).f2) ((rd_T30 x384000 x3).f3) ((rd_T30 x384000 x3).f4)).bind fun t389 => (if t389 = true then (portolanref04_Check.l1 k x3 0 x384000 ((rd_T30 x384000 x3).f0) ((rd_T30 x384000 x3).f1) ((rd_T30 x384000 x3).f2) ((rd_T30 x384000 x3).f3) ((rd_T30 x384000 x3).f4)) else (some 5))) else (none)) else (some 0)
def portolanref04_Check.l1 : Nat → Int → Int → List (S30) → List Int → List Int → Int → Int → List (S40) → Option (Int)
 | 0, _, _, _, _, _, _, _, _ => none
 | k + 1, x3, x5, x384000, x389000, x389001, x389002, x389003, x389004 => if x5 < (x389004.length : Int) then (portolanref04_Check.l2 k x3 x5 0 x384000 x389000 x389001 x389002 x389003 x389004) else (portolanref04_Check.l0 k (wrap64 (x3 + 1)) x384000)
def portolanref04_Check.l2 : Nat → Int → Int → Int → List (S30) → List Int → List Int → Int → Int → List (S40) → Option (Int)
 | 0, _, _, _, _, _, _, _, _, _ => none
 | k + 1, x3, x5, x6, x384000, x389000, x389001, x389002, x389003, x389004 => if 0 ≤ x5 then (if x5 < (x389004.length : Int) then (if x6 < (((rd_T40 x389004 x5).f0).length : Int) then (if 0 ≤ x6 then ((portolanref04_Ins.f k x384000 x3 ((rd_T44 ((rd_T40 x389004 x5).f0) x6).f0) ((rd_T44 ((rd_T40 x389004 x5).f0) x6).f1) ((rd_T44 ((rd_T40 x389004 x5).f0) x6).f2) ((rd_T44 ((rd_T40 x389004 x5).f0) x6).f3) ((rd_T44 ((rd_T40 x389004 x5).f0) x6).f4) ((rd_T44 ((rd_T40 x389004 x5).f0) x6).f5) ((rd_T44 ((rd_T40 x389004 x5).f0) x6).f6)).bind fun t393 => (if t393 = true then (portolanref04_Check.l2 k x3 x5 (wrap64 (x6 + 1)) x384000 x389000 x389001 x389002 x389003 x389004) else (some 5))) else (none)) else (portolanref04_Check.l1 k x3 (wrap64 (x5 + 1)) x384000 x389000 x389001 x389002 x389003 x389004)) else (none)) else (none)
end
def portolanref04_Check.f (k : Nat) (l0_0 : List (S30)) : Option (Int) := (portolanref04_within.f (l0_0.length : Int) 1 8).bind fun t384 => (if t384 = true then (if 0 < (l0_0.length : Int) then (if ((rd_T30 l0_0 0).f2) = 0 then (portolanref04_Check.j0 k (((rd_T30 l0_0 0).f3) != 0) l0_0) else (portolanref04_Check.j0 k true l0_0)) else (none)) else (portolanref04_Check.j0 k true l0_0))
def portolanref04_Check.T15 : Bool × List (List Nat × List Nat) := (true, [([], []), ([], []), ([], []), ([2], [2]), ([], []), ([3, 4], [3, 4]), ([5], [5]), ([6], [6]), ([], []), ([7, 8], [7, 8]), ([9], [9]), ([0, 1, 10], [0, 1, 10]), ([11], [11])])
def portolanref04_Check.B15 : List Nat := [0, 0, 0, 4, 0, 28, 60, 124, 0, 508, 1020, 2047, 4095]
theorem portolanref04_Check.tab15 : rtab .any (opsOf Tryd.f35 15) = portolanref04_Check.T15 := by kernel_rfl
theorem portolanref04_Check.bits15 : waitsOk portolanref04_Check.T15.2 portolanref04_Check.B15 = true := by kernel_rfl
set_option maxHeartbeats 8000000 in
set_option maxRecDepth 100000 in
theorem portolanref04_Check.calls (k : Nat) (A0_0 : Option Addr) (c0_0 : Nat) (l0_0 : List (S30)) (r : Int) (w : World) (hr0_0 : Kd.C k30 w A0_0 l0_0.length l0_0) (hc0_0 : l0_0.length ≤ c0_0) (h : portolanref04_Check.f k l0_0 = some r) :
 Calls Tryd.prog 35 #[.agg #[.slice A0_0 l0_0.length c0_0]] w fun e w' => e = .returned (.int .i64 r) ∧ Below w.heap.size w w' := by
 have hu24 := Tryd.underlying24
 have hu30 := Tryd.underlying30
 have hu44 := Tryd.underlying44
 have HR0_0 := Aside0.mk hr0_0
 have HC0_0 := Aside0.mk hc0_0
 clear hr0_0 hc0_0
 have HB := Aside0.mk (Below.refl w.heap.size w)
 have H : ((portolanref04_within.f (l0_0.length : Int) 1 8).bind fun t384 => (if t384 = true then (if 0 < (l0_0.length : Int) then (if ((rd_T30 l0_0 0).f2) = 0 then (portolanref04_Check.j0 k (((rd_T30 l0_0 0).f3) != 0) l0_0) else (portolanref04_Check.j0 k true l0_0)) else (none)) else (portolanref04_Check.j0 k true l0_0))) = some r := h
 clear h
 have HC2 := Aside0.mk H
 clear H
 go_enter Tryd.func35, Tryd.ntmps35
 go_upto_region 1 with (first | ((with_reducible refine gate_dst (N := 1) rfl ?_); refine box_event ?hg (N := 1) ?hd (cs := #[.slice A0_0 l0_0.length c0_0]) (t := 24) ?hr ?_; (case hd => rfl); (case hg => rfl); (case hr => first | (go_simp; done) | (go_simp; rfl)); intro gb383 hg w3 hbox hb; have BK383 := Aside0.mk (hbox); have GW383 := ge hg (bl HB); have GE383 := ge hg (bl HB); replace HB := Aside0.mk (below_step (bl HB) hb); clear hb hbox hg))
 (try simp only [Act.put, List.setIfInBounds_toArray, List.set_cons_zero, List.set_cons_succ])
 go_cut [27] (fun v27 wc => ∃ (kq : Nat) (x27_1 : Bool), v27 = .bool x27_1 ∧ Aside0 (portolanref04_Check.j0 kq x27_1 l0_0 = some r) ∧ Aside0 (kq ≤ k) ∧ Aside0 (wc.heap[gb383]? = some (.cells #[(.slice A0_0 l0_0.length c0_0)] 24 (0, 0))) ∧ Aside0 (Below w.heap.size w wc))
 case first =>
  have H := HC2.out
  clear HC2
  replace H := Option.bind_eq_some_iff.mp H
  obtain ⟨t384, A40, H⟩ := H
  replace H : (if t384 = true then (if 0 < (l0_0.length : Int) then (if ((rd_T30 l0_0 0).f2) = 0 then (portolanref04_Check.j0 k (((rd_T30 l0_0 0).f3) != 0) l0_0) else (portolanref04_Check.j0 k true l0_0)) else (none)) else (portolanref04_Check.j0 k true l0_0)) = some r := H
  have A4 := Aside0.mk A40
  clear A40
  by_cases c5 : t384 = true
  ·
   subst c5
   have H1 : (if 0 < (l0_0.length : Int) then (if ((rd_T30 l0_0 0).f2) = 0 then (portolanref04_Check.j0 k (((rd_T30 l0_0 0).f3) != 0) l0_0) else (portolanref04_Check.j0 k true l0_0)) else (none)) = some r := by rw [if_pos rfl] at H; exact H
   clear H
   have H := H1
   clear H1
   by_cases c6 : 0 < (l0_0.length : Int)
   ·
    rw [if_pos c6] at H
    have c6b0 : decide (0 < (l0_0.length : Int)) = true := decide_eq_true c6
    have c6b1 : decide (0 < l0_0.length) = true := decide_eq_true (by omega)
    clear c6
    (first | rw [c6b0] | (simp only [i64_w, i32_w]; rw [c6b0]) | skip)
    by_cases c7 : ((rd_T30 l0_0 0).f2) = 0
    ·
     rw [if_pos c7] at H
     have c7b0 : (((rd_T30 l0_0 0).f2) == 0) = true := beq_iff_eq.mpr c7
     have c7b1 : (((rd_T30 l0_0 0).f2) != 0) = false := bne_eq_false_iff_eq.mpr c7
     clear c7
     have H' := Aside0.mk H
     clear H
     have hcz8_0 := bk1 BK383.out
     have hfz8_0 := bf BK383.out
     go_wp2_with (first | ((with_reducible refine gate_callee (f := 56) rfl ?_); refine goesL_ (some 10) rfl rfl Tryd.func56 (by kernel_rfl) rfl #[.int .i64 (l0_0.length : Int), .int .i64 1, .int .i64 8] rfl (by (try simp only [List.map_toArray, List.map_cons, List.map_nil]); first | done | rfl) ?_; (with_reducible refine (portolanref04_within.calls (l0_0.length : Int) 1 8 true _ A4.out).mono ?_); rintro e w' ⟨rfl, ⟨nd, rfl⟩⟩; refine ⟨_, rfl, ?_⟩; have p385 : 0 ≤ (0 : Int) := (by omega); have q385 : 0 < (l0_0.length : Int) := of_decide_eq_true (by assumption); obtain ⟨ad385, A385_0, c385_0, A385_1, c385_1, A385_4, c385_4, e385, hx385_0, hx385_1, hx385_2, hx385_3, hx385_4, hl385_0, hi385_0, hl385_1, hi385_1, hl385_4, hi385_4⟩ := at_T30 HR0_0.out 0 p385 q385; cases e385; have qi385 : (0 < l0_0.length) = True := eq_true (by omega); (try rw [show ((0 : Int)).toNat = 0 from rfl] at hx385_0); (try rw [show 0 * 5 = 0 from rfl] at hx385_0); (try rw [Addr.add_zero'] at hx385_0); (try rw [show ((0 : Int)).toNat = 0 from rfl] at hx385_1); (try rw [show 0 * 5 = 0 from rfl] at hx385_1); (try rw [Addr.add_zero'] at hx385_1); (try rw [show ((0 : Int)).toNat = 0 from rfl] at hx385_2); (try rw [show 0 * 5 = 0 from rfl] at hx385_2); (try rw [Addr.add_zero'] at hx385_2); (try rw [show ((0 : Int)).toNat = 0 from rfl] at hx385_3); (try rw [show 0 * 5 = 0 from rfl] at hx385_3); (try rw [Addr.add_zero'] at hx385_3); (try rw [show ((0 : Int)).toNat = 0 from rfl] at hx385_4); (try rw [show 0 * 5 = 0 from rfl] at hx385_4); (try rw [Addr.add_zero'] at hx385_4); replace hx385_0 := (HB.out.cell (World.block_lt_of_cell? w _ hx385_0)).trans hx385_0; replace hx385_1 := (HB.out.cell (World.block_lt_of_cell? w _ hx385_1)).trans hx385_1; replace hx385_2 := (HB.out.cell (World.block_lt_of_cell? w _ hx385_2)).trans hx385_2; replace hx385_3 := (HB.out.cell (World.block_lt_of_cell? w _ hx385_3)).trans hx385_3; replace hx385_4 := (HB.out.cell (World.block_lt_of_cell? w _ hx385_4)).trans hx385_4; have HR385_0 := Aside0.mk hi385_0; have HC385_0 := Aside0.mk hl385_0; clear hi385_0 hl385_0; have HR385_1 := Aside0.mk hi385_1; have HC385_1 := Aside0.mk hl385_1; clear hi385_1 hl385_1; have HR385_4 := Aside0.mk hi385_4; have HC385_4 := Aside0.mk hl385_4; clear hi385_4 hl385_4; replace p385 := eq_true p385; replace q385 := eq_true q385; have p386 : 0 ≤ (0 : Int) := (by omega); have q386 : 0 < (l0_0.length : Int) := of_decide_eq_true (by assumption); obtain ⟨ad386, A386_0, c386_0, A386_1, c386_1, A386_4, c386_4, e386, hx386_0, hx386_1, hx386_2, hx386_3, hx386_4, hl386_0, hi386_0, hl386_1, hi386_1, hl386_4, hi386_4⟩ := at_T30 HR0_0.out 0 p386 q386; obtain rfl : ad385 = ad386 := (by injection e386); have qi386 : (0 < l0_0.length) = True := eq_true (by omega); (try rw [show ((0 : Int)).toNat = 0 from rfl] at hx386_0); (try rw [show 0 * 5 = 0 from rfl] at hx386_0); (try rw [Addr.add_zero'] at hx386_0); (try rw [show ((0 : Int)).toNat = 0 from rfl] at hx386_1); (try rw [show 0 * 5 = 0 from rfl] at hx386_1); (try rw [Addr.add_zero'] at hx386_1); (try rw [show ((0 : Int)).toNat = 0 from rfl] at hx386_2); (try rw [show 0 * 5 = 0 from rfl] at hx386_2); (try rw [Addr.add_zero'] at hx386_2); (try rw [show ((0 : Int)).toNat = 0 from rfl] at hx386_3); (try rw [show 0 * 5 = 0 from rfl] at hx386_3); (try rw [Addr.add_zero'] at hx386_3); (try rw [show ((0 : Int)).toNat = 0 from rfl] at hx386_4); (try rw [show 0 * 5 = 0 from rfl] at hx386_4); (try rw [Addr.add_zero'] at hx386_4); replace hx386_0 := (HB.out.cell (World.block_lt_of_cell? w _ hx386_0)).trans hx386_0; replace hx386_1 := (HB.out.cell (World.block_lt_of_cell? w _ hx386_1)).trans hx386_1; replace hx386_2 := (HB.out.cell (World.block_lt_of_cell? w _ hx386_2)).trans hx386_2; replace hx386_3 := (HB.out.cell (World.block_lt_of_cell? w _ hx386_3)).trans hx386_3; replace hx386_4 := (HB.out.cell (World.block_lt_of_cell? w _ hx386_4)).trans hx386_4; have HR386_0 := Aside0.mk hi386_0; have HC386_0 := Aside0.mk hl386_0; clear hi386_0 hl386_0; have HR386_1 := Aside0.mk hi386_1; have HC386_1 := Aside0.mk hl386_1; clear hi386_1 hl386_1; have HR386_4 := Aside0.mk hi386_4; have HC386_4 := Aside0.mk hl386_4; clear hi386_4 hl386_4; replace p386 := eq_true p386; replace q386 := eq_true q386; have ea_ := Option.some.inj (hx385_0.symm.trans hx386_0); injection ea_ with ea_ en_ ec_; subst ea_; subst ec_; clear en_; have ea_ := Option.some.inj (hx385_1.symm.trans hx386_1); injection ea_ with ea_ en_ ec_; subst ea_; subst ec_; clear en_; have ea_ := Option.some.inj (hx385_4.symm.trans hx386_4); injection ea_ with ea_ en_ ec_; subst ea_; subst ec_; clear en_))
     go_meet
     case rel => exact ⟨_, ((((rd_T30 l0_0 0).f3) != 0)), (by first | rfl | (simp; done) | (simp [*]; done)), H', ⟨by first | omega | exact Nat.le_refl _⟩, ⟨bx BK383.out⟩, ⟨bl HB⟩⟩
    rw [if_neg c7] at H
    have c7b0 : (((rd_T30 l0_0 0).f2) == 0) = false := beq_eq_false_iff_ne.mpr c7
    have c7b1 : (((rd_T30 l0_0 0).f2) != 0) = true := bne_iff_ne.mpr c7
    have H' := Aside0.mk H
    clear H
    have hcz9_0 := bk1 BK383.out
    have hfz9_0 := bf BK383.out
    go_wp2_with (first | ((with_reducible refine gate_callee (f := 56) rfl ?_); refine goesL_ (some 10) rfl rfl Tryd.func56 (by kernel_rfl) rfl #[.int .i64 (l0_0.length : Int), .int .i64 1, .int .i64 8] rfl (by (try simp only [List.map_toArray, List.map_cons, List.map_nil]); first | done | rfl) ?_; (with_reducible refine (portolanref04_within.calls (l0_0.length : Int) 1 8 true _ A4.out).mono ?_); rintro e w' ⟨rfl, ⟨nd, rfl⟩⟩; refine ⟨_, rfl, ?_⟩; have p385 : 0 ≤ (0 : Int) := (by omega); have q385 : 0 < (l0_0.length : Int) := of_decide_eq_true (by assumption); obtain ⟨ad385, A385_0, c385_0, A385_1, c385_1, A385_4, c385_4, e385, hx385_0, hx385_1, hx385_2, hx385_3, hx385_4, hl385_0, hi385_0, hl385_1, hi385_1, hl385_4, hi385_4⟩ := at_T30 HR0_0.out 0 p385 q385; cases e385; have qi385 : (0 < l0_0.length) = True := eq_true (by omega); (try rw [show ((0 : Int)).toNat = 0 from rfl] at hx385_0); (try rw [show 0 * 5 = 0 from rfl] at hx385_0); (try rw [Addr.add_zero'] at hx385_0); (try rw [show ((0 : Int)).toNat = 0 from rfl] at hx385_1); (try rw [show 0 * 5 = 0 from rfl] at hx385_1); (try rw [Addr.add_zero'] at hx385_1); (try rw [show ((0 : Int)).toNat = 0 from rfl] at hx385_2); (try rw [show 0 * 5 = 0 from rfl] at hx385_2); (try rw [Addr.add_zero'] at hx385_2); (try rw [show ((0 : Int)).toNat = 0 from rfl] at hx385_3); (try rw [show 0 * 5 = 0 from rfl] at hx385_3); (try rw [Addr.add_zero'] at hx385_3); (try rw [show ((0 : Int)).toNat = 0 from rfl] at hx385_4); (try rw [show 0 * 5 = 0 from rfl] at hx385_4); (try rw [Addr.add_zero'] at hx385_4); replace hx385_0 := (HB.out.cell (World.block_lt_of_cell? w _ hx385_0)).trans hx385_0; replace hx385_1 := (HB.out.cell (World.block_lt_of_cell? w _ hx385_1)).trans hx385_1; replace hx385_2 := (HB.out.cell (World.block_lt_of_cell? w _ hx385_2)).trans hx385_2; replace hx385_3 := (HB.out.cell (World.block_lt_of_cell? w _ hx385_3)).trans hx385_3; replace hx385_4 := (HB.out.cell (World.block_lt_of_cell? w _ hx385_4)).trans hx385_4; have HR385_0 := Aside0.mk hi385_0; have HC385_0 := Aside0.mk hl385_0; clear hi385_0 hl385_0; have HR385_1 := Aside0.mk hi385_1; have HC385_1 := Aside0.mk hl385_1; clear hi385_1 hl385_1; have HR385_4 := Aside0.mk hi385_4; have HC385_4 := Aside0.mk hl385_4; clear hi385_4 hl385_4; replace p385 := eq_true p385; replace q385 := eq_true q385))
    go_meet
    case rel => exact ⟨_, (true), (by first | rfl | (simp; done) | (simp [*]; done)), H', ⟨by first | omega | exact Nat.le_refl _⟩, ⟨bx BK383.out⟩, ⟨bl HB⟩⟩
   rw [if_neg c6] at H
   exact absurd H (by simp)
  replace c5 := Bool.eq_false_iff.mpr c5
  subst c5
  have H1 : (portolanref04_Check.j0 k true l0_0) = some r := by rw [if_neg (show ¬ (false = true) by decide)] at H; exact H
  clear H
  have H := H1
  clear H1
  have H' := Aside0.mk H
  clear H
  have hcz10_0 := bk1 BK383.out
  have hfz10_0 := bf BK383.out
  go_wp2_with (first | ((with_reducible refine gate_callee (f := 56) rfl ?_); refine goesL_ (some 10) rfl rfl Tryd.func56 (by kernel_rfl) rfl #[.int .i64 (l0_0.length : Int), .int .i64 1, .int .i64 8] rfl (by (try simp only [List.map_toArray, List.map_cons, List.map_nil]); first | done | rfl) ?_; (with_reducible refine (portolanref04_within.calls (l0_0.length : Int) 1 8 false _ A4.out).mono ?_); rintro e w' ⟨rfl, ⟨nd, rfl⟩⟩; refine ⟨_, rfl, ?_⟩))
  go_meet
  case rel => exact ⟨_, (true), (by first | rfl | (simp; done) | (simp [*]; done)), H', ⟨by first | omega | exact Nat.le_refl _⟩, ⟨bx BK383.out⟩, ⟨bl HB⟩⟩
 case rest =>
  clear HC2
  try clear p2
  try clear c3
  try clear p3
  try clear q3
  try clear hx3
  try clear qi3
  try clear c5
  try clear c6
  try clear c6b0
  try clear c6b1
  try clear c7
  try clear c7b0
  try clear c7b1
  try clear hcz10_0
  try clear hcz8_0
  try clear hcz9_0
  try clear hfz10_0
  try clear hfz8_0
  try clear hfz9_0
  try clear hx385_0
  try clear hx385_1
  try clear hx385_2
  try clear hx385_3
  try clear hx385_4
  try clear hx386_0
  try clear hx386_1
  try clear hx386_2
  try clear hx386_3
  try clear hx386_4
  try clear p385
  try clear p386
  try clear q385
  try clear q386
  obtain ⟨kq, x27_1, rfl, HA, HJ1, BK383, HB⟩ := hcut
  cases kq with
  | zero => exact absurd HA.out (by simp [portolanref04_Check.j0])
  | succ kj1 =>
   have H := HA.out
   clear HA
   simp only [portolanref04_Check.j0] at H
   by_cases c11 : x27_1 = true
   ·
    subst c11
    have H1 : (some 5) = some r := by rw [if_pos rfl] at H; exact H
    clear H
    have H := H1
    clear H1
    obtain rfl := Option.some.inj H
    go_wp2
    go_ret
    exact ⟨by first | rfl | (simp [errW_none, errW_some] <;> rfl) | (simp [*, errW_none, errW_some] <;> rfl), bl HB⟩
   replace c11 := Bool.eq_false_iff.mpr c11
   subst c11
   have H1 : (portolanref04_Check.l0 kj1 0 l0_0) = some r := by rw [if_neg (show ¬ (false = true) by decide)] at H; exact H
   clear H
   have H := H1
   clear H1
   have H' := Aside0.mk H
   clear H
   go_wp2
   go_loopg [3] kj1 (fun kq v3 w' => ∃ (x3_2 : Int), v3 = .int .i64 x3_2 ∧ Aside0 (portolanref04_Check.l0 kq x3_2 l0_0 = some r) ∧ Aside0 (kq ≤ kj1) ∧ Aside0 (w'.heap[gb383]? = some (.cells #[(.slice A0_0 l0_0.length c0_0)] 24 (0, 0))) ∧ Aside0 (Below w.heap.size w w'))
   case atStart => exact ⟨(0), (by first | rfl | (simp; done) | (simp [*]; done)), H', ⟨Nat.le_refl _⟩, ⟨bx BK383.out⟩, ⟨bl HB⟩⟩
   case round =>
    clear H'
    try clear c1
    try clear p2
    try clear c3
    try clear p3
    try clear q3
    try clear hx3
    try clear qi3
    try clear c5
    try clear c6
    try clear c6b0
    try clear c6b1
    try clear c7
    try clear c7b0
    try clear c7b1
    try clear c11
    try clear hcz10_0
    try clear hcz8_0
    try clear hcz9_0
    try clear hfz10_0
    try clear hfz8_0
    try clear hfz9_0
    try clear hx385_0
    try clear hx385_1
    try clear hx385_2
    try clear hx385_3
    try clear hx385_4
    try clear hx386_0
    try clear hx386_1
    try clear hx386_2
    try clear hx386_3
    try clear hx386_4
    try clear p2
    try clear p3
    try clear p385
    try clear p386
    try clear q3
    try clear q385
    try clear q386
    obtain ⟨x3_2, rfl, HA, HK2, BK383, HB⟩ := hrel
    cases gk with
    | zero => exact absurd HA.out (by simp [portolanref04_Check.l0])
    | succ k2 =>
     have H := HA.out
     clear HA
     simp only [portolanref04_Check.l0] at H
     by_cases c12 : x3_2 < (l0_0.length : Int)
     ·
      rw [if_pos c12] at H
      have c12b0 : decide (x3_2 < (l0_0.length : Int)) = true := decide_eq_true c12
      clear c12
      by_cases c13 : 0 ≤ x3_2
      ·
       rw [if_pos c13] at H
       have c13b0 : decide (0 ≤ x3_2) = true := decide_eq_true c13
       clear c13
       replace H := Option.bind_eq_some_iff.mp H
       obtain ⟨t389, A140, H⟩ := H
       replace H : (if t389 = true then (portolanref04_Check.l1 k2 x3_2 0 l0_0 ((rd_T30 l0_0 x3_2).f0) ((rd_T30 l0_0 x3_2).f1) ((rd_T30 l0_0 x3_2).f2) ((rd_T30 l0_0 x3_2).f3) ((rd_T30 l0_0 x3_2).f4)) else (some 5)) = some r := H
       have A14 := Aside0.mk A140
       clear A140
       by_cases c15 : t389 = true
       ·
        subst c15
        have H1 : (portolanref04_Check.l1 k2 x3_2 0 l0_0 ((rd_T30 l0_0 x3_2).f0) ((rd_T30 l0_0 x3_2).f1) ((rd_T30 l0_0 x3_2).f2) ((rd_T30 l0_0 x3_2).f3) ((rd_T30 l0_0 x3_2).f4)) = some r := by rw [if_pos rfl] at H; exact H
        clear H
        have H := H1
        clear H1
        have H' := Aside0.mk H
        clear H
        have hcz16_0 := bk1 BK383.out
        have hfz16_0 := bf BK383.out
        have p387 : 0 ≤ (x3_2 : Int) := of_decide_eq_true (by assumption)
        have q387 : x3_2 < (l0_0.length : Int) := of_decide_eq_true (by assumption)
        obtain ⟨ad387, A387_0, c387_0, A387_1, c387_1, A387_4, c387_4, e387, hx387_0, hx387_1, hx387_2, hx387_3, hx387_4, hl387_0, hi387_0, hl387_1, hi387_1, hl387_4, hi387_4⟩ := at_T30 HR0_0.out x3_2 p387 q387
        cases e387
        replace hx387_0 := (HB.out.cell (World.block_lt_of_cell? w _ hx387_0)).trans hx387_0
        replace hx387_1 := (HB.out.cell (World.block_lt_of_cell? w _ hx387_1)).trans hx387_1
        replace hx387_2 := (HB.out.cell (World.block_lt_of_cell? w _ hx387_2)).trans hx387_2
        replace hx387_3 := (HB.out.cell (World.block_lt_of_cell? w _ hx387_3)).trans hx387_3
        replace hx387_4 := (HB.out.cell (World.block_lt_of_cell? w _ hx387_4)).trans hx387_4
        have HR387_0 := Aside0.mk hi387_0
        have HC387_0 := Aside0.mk hl387_0
        clear hi387_0 hl387_0
        have HR387_1 := Aside0.mk hi387_1
        have HC387_1 := Aside0.mk hl387_1
        clear hi387_1 hl387_1
        have HR387_4 := Aside0.mk hi387_4
        have HC387_4 := Aside0.mk hl387_4
        clear hi387_4 hl387_4
        replace p387 := eq_true p387
        replace q387 := eq_true q387
        go_wp2_with (first | ((with_reducible refine gate_dst (N := 4) rfl ?_); refine box_event ?hg (N := 4) ?hd (cs := #[.slice none 0 0, .slice none 0 0, .int .i64 0, .int .i64 0, .slice none 0 0]) (t := 30) ?hr ?_; (case hd => rfl); (case hg => rfl); (case hr => first | (go_simp; done) | (go_simp; rfl)); intro gb388 hg w17 hbox hb; have BK388 := Aside0.mk (hbox); have GW388 := ge hg (bl HB); have GE388 := ge hg (bl HB); replace HB := Aside0.mk (below_step (bl HB) hb); have NB383_388 := Aside0.mk ((by rw [hg]; exact Nat.ne_of_lt (blk_lt (g := gb383) (o := .cells #[.slice (some ad387) l0_0.length c0_0] 24 (0, 0)) (bx BK383.out)) : gb383 ≠ gb388)); have NB388_383 := Aside0.mk ((by rw [hg]; exact Nat.ne_of_gt (blk_lt (g := gb383) (o := .cells #[.slice (some ad387) l0_0.length c0_0] 24 (0, 0)) (bx BK383.out)) : gb388 ≠ gb383)); replace BK383 := Aside0.mk (blk_below (bx BK383.out) hb); clear hb hbox hg; have hnb18 := NB388_383.out; have hnc18 := NB383_388.out; obtain ⟨hcz19_0, hcz19_1, hcz19_2, hcz19_3, hcz19_4⟩ := bk5 BK388.out; have hfz19_0 := bf BK388.out) | ((with_reducible refine gate_callee (f := 57) rfl ?_); refine goesL_ (some 41) rfl rfl Tryd.func57 (by kernel_rfl) rfl #[.agg #[.slice A387_0 ((rd_T30 l0_0 x3_2).f0).length c387_0, .slice A387_1 ((rd_T30 l0_0 x3_2).f1).length c387_1, .int .i64 ((rd_T30 l0_0 x3_2).f2), .int .i64 ((rd_T30 l0_0 x3_2).f3), .slice A387_4 ((rd_T30 l0_0 x3_2).f4).length c387_4]] rfl (by (try simp only [List.map_toArray, List.map_cons, List.map_nil]); first | done | rfl) ?_; (with_reducible refine (portolanref04_Func.calls k2 _ _ ((rd_T30 l0_0 x3_2).f0) _ _ ((rd_T30 l0_0 x3_2).f1) ((rd_T30 l0_0 x3_2).f2) ((rd_T30 l0_0 x3_2).f3) _ _ ((rd_T30 l0_0 x3_2).f4) true _ ?side1 ?side2 ?side3 ?side4 ?side5 ?side6 A14.out).mono ?_); (case side1 => exact Kd.C_below HR387_0.out (bl HB)); (case side2 => exact HC387_0.out); (case side3 => exact Kd.C_below HR387_1.out (bl HB)); (case side4 => exact HC387_1.out); (case side5 => exact Kd.C_below HR387_4.out (bl HB)); (case side6 => exact HC387_4.out); rintro e w20 ⟨rfl, hb⟩; refine ⟨_, rfl, ?_⟩; replace BK383 := Aside0.mk (blk_below (g := gb383) (o := .cells #[.slice (some ad387) l0_0.length c0_0] 24 (0, 0)) (by refine bp ?_; refine blk_far ?_ NB383_388.out _; refine bp ?_; refine blk_far ?_ NB383_388.out _; refine bp ?_; refine blk_far ?_ NB383_388.out _; refine bp ?_; refine blk_far ?_ NB383_388.out _; refine bp ?_; refine blk_far ?_ NB383_388.out _; refine bp ?_; exact BK383.out) hb); replace BK388 := Aside0.mk (blk_below (g := gb388) (o := .cells #[.slice A387_0 ((rd_T30 l0_0 x3_2).f0).length c387_0, .slice A387_1 ((rd_T30 l0_0 x3_2).f1).length c387_1, .int .i64 ((rd_T30 l0_0 x3_2).f2), .int .i64 ((rd_T30 l0_0 x3_2).f3), .slice A387_4 ((rd_T30 l0_0 x3_2).f4).length c387_4] 30 (0, 0)) (by refine bp ?_; refine blk_put (cs := #[.slice A387_0 ((rd_T30 l0_0 x3_2).f0).length c387_0, .slice A387_1 ((rd_T30 l0_0 x3_2).f1).length c387_1, .int .i64 ((rd_T30 l0_0 x3_2).f2), .int .i64 ((rd_T30 l0_0 x3_2).f3), .slice none 0 0]) ?_ 4 _ rfl; refine bp ?_; refine blk_put (cs := #[.slice A387_0 ((rd_T30 l0_0 x3_2).f0).length c387_0, .slice A387_1 ((rd_T30 l0_0 x3_2).f1).length c387_1, .int .i64 ((rd_T30 l0_0 x3_2).f2), .int .i64 0, .slice none 0 0]) ?_ 3 _ rfl; refine bp ?_; refine blk_put (cs := #[.slice A387_0 ((rd_T30 l0_0 x3_2).f0).length c387_0, .slice A387_1 ((rd_T30 l0_0 x3_2).f1).length c387_1, .int .i64 0, .int .i64 0, .slice none 0 0]) ?_ 2 _ rfl; refine bp ?_; refine blk_put (cs := #[.slice A387_0 ((rd_T30 l0_0 x3_2).f0).length c387_0, .slice none 0 0, .int .i64 0, .int .i64 0, .slice none 0 0]) ?_ 1 _ rfl; refine bp ?_; refine blk_put (cs := #[.slice none 0 0, .slice none 0 0, .int .i64 0, .int .i64 0, .slice none 0 0]) ?_ 0 _ rfl; refine bp ?_; exact BK388.out) hb); replace HB := Aside0.mk (below_step (bl HB) hb); (try clear hb); (try clear hb2); (try clear hk); (try clear hi)))
        go_loopg [5] k2 (fun kq v5 w' => ∃ (x5_3 : Int), v5 = .int .i64 x5_3 ∧ Aside0 (portolanref04_Check.l1 kq x3_2 x5_3 l0_0 ((rd_T30 l0_0 x3_2).f0) ((rd_T30 l0_0 x3_2).f1) ((rd_T30 l0_0 x3_2).f2) ((rd_T30 l0_0 x3_2).f3) ((rd_T30 l0_0 x3_2).f4) = some r) ∧ Aside0 (kq ≤ k2) ∧ Aside0 (w'.heap[gb383]? = some (.cells #[(.slice (some ad387) l0_0.length c0_0)] 24 (0, 0))) ∧ Aside0 (w'.heap[gb388]? = some (.cells #[(.slice A387_0 ((rd_T30 l0_0 x3_2).f0).length c387_0), (.slice A387_1 ((rd_T30 l0_0 x3_2).f1).length c387_1), .int .i64 ((rd_T30 l0_0 x3_2).f2), .int .i64 ((rd_T30 l0_0 x3_2).f3), (.slice A387_4 ((rd_T30 l0_0 x3_2).f4).length c387_4)] 30 (0, 0))) ∧ Aside0 (Below w.heap.size w w'))
        case atStart => exact ⟨(0), (by first | rfl | (simp; done) | (simp [*]; done)), H', ⟨Nat.le_refl _⟩, ⟨bx BK383.out⟩, ⟨bx BK388.out⟩, ⟨bl HB⟩⟩
        case round =>
         clear H'
         try clear c1
         try clear p2
         try clear c3
         try clear p3
         try clear q3
         try clear hx3
         try clear qi3
         try clear c5
         try clear c6
         try clear c6b0
         try clear c6b1
         try clear c7
         try clear c7b0
         try clear c7b1
         try clear c11
         try clear c12
         try clear c12b0
         try clear c13
         try clear c13b0
         try clear c15
         try clear c18
         try clear hcz10_0
         try clear hcz16_0
         try clear hcz19_0 hcz19_1 hcz19_2 hcz19_3 hcz19_4
         try clear hcz8_0
         try clear hcz9_0
         try clear hfz10_0
         try clear hfz16_0
         try clear hfz19_0
         try clear hfz8_0
         try clear hfz9_0
         try clear hx385_0
         try clear hx385_1
         try clear hx385_2
         try clear hx385_3
         try clear hx385_4
         try clear hx386_0
         try clear hx386_1
         try clear hx386_2
         try clear hx386_3
         try clear hx386_4
         try clear hx387_0
         try clear hx387_1
         try clear hx387_2
         try clear hx387_3
         try clear hx387_4
         try clear p2
         try clear p3
         try clear p385
         try clear p386
         try clear p387
         try clear q3
         try clear q385
         try clear q386
         try clear q387
         obtain ⟨x5_3, rfl, HA, HK3, BK383, BK388, HB⟩ := hrel
         cases gk with
         | zero => exact absurd HA.out (by simp [portolanref04_Check.l1])
         | succ k3 =>
          have H := HA.out
          clear HA
          simp only [portolanref04_Check.l1] at H
          by_cases c21 : x5_3 < (((rd_T30 l0_0 x3_2).f4).length : Int)
          ·
           rw [if_pos c21] at H
           have c21b0 : decide (x5_3 < (((rd_T30 l0_0 x3_2).f4).length : Int)) = true := decide_eq_true c21
           clear c21
           have H' := Aside0.mk H
           clear H
           have hnb22 := NB388_383.out
           have hnc22 := NB383_388.out
           obtain ⟨hcz23_0, hcz23_1, hcz23_2, hcz23_3, hcz23_4⟩ := bk5 BK388.out
           have hfz23_0 := bf BK388.out
           go_wp2
           go_loopg [6] k3 (fun kq v6 w' => ∃ (x6_4 : Int), v6 = .int .i64 x6_4 ∧ Aside0 (portolanref04_Check.l2 kq x3_2 x5_3 x6_4 l0_0 ((rd_T30 l0_0 x3_2).f0) ((rd_T30 l0_0 x3_2).f1) ((rd_T30 l0_0 x3_2).f2) ((rd_T30 l0_0 x3_2).f3) ((rd_T30 l0_0 x3_2).f4) = some r) ∧ Aside0 (kq ≤ k3) ∧ Aside0 (w'.heap[gb383]? = some (.cells #[(.slice (some ad387) l0_0.length c0_0)] 24 (0, 0))) ∧ Aside0 (w'.heap[gb388]? = some (.cells #[(.slice A387_0 ((rd_T30 l0_0 x3_2).f0).length c387_0), (.slice A387_1 ((rd_T30 l0_0 x3_2).f1).length c387_1), .int .i64 ((rd_T30 l0_0 x3_2).f2), .int .i64 ((rd_T30 l0_0 x3_2).f3), (.slice A387_4 ((rd_T30 l0_0 x3_2).f4).length c387_4)] 30 (0, 0))) ∧ Aside0 (Below w.heap.size w w'))
           case atStart => exact ⟨(0), (by first | rfl | (simp; done) | (simp [*]; done)), H', ⟨Nat.le_refl _⟩, ⟨bx BK383.out⟩, ⟨bx BK388.out⟩, ⟨bl HB⟩⟩
           case round =>
            clear H'
            try clear c1
            try clear c2
            try clear p2
            try clear c3
            try clear p3
            try clear q3
            try clear hx3
            try clear qi3
            try clear c5
            try clear c6
            try clear c6b0
            try clear c6b1
            try clear c7
            try clear c7b0
            try clear c7b1
            try clear c11
            try clear c12
            try clear c12b0
            try clear c13
            try clear c13b0
            try clear c15
            try clear c18
            try clear c21
            try clear c21b0
            try clear c22
            try clear hcz10_0
            try clear hcz16_0
            try clear hcz19_0 hcz19_1 hcz19_2 hcz19_3 hcz19_4
            try clear hcz23_0 hcz23_1 hcz23_2 hcz23_3 hcz23_4
            try clear hcz8_0
            try clear hcz9_0
            try clear hfz10_0
            try clear hfz16_0
            try clear hfz19_0
            try clear hfz23_0
            try clear hfz8_0
            try clear hfz9_0
            try clear hx385_0
            try clear hx385_1
            try clear hx385_2
            try clear hx385_3
            try clear hx385_4
            try clear hx386_0
            try clear hx386_1
            try clear hx386_2
            try clear hx386_3
            try clear hx386_4
            try clear hx387_0
            try clear hx387_1
            try clear hx387_2
            try clear hx387_3
            try clear hx387_4
            try clear p2
            try clear p3
            try clear p385
            try clear p386
            try clear p387
            try clear q3
            try clear q385
            try clear q386
            try clear q387
            obtain ⟨x6_4, rfl, HA, HK4, BK383, BK388, HB⟩ := hrel
            cases gk with
            | zero => exact absurd HA.out (by simp [portolanref04_Check.l2])
            | succ k4 =>
             have H := HA.out
             clear HA
             simp only [portolanref04_Check.l2] at H
             by_cases c24 : 0 ≤ x5_3
             ·
              rw [if_pos c24] at H
              have c24b0 : decide (0 ≤ x5_3) = true := decide_eq_true c24
              clear c24
              by_cases c25 : x5_3 < (((rd_T30 l0_0 x3_2).f4).length : Int)
              ·
               rw [if_pos c25] at H
               have c25b0 : decide (x5_3 < (((rd_T30 l0_0 x3_2).f4).length : Int)) = true := decide_eq_true c25
               clear c25
               by_cases c26 : x6_4 < (((rd_T40 ((rd_T30 l0_0 x3_2).f4) x5_3).f0).length : Int)
               ·
                rw [if_pos c26] at H
                have c26b0 : decide (x6_4 < (((rd_T40 ((rd_T30 l0_0 x3_2).f4) x5_3).f0).length : Int)) = true := decide_eq_true c26
                clear c26
                by_cases c27 : 0 ≤ x6_4
                ·
                 rw [if_pos c27] at H
                 have c27b0 : decide (0 ≤ x6_4) = true := decide_eq_true c27
                 clear c27
                 replace H := Option.bind_eq_some_iff.mp H
                 obtain ⟨t393, A280, H⟩ := H
                 replace H : (if t393 = true then (portolanref04_Check.l2 k4 x3_2 x5_3 (wrap64 (x6_4 + 1)) l0_0 ((rd_T30 l0_0 x3_2).f0) ((rd_T30 l0_0 x3_2).f1) ((rd_T30 l0_0 x3_2).f2) ((rd_T30 l0_0 x3_2).f3) ((rd_T30 l0_0 x3_2).f4)) else (some 5)) = some r := H
                 have A28 := Aside0.mk A280
                 clear A280
                 by_cases c29 : t393 = true
                 ·
                  subst c29
                  have H1 : (portolanref04_Check.l2 k4 x3_2 x5_3 (wrap64 (x6_4 + 1)) l0_0 ((rd_T30 l0_0 x3_2).f0) ((rd_T30 l0_0 x3_2).f1) ((rd_T30 l0_0 x3_2).f2) ((rd_T30 l0_0 x3_2).f3) ((rd_T30 l0_0 x3_2).f4)) = some r := by rw [if_pos rfl] at H; exact H
                  clear H
                  have H := H1
                  clear H1
                  have H' := Aside0.mk H
                  clear H
                  have hnb30 := NB388_383.out
                  have hnc30 := NB383_388.out
                  obtain ⟨hcz31_0, hcz31_1, hcz31_2, hcz31_3, hcz31_4⟩ := bk5 BK388.out
                  have hfz31_0 := bf BK388.out
                  have p390 : 0 ≤ (x5_3 : Int) := of_decide_eq_true (by assumption)
                  have q390 : x5_3 < (((rd_T30 l0_0 x3_2).f4).length : Int) := of_decide_eq_true (by assumption)
                  obtain ⟨ad390, A390_0, c390_0, e390, hx390_0, hl390_0, hi390_0⟩ := at_T40 HR387_4.out x5_3 p390 q390
                  cases e390
                  replace hx390_0 := (HB.out.cell (World.block_lt_of_cell? w _ hx390_0)).trans hx390_0
                  have HR390_0 := Aside0.mk hi390_0
                  have HC390_0 := Aside0.mk hl390_0
                  clear hi390_0 hl390_0
                  replace p390 := eq_true p390
                  replace q390 := eq_true q390
                  try go_wp2
                  replace BK383 := Aside0.mk (blk_drew BK383.out); replace BK388 := Aside0.mk (blk_drew BK388.out); replace HB := Aside0.mk (below_drew1 HB.out)
                  have p391 : 0 ≤ (x5_3 : Int) := of_decide_eq_true (by assumption)
                  have q391 : x5_3 < (((rd_T30 l0_0 x3_2).f4).length : Int) := of_decide_eq_true (by assumption)
                  obtain ⟨ad391, A391_0, c391_0, e391, hx391_0, hl391_0, hi391_0⟩ := at_T40 HR387_4.out x5_3 p391 q391
                  have hw391_0 := hx391_0
                  obtain rfl : ad390 = ad391 := (by injection e391)
                  replace hx391_0 := (HB.out.cell (World.block_lt_of_cell? w _ hx391_0)).trans hx391_0
                  have HR391_0 := Aside0.mk hi391_0
                  have HC391_0 := Aside0.mk hl391_0
                  clear hi391_0 hl391_0
                  replace p391 := eq_true p391
                  replace q391 := eq_true q391
                  have p392 : 0 ≤ (x6_4 : Int) := of_decide_eq_true (by assumption)
                  have q392 : x6_4 < (((rd_T40 ((rd_T30 l0_0 x3_2).f4) x5_3).f0).length : Int) := of_decide_eq_true (by assumption)
                  obtain ⟨ad392, A392_6, c392_6, e392, hx392_0, hx392_1, hx392_2, hx392_3, hx392_4, hx392_5, hx392_6, hl392_6, hi392_6⟩ := at_T44 HR391_0.out x6_4 p392 q392
                  have hw392_6 := hx392_6
                  have hw392_5 := hx392_5
                  have hw392_4 := hx392_4
                  have hw392_3 := hx392_3
                  have hw392_2 := hx392_2
                  have hw392_1 := hx392_1
                  have hw392_0 := hx392_0
                  cases e392
                  replace hx392_0 := (HB.out.cell (World.block_lt_of_cell? w _ hx392_0)).trans hx392_0
                  replace hx392_1 := (HB.out.cell (World.block_lt_of_cell? w _ hx392_1)).trans hx392_1
                  replace hx392_2 := (HB.out.cell (World.block_lt_of_cell? w _ hx392_2)).trans hx392_2
                  replace hx392_3 := (HB.out.cell (World.block_lt_of_cell? w _ hx392_3)).trans hx392_3
                  replace hx392_4 := (HB.out.cell (World.block_lt_of_cell? w _ hx392_4)).trans hx392_4
                  replace hx392_5 := (HB.out.cell (World.block_lt_of_cell? w _ hx392_5)).trans hx392_5
                  replace hx392_6 := (HB.out.cell (World.block_lt_of_cell? w _ hx392_6)).trans hx392_6
                  have HR392_6 := Aside0.mk hi392_6
                  have HC392_6 := Aside0.mk hl392_6
                  clear hi392_6 hl392_6
                  replace p392 := eq_true p392
                  replace q392 := eq_true q392
                  refine start_ (n := 13) (S := fun w' => w'.cell? ⟨gb383, 0, none⟩ = some (.slice (some ad387) l0_0.length c0_0) ∧ w'.cell? ⟨gb388, 0, none⟩ = some (.slice A387_0 ((rd_T30 l0_0 x3_2).f0).length c387_0) ∧ w'.cell? ⟨gb388, 1, none⟩ = some (.slice A387_1 ((rd_T30 l0_0 x3_2).f1).length c387_1) ∧ w'.cell? ⟨gb388, 2, none⟩ = some (.int .i64 ((rd_T30 l0_0 x3_2).f2)) ∧ w'.cell? ⟨gb388, 3, none⟩ = some (.int .i64 ((rd_T30 l0_0 x3_2).f3)) ∧ w'.cell? ⟨gb388, 4, none⟩ = some (.slice (some ad390) ((rd_T30 l0_0 x3_2).f4).length c387_4) ∧ w'.cell? (ad390.add (x5_3).toNat) = some (.slice (some ad392) ((rd_T40 ((rd_T30 l0_0 x3_2).f4) x5_3).f0).length c391_0) ∧ w'.cell? (ad392.add ((x6_4).toNat * 7)) = some (.int .i64 ((rd_T44 ((rd_T40 ((rd_T30 l0_0 x3_2).f4) x5_3).f0) x6_4).f0)) ∧ w'.cell? ⟨(ad392.add ((x6_4).toNat * 7)).block, (ad392.add ((x6_4).toNat * 7)).off + 1, none⟩ = some (.int .i64 ((rd_T44 ((rd_T40 ((rd_T30 l0_0 x3_2).f4) x5_3).f0) x6_4).f1)) ∧ w'.cell? ⟨(ad392.add ((x6_4).toNat * 7)).block, (ad392.add ((x6_4).toNat * 7)).off + 2, none⟩ = some (.int .i64 ((rd_T44 ((rd_T40 ((rd_T30 l0_0 x3_2).f4) x5_3).f0) x6_4).f2)) ∧ w'.cell? ⟨(ad392.add ((x6_4).toNat * 7)).block, (ad392.add ((x6_4).toNat * 7)).off + 3, none⟩ = some (.int .i64 ((rd_T44 ((rd_T40 ((rd_T30 l0_0 x3_2).f4) x5_3).f0) x6_4).f3)) ∧ w'.cell? ⟨(ad392.add ((x6_4).toNat * 7)).block, (ad392.add ((x6_4).toNat * 7)).off + 4, none⟩ = some (.int .i64 ((rd_T44 ((rd_T40 ((rd_T30 l0_0 x3_2).f4) x5_3).f0) x6_4).f4)) ∧ w'.cell? ⟨(ad392.add ((x6_4).toNat * 7)).block, (ad392.add ((x6_4).toNat * 7)).off + 5, none⟩ = some (.int .i64 ((rd_T44 ((rd_T40 ((rd_T30 l0_0 x3_2).f4) x5_3).f0) x6_4).f5)) ∧ w'.cell? ⟨(ad392.add ((x6_4).toNat * 7)).block, (ad392.add ((x6_4).toNat * 7)).off + 6, none⟩ = some (.slice A392_6 ((rd_T44 ((rd_T40 ((rd_T30 l0_0 x3_2).f4) x5_3).f0) x6_4).f6).length c392_6)) (ds := []) #[false, false, false, false, false, false, false, false, false, false, false, false, false] (by kernel_rfl) rfl rfl ⟨(blk_cell BK383.out 0).trans rfl, (blk_cell BK388.out 0).trans rfl, (blk_cell BK388.out 1).trans rfl, (blk_cell BK388.out 2).trans rfl, (blk_cell BK388.out 3).trans rfl, (blk_cell BK388.out 4).trans rfl, ((HB.out.cell (World.block_lt_of_cell? w _ hw391_0)).trans hw391_0), ((HB.out.cell (World.block_lt_of_cell? w _ hw392_0)).trans hw392_0), ((HB.out.cell (World.block_lt_of_cell? w _ hw392_1)).trans hw392_1), ((HB.out.cell (World.block_lt_of_cell? w _ hw392_2)).trans hw392_2), ((HB.out.cell (World.block_lt_of_cell? w _ hw392_3)).trans hw392_3), ((HB.out.cell (World.block_lt_of_cell? w _ hw392_4)).trans hw392_4), ((HB.out.cell (World.block_lt_of_cell? w _ hw392_5)).trans hw392_5), ((HB.out.cell (World.block_lt_of_cell? w _ hw392_6)).trans hw392_6)⟩ (fun hHeld => ?_); refine with_tabW portolanref04_Check.tab15 portolanref04_Check.bits15 (fun HT_ HW_ => ?_)
                  generalize wr.drew = w32 at BK383 BK388 HB HR391_0 HR392_6 hx391_0 hx392_0 hx392_1 hx392_2 hx392_3 hx392_4 hx392_5 hx392_6 hHeld ⊢
                  refine pure_ (i := 1) (N := some 62) (v := ?_) (a' := ?_) #[false, true, false, false, false, false, false, false, false, false, false, false, false] rfl rfl (any_of HT_.out (by kernel_rfl)) (fun _ _ _ h => h) (Or.inl ⟨by rfl, ?_⟩) ?_ ?_
                  rotate_left
                  ·
                   intro w'
                   go_simp
                   with_reducible rfl
                  rotate_left
                  ·
                   simp only [Act.put, List.setIfInBounds_toArray, List.set_cons_zero, List.set_cons_succ, i64_w, i32_w]
                   rfl
                  refine pure_ (i := 2) (N := some 63) (v := ?_) (a' := ?_) #[false, true, true, false, false, false, false, false, false, false, false, false, false] rfl rfl (any_of HT_.out (by kernel_rfl)) (fun _ _ _ h => h) (Or.inl ⟨by rfl, ?_⟩) ?_ ?_
                  rotate_left
                  ·
                   intro w'
                   go_simp
                   with_reducible rfl
                  rotate_left
                  ·
                   simp only [Act.put, List.setIfInBounds_toArray, List.set_cons_zero, List.set_cons_succ, i64_w, i32_w]
                   rfl
                  refine pure_ (i := 4) (N := some 65) (v := ?_) (a' := ?_) #[false, true, true, false, true, false, false, false, false, false, false, false, false] rfl rfl (any_of HT_.out (by kernel_rfl)) (fun _ _ _ h => h) (Or.inl ⟨by rfl, ?_⟩) ?_ ?_
                  rotate_left
                  ·
                   intro w'
                   go_simp
                   with_reducible rfl
                  rotate_left
                  ·
                   simp only [Act.put, List.setIfInBounds_toArray, List.set_cons_zero, List.set_cons_succ, i64_w, i32_w]
                   rfl
                  refine pure_ (i := 8) (N := some 69) (v := ?_) (a' := ?_) #[false, true, true, false, true, false, false, false, true, false, false, false, false] rfl rfl (any_of HT_.out (by kernel_rfl)) (fun _ _ _ h => h) (Or.inl ⟨by rfl, ?_⟩) ?_ ?_
                  rotate_left
                  ·
                   intro w'
                   go_simp
                   with_reducible rfl
                  rotate_left
                  ·
                   simp only [Act.put, List.setIfInBounds_toArray, List.set_cons_zero, List.set_cons_succ, i64_w, i32_w]
                   rfl
                  refine take_ (i := 0) (N := some 61) (v := ?_) (a' := ?_) #[true, true, true, false, true, false, false, false, true, false, false, false, false] rfl rfl (take_ofW HT_.out HW_.out (by kernel_rfl)) (fun _ _ _ h => h) (Or.inl ⟨by rfl, ?_⟩) hHeld ?_ ?_
                  rotate_left
                  ·
                   rintro w' ⟨s0, s1, s2, s3, s4, s5, s6, s7, s8, s9, s10, s11, s12, s13⟩
                   go_simp
                   with_reducible rfl
                  rotate_left
                  ·
                   simp only [Act.put, List.setIfInBounds_toArray, List.set_cons_zero, List.set_cons_succ, i64_w, i32_w]
                   rfl
                  refine take_ (i := 3) (N := some 64) (v := ?_) (a' := ?_) #[true, true, true, true, true, false, false, false, true, false, false, false, false] rfl rfl (take_ofW HT_.out HW_.out (by kernel_rfl)) (fun _ _ _ h => h) (Or.inl ⟨by rfl, ?_⟩) hHeld ?_ ?_
                  rotate_left
                  ·
                   rintro w' ⟨s0, s1, s2, s3, s4, s5, s6, s7, s8, s9, s10, s11, s12, s13⟩
                   go_simp
                   with_reducible rfl
                  rotate_left
                  ·
                   simp only [Act.put, List.setIfInBounds_toArray, List.set_cons_zero, List.set_cons_succ, i64_w, i32_w]
                   rfl
                  refine pure_ (i := 5) (N := some 66) (v := ?_) (a' := ?_) #[true, true, true, true, true, true, false, false, true, false, false, false, false] rfl rfl (any_of HT_.out (by kernel_rfl)) (fun _ _ _ h => h) (Or.inl ⟨by rfl, ?_⟩) ?_ ?_
                  rotate_left
                  ·
                   intro w'
                   go_simp
                   with_reducible rfl
                  rotate_left
                  ·
                   simp only [Act.put, List.setIfInBounds_toArray, List.set_cons_zero, List.set_cons_succ, i64_w, i32_w]
                   rfl
                  refine pure_ (i := 6) (N := some 67) (v := ?_) (a' := ?_) #[true, true, true, true, true, true, true, false, true, false, false, false, false] rfl rfl (any_of HT_.out (by kernel_rfl)) (fun _ _ _ h => h) (Or.inl ⟨by rfl, ?_⟩) ?_ ?_
                  rotate_left
                  ·
                   intro w'
                   go_simp
                   with_reducible rfl
                  rotate_left
                  ·
                   simp only [Act.put, List.setIfInBounds_toArray, List.set_cons_zero, List.set_cons_succ, i64_w, i32_w]
                   rfl
                  refine take_ (i := 7) (N := some 68) (v := ?_) (a' := ?_) #[true, true, true, true, true, true, true, true, true, false, false, false, false] rfl rfl (take_ofW HT_.out HW_.out (by kernel_rfl)) (fun _ _ _ h => h) (Or.inl ⟨by rfl, ?_⟩) hHeld ?_ ?_
                  rotate_left
                  ·
                   rintro w' ⟨s0, s1, s2, s3, s4, s5, s6, s7, s8, s9, s10, s11, s12, s13⟩
                   go_simp
                   with_reducible rfl
                  rotate_left
                  ·
                   simp only [Act.put, List.setIfInBounds_toArray, List.set_cons_zero, List.set_cons_succ, i64_w, i32_w]
                   rfl
                  refine pure_ (i := 9) (N := some 70) (v := ?_) (a' := ?_) #[true, true, true, true, true, true, true, true, true, true, false, false, false] rfl rfl (any_of HT_.out (by kernel_rfl)) (fun _ _ _ h => h) (Or.inl ⟨by rfl, ?_⟩) ?_ ?_
                  rotate_left
                  ·
                   intro w'
                   go_simp
                   with_reducible rfl
                  rotate_left
                  ·
                   simp only [Act.put, List.setIfInBounds_toArray, List.set_cons_zero, List.set_cons_succ, i64_w, i32_w]
                   rfl
                  refine take_ (i := 10) (N := some 71) (v := ?_) (a' := ?_) #[true, true, true, true, true, true, true, true, true, true, true, false, false] rfl rfl (take_ofW HT_.out HW_.out (by kernel_rfl)) (fun _ _ _ h => h) (Or.inl ⟨by rfl, ?_⟩) hHeld ?_ ?_
                  rotate_left
                  ·
                   rintro w' ⟨s0, s1, s2, s3, s4, s5, s6, s7, s8, s9, s10, s11, s12, s13⟩
                   go_simp
                   with_reducible rfl
                  rotate_left
                  ·
                   simp only [Act.put, List.setIfInBounds_toArray, List.set_cons_zero, List.set_cons_succ, i64_w, i32_w]
                   rfl
                  refine one_ (i := 11) (N := some 72) #[true, true, true, true, true, true, true, true, true, true, true, true, false] rfl rfl (one_of HT_.out (by kernel_rfl)) (by decide) (fun K hK => ?_)
                  refine goes_ Tryd.func58 (by kernel_rfl) rfl #[.agg #[.slice (some ad387) l0_0.length c0_0], .int .i64 x3_2, .agg #[.int .i64 ((rd_T44 ((rd_T40 ((rd_T30 l0_0 x3_2).f4) x5_3).f0) x6_4).f0), .int .i64 ((rd_T44 ((rd_T40 ((rd_T30 l0_0 x3_2).f4) x5_3).f0) x6_4).f1), .int .i64 ((rd_T44 ((rd_T40 ((rd_T30 l0_0 x3_2).f4) x5_3).f0) x6_4).f2), .int .i64 ((rd_T44 ((rd_T40 ((rd_T30 l0_0 x3_2).f4) x5_3).f0) x6_4).f3), .int .i64 ((rd_T44 ((rd_T40 ((rd_T30 l0_0 x3_2).f4) x5_3).f0) x6_4).f4), .int .i64 ((rd_T44 ((rd_T40 ((rd_T30 l0_0 x3_2).f4) x5_3).f0) x6_4).f5), .slice A392_6 ((rd_T44 ((rd_T40 ((rd_T30 l0_0 x3_2).f4) x5_3).f0) x6_4).f6).length c392_6]] (by rfl) rfl rfl (by (try simp only [List.map_toArray, List.map_cons, List.map_nil]); first | done | rfl) ?_
                  with_reducible refine (portolanref04_Ins.calls k4 _ _ l0_0 x3_2 ((rd_T44 ((rd_T40 ((rd_T30 l0_0 x3_2).f4) x5_3).f0) x6_4).f0) ((rd_T44 ((rd_T40 ((rd_T30 l0_0 x3_2).f4) x5_3).f0) x6_4).f1) ((rd_T44 ((rd_T40 ((rd_T30 l0_0 x3_2).f4) x5_3).f0) x6_4).f2) ((rd_T44 ((rd_T40 ((rd_T30 l0_0 x3_2).f4) x5_3).f0) x6_4).f3) ((rd_T44 ((rd_T40 ((rd_T30 l0_0 x3_2).f4) x5_3).f0) x6_4).f4) ((rd_T44 ((rd_T40 ((rd_T30 l0_0 x3_2).f4) x5_3).f0) x6_4).f5) _ _ ((rd_T44 ((rd_T40 ((rd_T30 l0_0 x3_2).f4) x5_3).f0) x6_4).f6) true _ ?side1 ?side2 ?side3 ?side4 A28.out).mono ?_
                  (case side1 => exact Kd.Cx (Kd.C_below HR0_0.out HB.out))
                  (case side2 => exact HC0_0.out)
                  (case side3 => exact Kd.Cx (Kd.C_below HR392_6.out HB.out))
                  (case side4 => exact HC392_6.out)
                  rintro e w33 ⟨rfl, hb⟩
                  refine ⟨_, rfl, ?_⟩
                  replace BK383 := Aside0.mk (blk_below (bx BK383.out) hb); replace BK388 := Aside0.mk (blk_below (bx BK388.out) hb); replace HB := Aside0.mk (below_step (bl HB) hb)
                  (try clear hb)
                  (try clear hb2)
                  (try clear hk)
                  (try clear hi)
                  refine hK.out _ _ ⟨(blk_cell BK383.out 0).trans rfl, (blk_cell BK388.out 0).trans rfl, (blk_cell BK388.out 1).trans rfl, (blk_cell BK388.out 2).trans rfl, (blk_cell BK388.out 3).trans rfl, (blk_cell BK388.out 4).trans rfl, ((HB.out.cell (World.block_lt_of_cell? w _ hw391_0)).trans hw391_0), ((HB.out.cell (World.block_lt_of_cell? w _ hw392_0)).trans hw392_0), ((HB.out.cell (World.block_lt_of_cell? w _ hw392_1)).trans hw392_1), ((HB.out.cell (World.block_lt_of_cell? w _ hw392_2)).trans hw392_2), ((HB.out.cell (World.block_lt_of_cell? w _ hw392_3)).trans hw392_3), ((HB.out.cell (World.block_lt_of_cell? w _ hw392_4)).trans hw392_4), ((HB.out.cell (World.block_lt_of_cell? w _ hw392_5)).trans hw392_5), ((HB.out.cell (World.block_lt_of_cell? w _ hw392_6)).trans hw392_6)⟩ (fun hHeld => ?_)
                  clear hK K
                  refine norm_ (a' := ?_) ?_ ?_
                  rotate_left
                  ·
                   show Act.put _ (some 72) _ = _
                   simp only [Act.put, List.setIfInBounds_toArray, List.set_cons_zero, List.set_cons_succ, i64_w, i32_w]
                   rfl
                  refine pure_ (i := 12) (N := some 73) (v := ?_) (a' := ?_) #[true, true, true, true, true, true, true, true, true, true, true, true, true] rfl rfl (any_of HT_.out (by kernel_rfl)) (fun _ _ _ h => h) (Or.inl ⟨by rfl, ?_⟩) ?_ ?_
                  rotate_left
                  ·
                   intro w'
                   go_simp
                   with_reducible rfl
                  rotate_left
                  ·
                   simp only [Act.put, List.setIfInBounds_toArray, List.set_cons_zero, List.set_cons_succ, i64_w, i32_w]
                   rfl
                  refine done_ (done_of HT_.out (by kernel_rfl)) ?_
                  try go_wp2
                  go_roundg k4
                  case measure => have := HJ1.out; have := HK2.out; have := HK3.out; have := HK4.out; omega
                  case rel => exact ⟨(wrap64 (x6_4 + 1)), (by first | rfl | (simp; done) | (simp [*]; done)), H', ⟨by have := HJ1.out; have := HK2.out; have := HK3.out; have := HK4.out; omega⟩, ⟨bx BK383.out⟩, ⟨bx BK388.out⟩, ⟨bl HB⟩⟩
                 replace c29 := Bool.eq_false_iff.mpr c29
                 subst c29
                 have H1 : (some 5) = some r := by rw [if_neg (show ¬ (false = true) by decide)] at H; exact H
                 clear H
                 have H := H1
                 clear H1
                 obtain rfl := Option.some.inj H
                 have hnb34 := NB388_383.out
                 have hnc34 := NB383_388.out
                 obtain ⟨hcz35_0, hcz35_1, hcz35_2, hcz35_3, hcz35_4⟩ := bk5 BK388.out
                 have hfz35_0 := bf BK388.out
                 have p390 : 0 ≤ (x5_3 : Int) := of_decide_eq_true (by assumption)
                 have q390 : x5_3 < (((rd_T30 l0_0 x3_2).f4).length : Int) := of_decide_eq_true (by assumption)
                 obtain ⟨ad390, A390_0, c390_0, e390, hx390_0, hl390_0, hi390_0⟩ := at_T40 HR387_4.out x5_3 p390 q390
                 cases e390
                 replace hx390_0 := (HB.out.cell (World.block_lt_of_cell? w _ hx390_0)).trans hx390_0
                 have HR390_0 := Aside0.mk hi390_0
                 have HC390_0 := Aside0.mk hl390_0
                 clear hi390_0 hl390_0
                 replace p390 := eq_true p390
                 replace q390 := eq_true q390
                 try go_wp2
                 replace BK383 := Aside0.mk (blk_drew BK383.out); replace BK388 := Aside0.mk (blk_drew BK388.out); replace HB := Aside0.mk (below_drew1 HB.out)
                 have p391 : 0 ≤ (x5_3 : Int) := of_decide_eq_true (by assumption)
                 have q391 : x5_3 < (((rd_T30 l0_0 x3_2).f4).length : Int) := of_decide_eq_true (by assumption)
                 obtain ⟨ad391, A391_0, c391_0, e391, hx391_0, hl391_0, hi391_0⟩ := at_T40 HR387_4.out x5_3 p391 q391
                 have hw391_0 := hx391_0
                 obtain rfl : ad390 = ad391 := (by injection e391)
                 replace hx391_0 := (HB.out.cell (World.block_lt_of_cell? w _ hx391_0)).trans hx391_0
                 have HR391_0 := Aside0.mk hi391_0
                 have HC391_0 := Aside0.mk hl391_0
                 clear hi391_0 hl391_0
                 replace p391 := eq_true p391
                 replace q391 := eq_true q391
                 have p392 : 0 ≤ (x6_4 : Int) := of_decide_eq_true (by assumption)
                 have q392 : x6_4 < (((rd_T40 ((rd_T30 l0_0 x3_2).f4) x5_3).f0).length : Int) := of_decide_eq_true (by assumption)
                 obtain ⟨ad392, A392_6, c392_6, e392, hx392_0, hx392_1, hx392_2, hx392_3, hx392_4, hx392_5, hx392_6, hl392_6, hi392_6⟩ := at_T44 HR391_0.out x6_4 p392 q392
                 have hw392_6 := hx392_6
                 have hw392_5 := hx392_5
                 have hw392_4 := hx392_4
                 have hw392_3 := hx392_3
                 have hw392_2 := hx392_2
                 have hw392_1 := hx392_1
                 have hw392_0 := hx392_0
                 cases e392
                 replace hx392_0 := (HB.out.cell (World.block_lt_of_cell? w _ hx392_0)).trans hx392_0
                 replace hx392_1 := (HB.out.cell (World.block_lt_of_cell? w _ hx392_1)).trans hx392_1
                 replace hx392_2 := (HB.out.cell (World.block_lt_of_cell? w _ hx392_2)).trans hx392_2
                 replace hx392_3 := (HB.out.cell (World.block_lt_of_cell? w _ hx392_3)).trans hx392_3
                 replace hx392_4 := (HB.out.cell (World.block_lt_of_cell? w _ hx392_4)).trans hx392_4
                 replace hx392_5 := (HB.out.cell (World.block_lt_of_cell? w _ hx392_5)).trans hx392_5
                 replace hx392_6 := (HB.out.cell (World.block_lt_of_cell? w _ hx392_6)).trans hx392_6
                 have HR392_6 := Aside0.mk hi392_6
                 have HC392_6 := Aside0.mk hl392_6
                 clear hi392_6 hl392_6
                 replace p392 := eq_true p392
                 replace q392 := eq_true q392
                 refine start_ (n := 13) (S := fun w' => w'.cell? ⟨gb383, 0, none⟩ = some (.slice (some ad387) l0_0.length c0_0) ∧ w'.cell? ⟨gb388, 0, none⟩ = some (.slice A387_0 ((rd_T30 l0_0 x3_2).f0).length c387_0) ∧ w'.cell? ⟨gb388, 1, none⟩ = some (.slice A387_1 ((rd_T30 l0_0 x3_2).f1).length c387_1) ∧ w'.cell? ⟨gb388, 2, none⟩ = some (.int .i64 ((rd_T30 l0_0 x3_2).f2)) ∧ w'.cell? ⟨gb388, 3, none⟩ = some (.int .i64 ((rd_T30 l0_0 x3_2).f3)) ∧ w'.cell? ⟨gb388, 4, none⟩ = some (.slice (some ad390) ((rd_T30 l0_0 x3_2).f4).length c387_4) ∧ w'.cell? (ad390.add (x5_3).toNat) = some (.slice (some ad392) ((rd_T40 ((rd_T30 l0_0 x3_2).f4) x5_3).f0).length c391_0) ∧ w'.cell? (ad392.add ((x6_4).toNat * 7)) = some (.int .i64 ((rd_T44 ((rd_T40 ((rd_T30 l0_0 x3_2).f4) x5_3).f0) x6_4).f0)) ∧ w'.cell? ⟨(ad392.add ((x6_4).toNat * 7)).block, (ad392.add ((x6_4).toNat * 7)).off + 1, none⟩ = some (.int .i64 ((rd_T44 ((rd_T40 ((rd_T30 l0_0 x3_2).f4) x5_3).f0) x6_4).f1)) ∧ w'.cell? ⟨(ad392.add ((x6_4).toNat * 7)).block, (ad392.add ((x6_4).toNat * 7)).off + 2, none⟩ = some (.int .i64 ((rd_T44 ((rd_T40 ((rd_T30 l0_0 x3_2).f4) x5_3).f0) x6_4).f2)) ∧ w'.cell? ⟨(ad392.add ((x6_4).toNat * 7)).block, (ad392.add ((x6_4).toNat * 7)).off + 3, none⟩ = some (.int .i64 ((rd_T44 ((rd_T40 ((rd_T30 l0_0 x3_2).f4) x5_3).f0) x6_4).f3)) ∧ w'.cell? ⟨(ad392.add ((x6_4).toNat * 7)).block, (ad392.add ((x6_4).toNat * 7)).off + 4, none⟩ = some (.int .i64 ((rd_T44 ((rd_T40 ((rd_T30 l0_0 x3_2).f4) x5_3).f0) x6_4).f4)) ∧ w'.cell? ⟨(ad392.add ((x6_4).toNat * 7)).block, (ad392.add ((x6_4).toNat * 7)).off + 5, none⟩ = some (.int .i64 ((rd_T44 ((rd_T40 ((rd_T30 l0_0 x3_2).f4) x5_3).f0) x6_4).f5)) ∧ w'.cell? ⟨(ad392.add ((x6_4).toNat * 7)).block, (ad392.add ((x6_4).toNat * 7)).off + 6, none⟩ = some (.slice A392_6 ((rd_T44 ((rd_T40 ((rd_T30 l0_0 x3_2).f4) x5_3).f0) x6_4).f6).length c392_6)) (ds := []) #[false, false, false, false, false, false, false, false, false, false, false, false, false] (by kernel_rfl) rfl rfl ⟨(blk_cell BK383.out 0).trans rfl, (blk_cell BK388.out 0).trans rfl, (blk_cell BK388.out 1).trans rfl, (blk_cell BK388.out 2).trans rfl, (blk_cell BK388.out 3).trans rfl, (blk_cell BK388.out 4).trans rfl, ((HB.out.cell (World.block_lt_of_cell? w _ hw391_0)).trans hw391_0), ((HB.out.cell (World.block_lt_of_cell? w _ hw392_0)).trans hw392_0), ((HB.out.cell (World.block_lt_of_cell? w _ hw392_1)).trans hw392_1), ((HB.out.cell (World.block_lt_of_cell? w _ hw392_2)).trans hw392_2), ((HB.out.cell (World.block_lt_of_cell? w _ hw392_3)).trans hw392_3), ((HB.out.cell (World.block_lt_of_cell? w _ hw392_4)).trans hw392_4), ((HB.out.cell (World.block_lt_of_cell? w _ hw392_5)).trans hw392_5), ((HB.out.cell (World.block_lt_of_cell? w _ hw392_6)).trans hw392_6)⟩ (fun hHeld => ?_); refine with_tabW portolanref04_Check.tab15 portolanref04_Check.bits15 (fun HT_ HW_ => ?_)
                 generalize wr.drew = w36 at BK383 BK388 HB HR391_0 HR392_6 hx391_0 hx392_0 hx392_1 hx392_2 hx392_3 hx392_4 hx392_5 hx392_6 hHeld ⊢
                 refine pure_ (i := 1) (N := some 62) (v := ?_) (a' := ?_) #[false, true, false, false, false, false, false, false, false, false, false, false, false] rfl rfl (any_of HT_.out (by kernel_rfl)) (fun _ _ _ h => h) (Or.inl ⟨by rfl, ?_⟩) ?_ ?_
                 rotate_left
                 ·
                  intro w'
                  go_simp
                  with_reducible rfl
                 rotate_left
                 ·
                  simp only [Act.put, List.setIfInBounds_toArray, List.set_cons_zero, List.set_cons_succ, i64_w, i32_w]
                  rfl
                 refine pure_ (i := 2) (N := some 63) (v := ?_) (a' := ?_) #[false, true, true, false, false, false, false, false, false, false, false, false, false] rfl rfl (any_of HT_.out (by kernel_rfl)) (fun _ _ _ h => h) (Or.inl ⟨by rfl, ?_⟩) ?_ ?_
                 rotate_left
                 ·
                  intro w'
                  go_simp
                  with_reducible rfl
                 rotate_left
                 ·
                  simp only [Act.put, List.setIfInBounds_toArray, List.set_cons_zero, List.set_cons_succ, i64_w, i32_w]
                  rfl
                 refine pure_ (i := 4) (N := some 65) (v := ?_) (a' := ?_) #[false, true, true, false, true, false, false, false, false, false, false, false, false] rfl rfl (any_of HT_.out (by kernel_rfl)) (fun _ _ _ h => h) (Or.inl ⟨by rfl, ?_⟩) ?_ ?_
                 rotate_left
                 ·
                  intro w'
                  go_simp
                  with_reducible rfl
                 rotate_left
                 ·
                  simp only [Act.put, List.setIfInBounds_toArray, List.set_cons_zero, List.set_cons_succ, i64_w, i32_w]
                  rfl
                 refine pure_ (i := 8) (N := some 69) (v := ?_) (a' := ?_) #[false, true, true, false, true, false, false, false, true, false, false, false, false] rfl rfl (any_of HT_.out (by kernel_rfl)) (fun _ _ _ h => h) (Or.inl ⟨by rfl, ?_⟩) ?_ ?_
                 rotate_left
                 ·
                  intro w'
                  go_simp
                  with_reducible rfl
                 rotate_left
                 ·
                  simp only [Act.put, List.setIfInBounds_toArray, List.set_cons_zero, List.set_cons_succ, i64_w, i32_w]
                  rfl
                 refine take_ (i := 0) (N := some 61) (v := ?_) (a' := ?_) #[true, true, true, false, true, false, false, false, true, false, false, false, false] rfl rfl (take_ofW HT_.out HW_.out (by kernel_rfl)) (fun _ _ _ h => h) (Or.inl ⟨by rfl, ?_⟩) hHeld ?_ ?_
                 rotate_left
                 ·
                  rintro w' ⟨s0, s1, s2, s3, s4, s5, s6, s7, s8, s9, s10, s11, s12, s13⟩
                  go_simp
                  with_reducible rfl
                 rotate_left
                 ·
                  simp only [Act.put, List.setIfInBounds_toArray, List.set_cons_zero, List.set_cons_succ, i64_w, i32_w]
                  rfl
                 refine take_ (i := 3) (N := some 64) (v := ?_) (a' := ?_) #[true, true, true, true, true, false, false, false, true, false, false, false, false] rfl rfl (take_ofW HT_.out HW_.out (by kernel_rfl)) (fun _ _ _ h => h) (Or.inl ⟨by rfl, ?_⟩) hHeld ?_ ?_
                 rotate_left
                 ·
                  rintro w' ⟨s0, s1, s2, s3, s4, s5, s6, s7, s8, s9, s10, s11, s12, s13⟩
                  go_simp
                  with_reducible rfl
                 rotate_left
                 ·
                  simp only [Act.put, List.setIfInBounds_toArray, List.set_cons_zero, List.set_cons_succ, i64_w, i32_w]
                  rfl
                 refine pure_ (i := 5) (N := some 66) (v := ?_) (a' := ?_) #[true, true, true, true, true, true, false, false, true, false, false, false, false] rfl rfl (any_of HT_.out (by kernel_rfl)) (fun _ _ _ h => h) (Or.inl ⟨by rfl, ?_⟩) ?_ ?_
                 rotate_left
                 ·
                  intro w'
                  go_simp
                  with_reducible rfl
                 rotate_left
                 ·
                  simp only [Act.put, List.setIfInBounds_toArray, List.set_cons_zero, List.set_cons_succ, i64_w, i32_w]
                  rfl
                 refine pure_ (i := 6) (N := some 67) (v := ?_) (a' := ?_) #[true, true, true, true, true, true, true, false, true, false, false, false, false] rfl rfl (any_of HT_.out (by kernel_rfl)) (fun _ _ _ h => h) (Or.inl ⟨by rfl, ?_⟩) ?_ ?_
                 rotate_left
                 ·
                  intro w'
                  go_simp
                  with_reducible rfl
                 rotate_left
                 ·
                  simp only [Act.put, List.setIfInBounds_toArray, List.set_cons_zero, List.set_cons_succ, i64_w, i32_w]
                  rfl
                 refine take_ (i := 7) (N := some 68) (v := ?_) (a' := ?_) #[true, true, true, true, true, true, true, true, true, false, false, false, false] rfl rfl (take_ofW HT_.out HW_.out (by kernel_rfl)) (fun _ _ _ h => h) (Or.inl ⟨by rfl, ?_⟩) hHeld ?_ ?_
                 rotate_left
                 ·
                  rintro w' ⟨s0, s1, s2, s3, s4, s5, s6, s7, s8, s9, s10, s11, s12, s13⟩
                  go_simp
                  with_reducible rfl
                 rotate_left
                 ·
                  simp only [Act.put, List.setIfInBounds_toArray, List.set_cons_zero, List.set_cons_succ, i64_w, i32_w]
                  rfl
                 refine pure_ (i := 9) (N := some 70) (v := ?_) (a' := ?_) #[true, true, true, true, true, true, true, true, true, true, false, false, false] rfl rfl (any_of HT_.out (by kernel_rfl)) (fun _ _ _ h => h) (Or.inl ⟨by rfl, ?_⟩) ?_ ?_
                 rotate_left
                 ·
                  intro w'
                  go_simp
                  with_reducible rfl
                 rotate_left
                 ·
                  simp only [Act.put, List.setIfInBounds_toArray, List.set_cons_zero, List.set_cons_succ, i64_w, i32_w]
                  rfl
                 refine take_ (i := 10) (N := some 71) (v := ?_) (a' := ?_) #[true, true, true, true, true, true, true, true, true, true, true, false, false] rfl rfl (take_ofW HT_.out HW_.out (by kernel_rfl)) (fun _ _ _ h => h) (Or.inl ⟨by rfl, ?_⟩) hHeld ?_ ?_
                 rotate_left
                 ·
                  rintro w' ⟨s0, s1, s2, s3, s4, s5, s6, s7, s8, s9, s10, s11, s12, s13⟩
                  go_simp
                  with_reducible rfl
                 rotate_left
                 ·
                  simp only [Act.put, List.setIfInBounds_toArray, List.set_cons_zero, List.set_cons_succ, i64_w, i32_w]
                  rfl
                 refine one_ (i := 11) (N := some 72) #[true, true, true, true, true, true, true, true, true, true, true, true, false] rfl rfl (one_of HT_.out (by kernel_rfl)) (by decide) (fun K hK => ?_)
                 refine goes_ Tryd.func58 (by kernel_rfl) rfl #[.agg #[.slice (some ad387) l0_0.length c0_0], .int .i64 x3_2, .agg #[.int .i64 ((rd_T44 ((rd_T40 ((rd_T30 l0_0 x3_2).f4) x5_3).f0) x6_4).f0), .int .i64 ((rd_T44 ((rd_T40 ((rd_T30 l0_0 x3_2).f4) x5_3).f0) x6_4).f1), .int .i64 ((rd_T44 ((rd_T40 ((rd_T30 l0_0 x3_2).f4) x5_3).f0) x6_4).f2), .int .i64 ((rd_T44 ((rd_T40 ((rd_T30 l0_0 x3_2).f4) x5_3).f0) x6_4).f3), .int .i64 ((rd_T44 ((rd_T40 ((rd_T30 l0_0 x3_2).f4) x5_3).f0) x6_4).f4), .int .i64 ((rd_T44 ((rd_T40 ((rd_T30 l0_0 x3_2).f4) x5_3).f0) x6_4).f5), .slice A392_6 ((rd_T44 ((rd_T40 ((rd_T30 l0_0 x3_2).f4) x5_3).f0) x6_4).f6).length c392_6]] (by rfl) rfl rfl (by (try simp only [List.map_toArray, List.map_cons, List.map_nil]); first | done | rfl) ?_
                 with_reducible refine (portolanref04_Ins.calls k4 _ _ l0_0 x3_2 ((rd_T44 ((rd_T40 ((rd_T30 l0_0 x3_2).f4) x5_3).f0) x6_4).f0) ((rd_T44 ((rd_T40 ((rd_T30 l0_0 x3_2).f4) x5_3).f0) x6_4).f1) ((rd_T44 ((rd_T40 ((rd_T30 l0_0 x3_2).f4) x5_3).f0) x6_4).f2) ((rd_T44 ((rd_T40 ((rd_T30 l0_0 x3_2).f4) x5_3).f0) x6_4).f3) ((rd_T44 ((rd_T40 ((rd_T30 l0_0 x3_2).f4) x5_3).f0) x6_4).f4) ((rd_T44 ((rd_T40 ((rd_T30 l0_0 x3_2).f4) x5_3).f0) x6_4).f5) _ _ ((rd_T44 ((rd_T40 ((rd_T30 l0_0 x3_2).f4) x5_3).f0) x6_4).f6) false _ ?side1 ?side2 ?side3 ?side4 A28.out).mono ?_
                 (case side1 => exact Kd.Cx (Kd.C_below HR0_0.out HB.out))
                 (case side2 => exact HC0_0.out)
                 (case side3 => exact Kd.Cx (Kd.C_below HR392_6.out HB.out))
                 (case side4 => exact HC392_6.out)
                 rintro e w37 ⟨rfl, hb⟩
                 refine ⟨_, rfl, ?_⟩
                 replace BK383 := Aside0.mk (blk_below (bx BK383.out) hb); replace BK388 := Aside0.mk (blk_below (bx BK388.out) hb); replace HB := Aside0.mk (below_step (bl HB) hb)
                 (try clear hb)
                 (try clear hb2)
                 (try clear hk)
                 (try clear hi)
                 refine hK.out _ _ ⟨(blk_cell BK383.out 0).trans rfl, (blk_cell BK388.out 0).trans rfl, (blk_cell BK388.out 1).trans rfl, (blk_cell BK388.out 2).trans rfl, (blk_cell BK388.out 3).trans rfl, (blk_cell BK388.out 4).trans rfl, ((HB.out.cell (World.block_lt_of_cell? w _ hw391_0)).trans hw391_0), ((HB.out.cell (World.block_lt_of_cell? w _ hw392_0)).trans hw392_0), ((HB.out.cell (World.block_lt_of_cell? w _ hw392_1)).trans hw392_1), ((HB.out.cell (World.block_lt_of_cell? w _ hw392_2)).trans hw392_2), ((HB.out.cell (World.block_lt_of_cell? w _ hw392_3)).trans hw392_3), ((HB.out.cell (World.block_lt_of_cell? w _ hw392_4)).trans hw392_4), ((HB.out.cell (World.block_lt_of_cell? w _ hw392_5)).trans hw392_5), ((HB.out.cell (World.block_lt_of_cell? w _ hw392_6)).trans hw392_6)⟩ (fun hHeld => ?_)
                 clear hK K
                 refine norm_ (a' := ?_) ?_ ?_
                 rotate_left
                 ·
                  show Act.put _ (some 72) _ = _
                  simp only [Act.put, List.setIfInBounds_toArray, List.set_cons_zero, List.set_cons_succ, i64_w, i32_w]
                  rfl
                 refine pure_ (i := 12) (N := some 73) (v := ?_) (a' := ?_) #[true, true, true, true, true, true, true, true, true, true, true, true, true] rfl rfl (any_of HT_.out (by kernel_rfl)) (fun _ _ _ h => h) (Or.inl ⟨by rfl, ?_⟩) ?_ ?_
                 rotate_left
                 ·
                  intro w'
                  go_simp
                  with_reducible rfl
                 rotate_left
                 ·
                  simp only [Act.put, List.setIfInBounds_toArray, List.set_cons_zero, List.set_cons_succ, i64_w, i32_w]
                  rfl
                 refine done_ (done_of HT_.out (by kernel_rfl)) ?_
                 try go_wp2
                 go_ret
                 exact ⟨by first | rfl | (simp [errW_none, errW_some] <;> rfl) | (simp [*, errW_none, errW_some] <;> rfl), bl HB⟩
                rw [if_neg c27] at H
                exact absurd H (by simp)
               rw [if_neg c26] at H
               have c26b0 : decide (x6_4 < (((rd_T40 ((rd_T30 l0_0 x3_2).f4) x5_3).f0).length : Int)) = false := decide_eq_false c26
               clear c26
               have H' := Aside0.mk H
               clear H
               have hnb38 := NB388_383.out
               have hnc38 := NB383_388.out
               obtain ⟨hcz39_0, hcz39_1, hcz39_2, hcz39_3, hcz39_4⟩ := bk5 BK388.out
               have hfz39_0 := bf BK388.out
               have p390 : 0 ≤ (x5_3 : Int) := of_decide_eq_true (by assumption)
               have q390 : x5_3 < (((rd_T30 l0_0 x3_2).f4).length : Int) := of_decide_eq_true (by assumption)
               obtain ⟨ad390, A390_0, c390_0, e390, hx390_0, hl390_0, hi390_0⟩ := at_T40 HR387_4.out x5_3 p390 q390
               cases e390
               replace hx390_0 := (HB.out.cell (World.block_lt_of_cell? w _ hx390_0)).trans hx390_0
               have HR390_0 := Aside0.mk hi390_0
               have HC390_0 := Aside0.mk hl390_0
               clear hi390_0 hl390_0
               replace p390 := eq_true p390
               replace q390 := eq_true q390
               go_wp2
               go_roundg k4
               case measure => have := HJ1.out; have := HK2.out; have := HK3.out; have := HK4.out; omega
               case rel => exact ⟨(wrap64 (x5_3 + 1)), (by first | rfl | (simp; done) | (simp [*]; done)), H', ⟨by have := HJ1.out; have := HK2.out; have := HK3.out; have := HK4.out; omega⟩, ⟨bx BK383.out⟩, ⟨bx BK388.out⟩, ⟨bl HB⟩⟩
              rw [if_neg c25] at H
              exact absurd H (by simp)
             rw [if_neg c24] at H
             exact absurd H (by simp)
          rw [if_neg c21] at H
          have c21b0 : decide (x5_3 < (((rd_T30 l0_0 x3_2).f4).length : Int)) = false := decide_eq_false c21
          clear c21
          have H' := Aside0.mk H
          clear H
          have hnb40 := NB388_383.out
          have hnc40 := NB383_388.out
          obtain ⟨hcz41_0, hcz41_1, hcz41_2, hcz41_3, hcz41_4⟩ := bk5 BK388.out
          have hfz41_0 := bf BK388.out
          go_wp2
          go_roundg k3
          case measure => have := HJ1.out; have := HK2.out; have := HK3.out; omega
          case rel => exact ⟨(wrap64 (x3_2 + 1)), (by first | rfl | (simp; done) | (simp [*]; done)), H', ⟨by have := HJ1.out; have := HK2.out; have := HK3.out; omega⟩, ⟨bx BK383.out⟩, ⟨bl HB⟩⟩
       replace c15 := Bool.eq_false_iff.mpr c15
       subst c15
       have H1 : (some 5) = some r := by rw [if_neg (show ¬ (false = true) by decide)] at H; exact H
       clear H
       have H := H1
       clear H1
       obtain rfl := Option.some.inj H
       have hcz42_0 := bk1 BK383.out
       have hfz42_0 := bf BK383.out
       have p387 : 0 ≤ (x3_2 : Int) := of_decide_eq_true (by assumption)
       have q387 : x3_2 < (l0_0.length : Int) := of_decide_eq_true (by assumption)
       obtain ⟨ad387, A387_0, c387_0, A387_1, c387_1, A387_4, c387_4, e387, hx387_0, hx387_1, hx387_2, hx387_3, hx387_4, hl387_0, hi387_0, hl387_1, hi387_1, hl387_4, hi387_4⟩ := at_T30 HR0_0.out x3_2 p387 q387
       cases e387
       replace hx387_0 := (HB.out.cell (World.block_lt_of_cell? w _ hx387_0)).trans hx387_0
       replace hx387_1 := (HB.out.cell (World.block_lt_of_cell? w _ hx387_1)).trans hx387_1
       replace hx387_2 := (HB.out.cell (World.block_lt_of_cell? w _ hx387_2)).trans hx387_2
       replace hx387_3 := (HB.out.cell (World.block_lt_of_cell? w _ hx387_3)).trans hx387_3
       replace hx387_4 := (HB.out.cell (World.block_lt_of_cell? w _ hx387_4)).trans hx387_4
       have HR387_0 := Aside0.mk hi387_0
       have HC387_0 := Aside0.mk hl387_0
       clear hi387_0 hl387_0
       have HR387_1 := Aside0.mk hi387_1
       have HC387_1 := Aside0.mk hl387_1
       clear hi387_1 hl387_1
       have HR387_4 := Aside0.mk hi387_4
       have HC387_4 := Aside0.mk hl387_4
       clear hi387_4 hl387_4
       replace p387 := eq_true p387
       replace q387 := eq_true q387
       go_wp2_with (first | ((with_reducible refine gate_dst (N := 4) rfl ?_); refine box_event ?hg (N := 4) ?hd (cs := #[.slice none 0 0, .slice none 0 0, .int .i64 0, .int .i64 0, .slice none 0 0]) (t := 30) ?hr ?_; (case hd => rfl); (case hg => rfl); (case hr => first | (go_simp; done) | (go_simp; rfl)); intro gb388 hg w43 hbox hb; have BK388 := Aside0.mk (hbox); have GW388 := ge hg (bl HB); have GE388 := ge hg (bl HB); replace HB := Aside0.mk (below_step (bl HB) hb); have NB383_388 := Aside0.mk ((by rw [hg]; exact Nat.ne_of_lt (blk_lt (g := gb383) (o := .cells #[.slice (some ad387) l0_0.length c0_0] 24 (0, 0)) (bx BK383.out)) : gb383 ≠ gb388)); have NB388_383 := Aside0.mk ((by rw [hg]; exact Nat.ne_of_gt (blk_lt (g := gb383) (o := .cells #[.slice (some ad387) l0_0.length c0_0] 24 (0, 0)) (bx BK383.out)) : gb388 ≠ gb383)); replace BK383 := Aside0.mk (blk_below (bx BK383.out) hb); clear hb hbox hg; have hnb44 := NB388_383.out; have hnc44 := NB383_388.out; obtain ⟨hcz45_0, hcz45_1, hcz45_2, hcz45_3, hcz45_4⟩ := bk5 BK388.out; have hfz45_0 := bf BK388.out) | ((with_reducible refine gate_callee (f := 57) rfl ?_); refine goesL_ (some 41) rfl rfl Tryd.func57 (by kernel_rfl) rfl #[.agg #[.slice A387_0 ((rd_T30 l0_0 x3_2).f0).length c387_0, .slice A387_1 ((rd_T30 l0_0 x3_2).f1).length c387_1, .int .i64 ((rd_T30 l0_0 x3_2).f2), .int .i64 ((rd_T30 l0_0 x3_2).f3), .slice A387_4 ((rd_T30 l0_0 x3_2).f4).length c387_4]] rfl (by (try simp only [List.map_toArray, List.map_cons, List.map_nil]); first | done | rfl) ?_; (with_reducible refine (portolanref04_Func.calls k2 _ _ ((rd_T30 l0_0 x3_2).f0) _ _ ((rd_T30 l0_0 x3_2).f1) ((rd_T30 l0_0 x3_2).f2) ((rd_T30 l0_0 x3_2).f3) _ _ ((rd_T30 l0_0 x3_2).f4) false _ ?side1 ?side2 ?side3 ?side4 ?side5 ?side6 A14.out).mono ?_); (case side1 => exact Kd.C_below HR387_0.out (bl HB)); (case side2 => exact HC387_0.out); (case side3 => exact Kd.C_below HR387_1.out (bl HB)); (case side4 => exact HC387_1.out); (case side5 => exact Kd.C_below HR387_4.out (bl HB)); (case side6 => exact HC387_4.out); rintro e w46 ⟨rfl, hb⟩; refine ⟨_, rfl, ?_⟩; replace BK383 := Aside0.mk (blk_below (g := gb383) (o := .cells #[.slice (some ad387) l0_0.length c0_0] 24 (0, 0)) (by refine bp ?_; refine blk_far ?_ NB383_388.out _; refine bp ?_; refine blk_far ?_ NB383_388.out _; refine bp ?_; refine blk_far ?_ NB383_388.out _; refine bp ?_; refine blk_far ?_ NB383_388.out _; refine bp ?_; refine blk_far ?_ NB383_388.out _; refine bp ?_; exact BK383.out) hb); replace BK388 := Aside0.mk (blk_below (g := gb388) (o := .cells #[.slice A387_0 ((rd_T30 l0_0 x3_2).f0).length c387_0, .slice A387_1 ((rd_T30 l0_0 x3_2).f1).length c387_1, .int .i64 ((rd_T30 l0_0 x3_2).f2), .int .i64 ((rd_T30 l0_0 x3_2).f3), .slice A387_4 ((rd_T30 l0_0 x3_2).f4).length c387_4] 30 (0, 0)) (by refine bp ?_; refine blk_put (cs := #[.slice A387_0 ((rd_T30 l0_0 x3_2).f0).length c387_0, .slice A387_1 ((rd_T30 l0_0 x3_2).f1).length c387_1, .int .i64 ((rd_T30 l0_0 x3_2).f2), .int .i64 ((rd_T30 l0_0 x3_2).f3), .slice none 0 0]) ?_ 4 _ rfl; refine bp ?_; refine blk_put (cs := #[.slice A387_0 ((rd_T30 l0_0 x3_2).f0).length c387_0, .slice A387_1 ((rd_T30 l0_0 x3_2).f1).length c387_1, .int .i64 ((rd_T30 l0_0 x3_2).f2), .int .i64 0, .slice none 0 0]) ?_ 3 _ rfl; refine bp ?_; refine blk_put (cs := #[.slice A387_0 ((rd_T30 l0_0 x3_2).f0).length c387_0, .slice A387_1 ((rd_T30 l0_0 x3_2).f1).length c387_1, .int .i64 0, .int .i64 0, .slice none 0 0]) ?_ 2 _ rfl; refine bp ?_; refine blk_put (cs := #[.slice A387_0 ((rd_T30 l0_0 x3_2).f0).length c387_0, .slice none 0 0, .int .i64 0, .int .i64 0, .slice none 0 0]) ?_ 1 _ rfl; refine bp ?_; refine blk_put (cs := #[.slice none 0 0, .slice none 0 0, .int .i64 0, .int .i64 0, .slice none 0 0]) ?_ 0 _ rfl; refine bp ?_; exact BK388.out) hb); replace HB := Aside0.mk (below_step (bl HB) hb); (try clear hb); (try clear hb2); (try clear hk); (try clear hi)))
       go_ret
       exact ⟨by first | rfl | (simp [errW_none, errW_some] <;> rfl) | (simp [*, errW_none, errW_some] <;> rfl), bl HB⟩
      rw [if_neg c13] at H
      exact absurd H (by simp)
     rw [if_neg c12] at H
     have c12b0 : decide (x3_2 < (l0_0.length : Int)) = false := decide_eq_false c12
     clear c12
     obtain rfl := Option.some.inj H
     have hcz47_0 := bk1 BK383.out
     have hfz47_0 := bf BK383.out
     go_wp2
     go_ret
     exact ⟨by first | rfl | (simp [errW_none, errW_some] <;> rfl) | (simp [*, errW_none, errW_some] <;> rfl), bl HB⟩
end Go.Proofs.YtdmimhjmbdkhmaaDoor.X
