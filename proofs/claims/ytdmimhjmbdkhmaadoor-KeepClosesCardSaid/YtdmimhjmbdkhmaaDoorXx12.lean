/- Part of a proof about the Go function named in the last text of this claim. -/
import Derived.Test.YtdmimhjmbdkhmaaDoorZw
import Derived.Test.YtdmimhjmbdkhmaaDoorXx0
import Derived.Test.YtdmimhjmbdkhmaaDoorXx8
import Derived.Test.YtdmimhjmbdkhmaaDoorXx9
import Derived.Test.YtdmimhjmbdkhmaaDoorXx11
set_option linter.unusedVariables false
set_option linter.unusedSimpArgs false
namespace Go.Proofs.YtdmimhjmbdkhmaaDoor.X
open Go.RowKit Go.Proofs.YtdmimhjmbdkhmaaDoorW.PrintWords Go.Proofs.YtdmimhjmbdkhmaaDoorW.PrintLast Go.Proofs.YtdmimhjmbdkhmaaDoorW.PrintMore
attribute [local go_sem] max2_int min2_int max_two min_two max_three min_three max_four min_four
set_option linter.unusedVariables false
set_option linter.unusedSimpArgs false
mutual
def portolanref04_Check.j0 : Nat → Bool → List (S30) → Option (Int)
 | 0, _, _ => none
 | k + 1, x27, x437000 => if x27 = true then (some 5) else (portolanref04_Check.l0 k 0 x437000)
def portolanref04_Check.l0 : Nat → Int → List (S30) → Option (Int)
 | 0, _, _ => none
 | k + 1, x3, x437000 => if x3 < (x437000.length : Int) then (if 0 ≤ x3 then ((portolanref04_Func.f k ((rd_T30 x437000 x3).f0) ((rd_T30 x437000 x3).f1) ((rd_T30 x437000 x3).f2) ((rd_T30 x437000 x3).f3) ((rd_T30 x437000 x3).f4)).bind fun t442 => (if t442 = true then (portolanref04_Check.l1 k x3 0 x437000 ((rd_T30 x437000 x3).f0) ((rd_T30 x437000 x3).f1) ((rd_T30 x437000 x3).f2) ((rd_T30 x437000 x3).f3) ((rd_T30 x437000 x3).f4)) else (some 5))) else (none)) else (some 0)
def portolanref04_Check.l1 : Nat → Int → Int → List (S30) → List Int → List Int → Int → Int → List (S40) → Option (Int)
 | 0, _, _, _, _, _, _, _, _ => none
 | k + 1, x3, x5, x437000, x442000, x442001, x442002, x442003, x442004 => if x5 < (x442004.length : Int) then (portolanref04_Check.l2 k x3 x5 0 x437000 x442000 x442001 x442002 x442003 x442004) else (portolanref04_Check.l0 k (wrap64 (x3 + 1)) x437000)
def portolanref04_Check.l2 : Nat → Int → Int → Int → List (S30) → List Int → List Int → Int → Int → List (S40) → Option (Int)
 | 0, _, _, _, _, _, _, _, _, _ => none
 | k + 1, x3, x5, x6, x437000, x442000, x442001, x442002, x442003, x442004 => if 0 ≤ x5 then (if x5 < (x442004.length : Int) then (if x6 < (((rd_T40 x442004 x5).f0).length : Int) then (if 0 ≤ x6 then ((portolanref04_Ins.f k x437000 x3 ((rd_T44 ((rd_T40 x442004 x5).f0) x6).f0) ((rd_T44 ((rd_T40 x442004 x5).f0) x6).f1) ((rd_T44 ((rd_T40 x442004 x5).f0) x6).f2) ((rd_T44 ((rd_T40 x442004 x5).f0) x6).f3) ((rd_T44 ((rd_T40 x442004 x5).f0) x6).f4) ((rd_T44 ((rd_T40 x442004 x5).f0) x6).f5) ((rd_T44 ((rd_T40 x442004 x5).f0) x6).f6)).bind fun t446 => (if t446 = true then (portolanref04_Check.l2 k x3 x5 (wrap64 (x6 + 1)) x437000 x442000 x442001 x442002 x442003 x442004) else (some 5))) else (none)) else (portolanref04_Check.l1 k x3 (wrap64 (x5 + 1)) x437000 x442000 x442001 x442002 x442003 x442004)) else (none)) else (none)
end
def portolanref04_Check.f (k : Nat) (l0_0 : List (S30)) : Option (Int) := (portolanref04_within.f (l0_0.length : Int) 1 8).bind fun t437 => (if t437 = true then (if 0 < (l0_0.length : Int) then (if ((rd_T30 l0_0 0).f2) = 0 then (portolanref04_Check.j0 k (((rd_T30 l0_0 0).f3) != 0) l0_0) else (portolanref04_Check.j0 k true l0_0)) else (none)) else (portolanref04_Check.j0 k true l0_0))
def portolanref04_Check.T15 : Bool × List (List Nat × List Nat) := (true, [([], []), ([], []), ([], []), ([2], [2]), ([], []), ([3, 4], [3, 4]), ([5], [5]), ([6], [6]), ([], []), ([7, 8], [7, 8]), ([9], [9]), ([0, 1, 10], [0, 1, 10]), ([11], [11])])
def portolanref04_Check.B15 : List Nat := [0, 0, 0, 4, 0, 28, 60, 124, 0, 508, 1020, 2047, 4095]
theorem portolanref04_Check.tab15 : rtab .any (opsOf Tryd.f35 15) = portolanref04_Check.T15 := by kernel_rfl
theorem portolanref04_Check.bits15 : waitsOk portolanref04_Check.T15.2 portolanref04_Check.B15 = true := by kernel_rfl
set_option maxHeartbeats 8000000 in
set_option maxRecDepth 100000 in
theorem portolanref04_Check.calls (k : Nat) (A0_0 : Option Addr) (c0_0 : Nat) (l0_0 : List (S30)) (r : Int) (w : World) (hr0_0 : Kd.C k30 w A0_0 l0_0.length l0_0) (hc0_0 : l0_0.length ≤ c0_0) (h : portolanref04_Check.f k l0_0 = some r) :
 Calls Tryd.prog 35 #[.agg #[.slice A0_0 l0_0.length c0_0]] w fun e w' => e = .returned (.int .i64 r) ∧ Below w.heap.size w w' := by
 have hu24 := Tryd.underlying24
 have hu30 := Tryd.underlying30
 have hu44 := Tryd.underlying44
 have HR0_0 := Aside0.mk hr0_0
 have HC0_0 := Aside0.mk hc0_0
 clear hr0_0 hc0_0
 have HB := Aside0.mk (Below.refl w.heap.size w)
 have H : ((portolanref04_within.f (l0_0.length : Int) 1 8).bind fun t437 => (if t437 = true then (if 0 < (l0_0.length : Int) then (if ((rd_T30 l0_0 0).f2) = 0 then (portolanref04_Check.j0 k (((rd_T30 l0_0 0).f3) != 0) l0_0) else (portolanref04_Check.j0 k true l0_0)) else (none)) else (portolanref04_Check.j0 k true l0_0))) = some r := h
 clear h
 have HC2 := Aside0.mk H
 clear H
 go_enter Tryd.func35, Tryd.ntmps35
 go_upto_region 1 with (first | ((with_reducible refine gate_dst (N := 1) rfl ?_); refine box_event ?hg (N := 1) ?hd (cs := #[.slice A0_0 l0_0.length c0_0]) (t := 24) ?hr ?_; (case hd => rfl); (case hg => rfl); (case hr => first | (go_simp; done) | (go_simp; rfl)); intro gb436 hg w3 hbox hb; have BK436 := Aside0.mk (hbox); have GW436 := ge hg (bl HB); have GE436 := ge hg (bl HB); replace HB := Aside0.mk (below_step (bl HB) hb); clear hb hbox hg))
 (try simp only [Act.put, List.setIfInBounds_toArray, List.set_cons_zero, List.set_cons_succ])
 go_cut [27] (fun v27 wc => ∃ (kq : Nat) (x27_1 : Bool), v27 = .bool x27_1 ∧ Aside0 (portolanref04_Check.j0 kq x27_1 l0_0 = some r) ∧ Aside0 (kq ≤ k) ∧ Aside0 (wc.heap[gb436]? = some (.cells #[(.slice A0_0 l0_0.length c0_0)] 24 (0, 0))) ∧ Aside0 (Below w.heap.size w wc))
 case first =>
  have H := HC2.out
  clear HC2
  replace H := Option.bind_eq_some_iff.mp H
  obtain ⟨t437, A40, H⟩ := H
  replace H : (if t437 = true then (if 0 < (l0_0.length : Int) then (if ((rd_T30 l0_0 0).f2) = 0 then (portolanref04_Check.j0 k (((rd_T30 l0_0 0).f3) != 0) l0_0) else (portolanref04_Check.j0 k true l0_0)) else (none)) else (portolanref04_Check.j0 k true l0_0)) = some r := H
  have A4 := Aside0.mk A40
  clear A40
  by_cases c5 : t437 = true
  ·
   subst c5
   have H1 : (if 0 < (l0_0.length : Int) then (if ((rd_T30 l0_0 0).f2) = 0 then (portolanref04_Check.j0 k (((rd_T30 l0_0 0).f3) != 0) l0_0) else (portolanref04_Check.j0 k true l0_0)) else (none)) = some r := by rw [if_pos rfl] at H; exact H
   clear H
   have H := H1
   clear H1
   by_cases c6 : 0 < (l0_0.length : Int)
   ·
    rw [if_pos c6] at H
    have c6b0 : decide (0 < (l0_0.length : Int)) = true := decide_eq_true c6
    have c6b1 : decide (0 < l0_0.length) = true := decide_eq_true (by omega)
    clear c6
    (first | rw [c6b0] | (simp only [i64_w, i32_w]; rw [c6b0]) | skip)
    by_cases c7 : ((rd_T30 l0_0 0).f2) = 0
    ·
     rw [if_pos c7] at H
     have c7b0 : (((rd_T30 l0_0 0).f2) == 0) = true := beq_iff_eq.mpr c7
     have c7b1 : (((rd_T30 l0_0 0).f2) != 0) = false := bne_eq_false_iff_eq.mpr c7
     clear c7
     have H' := Aside0.mk H
     clear H
     have hcz8_0 := bk1 BK436.out
     have hfz8_0 := bf BK436.out
     go_wp2_with (first | ((with_reducible refine gate_callee (f := 56) rfl ?_); refine goesL_ (some 10) rfl rfl Tryd.func56 (by kernel_rfl) rfl #[.int .i64 (l0_0.length : Int), .int .i64 1, .int .i64 8] rfl (by (try simp only [List.map_toArray, List.map_cons, List.map_nil]); first | done | rfl) ?_; (with_reducible refine (portolanref04_within.calls (l0_0.length : Int) 1 8 true _ A4.out).mono ?_); rintro e w' ⟨rfl, ⟨nd, rfl⟩⟩; refine ⟨_, rfl, ?_⟩; have p438 : 0 ≤ (0 : Int) := (by omega); have q438 : 0 < (l0_0.length : Int) := of_decide_eq_true (by assumption); obtain ⟨ad438, A438_0, c438_0, A438_1, c438_1, A438_4, c438_4, e438, hx438_0, hx438_1, hx438_2, hx438_3, hx438_4, hl438_0, hi438_0, hl438_1, hi438_1, hl438_4, hi438_4⟩ := at_T30 HR0_0.out 0 p438 q438; cases e438; have qi438 : (0 < l0_0.length) = True := eq_true (by omega); (try rw [show ((0 : Int)).toNat = 0 from rfl] at hx438_0); (try rw [show 0 * 5 = 0 from rfl] at hx438_0); (try rw [Addr.add_zero'] at hx438_0); (try rw [show ((0 : Int)).toNat = 0 from rfl] at hx438_1); (try rw [show 0 * 5 = 0 from rfl] at hx438_1); (try rw [Addr.add_zero'] at hx438_1); (try rw [show ((0 : Int)).toNat = 0 from rfl] at hx438_2); (try rw [show 0 * 5 = 0 from rfl] at hx438_2); (try rw [Addr.add_zero'] at hx438_2); (try rw [show ((0 : Int)).toNat = 0 from rfl] at hx438_3); (try rw [show 0 * 5 = 0 from rfl] at hx438_3); (try rw [Addr.add_zero'] at hx438_3); (try rw [show ((0 : Int)).toNat = 0 from rfl] at hx438_4); (try rw [show 0 * 5 = 0 from rfl] at hx438_4); (try rw [Addr.add_zero'] at hx438_4); replace hx438_0 := (HB.out.cell (World.block_lt_of_cell? w _ hx438_0)).trans hx438_0; replace hx438_1 := (HB.out.cell (World.block_lt_of_cell? w _ hx438_1)).trans hx438_1; replace hx438_2 := (HB.out.cell (World.block_lt_of_cell? w _ hx438_2)).trans hx438_2; replace hx438_3 := (HB.out.cell (World.block_lt_of_cell? w _ hx438_3)).trans hx438_3; replace hx438_4 := (HB.out.cell (World.block_lt_of_cell? w _ hx438_4)).trans hx438_4; have HR438_0 := Aside0.mk hi438_0; have HC438_0 := Aside0.mk hl438_0; clear hi438_0 hl438_0; have HR438_1 := Aside0.mk hi438_1; have HC438_1 := Aside0.mk hl438_1; clear hi438_1 hl438_1; have HR438_4 := Aside0.mk hi438_4; have HC438_4 := Aside0.mk hl438_4; clear hi438_4 hl438_4; replace p438 := eq_true p438; replace q438 := eq_true q438; have p439 : 0 ≤ (0 : Int) := (by omega); have q439 : 0 < (l0_0.length : Int) := of_decide_eq_true (by assumption); obtain ⟨ad439, A439_0, c439_0, A439_1, c439_1, A439_4, c439_4, e439, hx439_0, hx439_1, hx439_2, hx439_3, hx439_4, hl439_0, hi439_0, hl439_1, hi439_1, hl439_4, hi439_4⟩ := at_T30 HR0_0.out 0 p439 q439; obtain rfl : ad438 = ad439 := (by injection e439); have qi439 : (0 < l0_0.length) = True := eq_true (by omega); (try rw [show ((0 : Int)).toNat = 0 from rfl] at hx439_0); (try rw [show 0 * 5 = 0 from rfl] at hx439_0); (try rw [Addr.add_zero'] at hx439_0); (try rw [show ((0 : Int)).toNat = 0 from rfl] at hx439_1); (try rw [show 0 * 5 = 0 from rfl] at hx439_1); (try rw [Addr.add_zero'] at hx439_1); (try rw [show ((0 : Int)).toNat = 0 from rfl] at hx439_2); (try rw [show 0 * 5 = 0 from rfl] at hx439_2); (try rw [Addr.add_zero'] at hx439_2); (try rw [show ((0 : Int)).toNat = 0 from rfl] at hx439_3); (try rw [show 0 * 5 = 0 from rfl] at hx439_3); (try rw [Addr.add_zero'] at hx439_3); (try rw [show ((0 : Int)).toNat = 0 from rfl] at hx439_4); (try rw [show 0 * 5 = 0 from rfl] at hx439_4); (try rw [Addr.add_zero'] at hx439_4); replace hx439_0 := (HB.out.cell (World.block_lt_of_cell? w _ hx439_0)).trans hx439_0; replace hx439_1 := (HB.out.cell (World.block_lt_of_cell? w _ hx439_1)).trans hx439_1; replace hx439_2 := (HB.out.cell (World.block_lt_of_cell? w _ hx439_2)).trans hx439_2; replace hx439_3 := (HB.out.cell (World.block_lt_of_cell? w _ hx439_3)).trans hx439_3; replace hx439_4 := (HB.out.cell (World.block_lt_of_cell? w _ hx439_4)).trans hx439_4; have HR439_0 := Aside0.mk hi439_0; have HC439_0 := Aside0.mk hl439_0; clear hi439_0 hl439_0; have HR439_1 := Aside0.mk hi439_1; have HC439_1 := Aside0.mk hl439_1; clear hi439_1 hl439_1; have HR439_4 := Aside0.mk hi439_4; have HC439_4 := Aside0.mk hl439_4; clear hi439_4 hl439_4; replace p439 := eq_true p439; replace q439 := eq_true q439; have ea_ := Option.some.inj (hx438_0.symm.trans hx439_0); injection ea_ with ea_ en_ ec_; subst ea_; subst ec_; clear en_; have ea_ := Option.some.inj (hx438_1.symm.trans hx439_1); injection ea_ with ea_ en_ ec_; subst ea_; subst ec_; clear en_; have ea_ := Option.some.inj (hx438_4.symm.trans hx439_4); injection ea_ with ea_ en_ ec_; subst ea_; subst ec_; clear en_))
     go_meet
     case rel => exact ⟨_, ((((rd_T30 l0_0 0).f3) != 0)), (by first | rfl | (simp; done) | (simp [*]; done)), H', ⟨by first | omega | exact Nat.le_refl _⟩, ⟨bx BK436.out⟩, ⟨bl HB⟩⟩
    rw [if_neg c7] at H
    have c7b0 : (((rd_T30 l0_0 0).f2) == 0) = false := beq_eq_false_iff_ne.mpr c7
    have c7b1 : (((rd_T30 l0_0 0).f2) != 0) = true := bne_iff_ne.mpr c7
    have H' := Aside0.mk H
    clear H
    have hcz9_0 := bk1 BK436.out
    have hfz9_0 := bf BK436.out
    go_wp2_with (first | ((with_reducible refine gate_callee (f := 56) rfl ?_); refine goesL_ (some 10) rfl rfl Tryd.func56 (by kernel_rfl) rfl #[.int .i64 (l0_0.length : Int), .int .i64 1, .int .i64 8] rfl (by (try simp only [List.map_toArray, List.map_cons, List.map_nil]); first | done | rfl) ?_; (with_reducible refine (portolanref04_within.calls (l0_0.length : Int) 1 8 true _ A4.out).mono ?_); rintro e w' ⟨rfl, ⟨nd, rfl⟩⟩; refine ⟨_, rfl, ?_⟩; have p438 : 0 ≤ (0 : Int) := (by omega); have q438 : 0 < (l0_0.length : Int) := of_decide_eq_true (by assumption); obtain ⟨ad438, A438_0, c438_0, A438_1, c438_1, A438_4, c438_4, e438, hx438_0, hx438_1, hx438_2, hx438_3, hx438_4, hl438_0, hi438_0, hl438_1, hi438_1, hl438_4, hi438_4⟩ := at_T30 HR0_0.out 0 p438 q438; cases e438; have qi438 : (0 < l0_0.length) = True := eq_true (by omega); (try rw [show ((0 : Int)).toNat = 0 from rfl] at hx438_0); (try rw [show 0 * 5 = 0 from rfl] at hx438_0); (try rw [Addr.add_zero'] at hx438_0); (try rw [show ((0 : Int)).toNat = 0 from rfl] at hx438_1); (try rw [show 0 * 5 = 0 from rfl] at hx438_1); (try rw [Addr.add_zero'] at hx438_1); (try rw [show ((0 : Int)).toNat = 0 from rfl] at hx438_2); (try rw [show 0 * 5 = 0 from rfl] at hx438_2); (try rw [Addr.add_zero'] at hx438_2); (try rw [show ((0 : Int)).toNat = 0 from rfl] at hx438_3); (try rw [show 0 * 5 = 0 from rfl] at hx438_3); (try rw [Addr.add_zero'] at hx438_3); (try rw [show ((0 : Int)).toNat = 0 from rfl] at hx438_4); (try rw [show 0 * 5 = 0 from rfl] at hx438_4); (try rw [Addr.add_zero'] at hx438_4); replace hx438_0 := (HB.out.cell (World.block_lt_of_cell? w _ hx438_0)).trans hx438_0; replace hx438_1 := (HB.out.cell (World.block_lt_of_cell? w _ hx438_1)).trans hx438_1; replace hx438_2 := (HB.out.cell (World.block_lt_of_cell? w _ hx438_2)).trans hx438_2; replace hx438_3 := (HB.out.cell (World.block_lt_of_cell? w _ hx438_3)).trans hx438_3; replace hx438_4 := (HB.out.cell (World.block_lt_of_cell? w _ hx438_4)).trans hx438_4; have HR438_0 := Aside0.mk hi438_0; have HC438_0 := Aside0.mk hl438_0; clear hi438_0 hl438_0; have HR438_1 := Aside0.mk hi438_1; have HC438_1 := Aside0.mk hl438_1; clear hi438_1 hl438_1; have HR438_4 := Aside0.mk hi438_4; have HC438_4 := Aside0.mk hl438_4; clear hi438_4 hl438_4; replace p438 := eq_true p438; replace q438 := eq_true q438))
    go_meet
    case rel => exact ⟨_, (true), (by first | rfl | (simp; done) | (simp [*]; done)), H', ⟨by first | omega | exact Nat.le_refl _⟩, ⟨bx BK436.out⟩, ⟨bl HB⟩⟩
   rw [if_neg c6] at H
   exact absurd H (by simp)
  replace c5 := Bool.eq_false_iff.mpr c5
  subst c5
  have H1 : (portolanref04_Check.j0 k true l0_0) = some r := by rw [if_neg (show ¬ (false = true) by decide)] at H; exact H
  clear H
  have H := H1
  clear H1
  have H' := Aside0.mk H
  clear H
  have hcz10_0 := bk1 BK436.out
  have hfz10_0 := bf BK436.out
  go_wp2_with (first | ((with_reducible refine gate_callee (f := 56) rfl ?_); refine goesL_ (some 10) rfl rfl Tryd.func56 (by kernel_rfl) rfl #[.int .i64 (l0_0.length : Int), .int .i64 1, .int .i64 8] rfl (by (try simp only [List.map_toArray, List.map_cons, List.map_nil]); first | done | rfl) ?_; (with_reducible refine (portolanref04_within.calls (l0_0.length : Int) 1 8 false _ A4.out).mono ?_); rintro e w' ⟨rfl, ⟨nd, rfl⟩⟩; refine ⟨_, rfl, ?_⟩))
  go_meet
  case rel => exact ⟨_, (true), (by first | rfl | (simp; done) | (simp [*]; done)), H', ⟨by first | omega | exact Nat.le_refl _⟩, ⟨bx BK436.out⟩, ⟨bl HB⟩⟩
 case rest =>
  clear HC2
  try clear p2
  try clear c3
  try clear c4
  try clear p4
  try clear q4
  try clear hx4
  try clear qi4
  try clear c5
  try clear c6
  try clear c6b0
  try clear c6b1
  try clear c7
  try clear c7b0
  try clear c7b1
  try clear hcz10_0
  try clear hcz8_0
  try clear hcz9_0
  try clear hfz10_0
  try clear hfz8_0
  try clear hfz9_0
  try clear hx438_0
  try clear hx438_1
  try clear hx438_2
  try clear hx438_3
  try clear hx438_4
  try clear hx439_0
  try clear hx439_1
  try clear hx439_2
  try clear hx439_3
  try clear hx439_4
  try clear p438
  try clear p439
  try clear q438
  try clear q439
  obtain ⟨kq, x27_1, rfl, HA, HJ1, BK436, HB⟩ := hcut
  cases kq with
  | zero => exact absurd HA.out (by simp [portolanref04_Check.j0])
  | succ kj1 =>
   have H := HA.out
   clear HA
   simp only [portolanref04_Check.j0] at H
   by_cases c11 : x27_1 = true
   ·
    subst c11
    have H1 : (some 5) = some r := by rw [if_pos rfl] at H; exact H
    clear H
    have H := H1
    clear H1
    obtain rfl := Option.some.inj H
    go_wp2
    go_ret
    exact ⟨by first | rfl | (simp [errW_none, errW_some] <;> rfl) | (simp [*, errW_none, errW_some] <;> rfl), bl HB⟩
   replace c11 := Bool.eq_false_iff.mpr c11
   subst c11
   have H1 : (portolanref04_Check.l0 kj1 0 l0_0) = some r := by rw [if_neg (show ¬ (false = true) by decide)] at H; exact H
   clear H
   have H := H1
   clear H1
   have H' := Aside0.mk H
   clear H
   go_wp2
   go_loopg [3] kj1 (fun kq v3 w' => ∃ (x3_2 : Int), v3 = .int .i64 x3_2 ∧ Aside0 (portolanref04_Check.l0 kq x3_2 l0_0 = some r) ∧ Aside0 (kq ≤ kj1) ∧ Aside0 (w'.heap[gb436]? = some (.cells #[(.slice A0_0 l0_0.length c0_0)] 24 (0, 0))) ∧ Aside0 (Below w.heap.size w w'))
   case atStart => exact ⟨(0), (by first | rfl | (simp; done) | (simp [*]; done)), H', ⟨Nat.le_refl _⟩, ⟨bx BK436.out⟩, ⟨bl HB⟩⟩
   case round =>
    clear H'
    try clear c1
    try clear p2
    try clear c3
    try clear c4
    try clear p4
    try clear q4
    try clear hx4
    try clear qi4
    try clear c5
    try clear c6
    try clear c6b0
    try clear c6b1
    try clear c7
    try clear c7b0
    try clear c7b1
    try clear c11
    try clear hcz10_0
    try clear hcz8_0
    try clear hcz9_0
    try clear hfz10_0
    try clear hfz8_0
    try clear hfz9_0
    try clear hx438_0
    try clear hx438_1
    try clear hx438_2
    try clear hx438_3
    try clear hx438_4
    try clear hx439_0
    try clear hx439_1
    try clear hx439_2
    try clear hx439_3
    try clear hx439_4
    try clear p2
    try clear p4
    try clear p438
    try clear p439
    try clear q4
    try clear q438
    try clear q439
    obtain ⟨x3_2, rfl, HA, HK2, BK436, HB⟩ := hrel
    cases gk with
    | zero => exact absurd HA.out (by simp [portolanref04_Check.l0])
    | succ k2 =>
     have H := HA.out
     clear HA
     simp only [portolanref04_Check.l0] at H
     by_cases c12 : x3_2 < (l0_0.length : Int)
     ·
      rw [if_pos c12] at H
      have c12b0 : decide (x3_2 < (l0_0.length : Int)) = true := decide_eq_true c12
      clear c12
      by_cases c13 : 0 ≤ x3_2
      ·
       rw [if_pos c13] at H
       have c13b0 : decide (0 ≤ x3_2) = true := decide_eq_true c13
       clear c13
       replace H := Option.bind_eq_some_iff.mp H
       obtain ⟨t442, A140, H⟩ := H
       replace H : (if t442 = true then (portolanref04_Check.l1 k2 x3_2 0 l0_0 ((rd_T30 l0_0 x3_2).f0) ((rd_T30 l0_0 x3_2).f1) ((rd_T30 l0_0 x3_2).f2) ((rd_T30 l0_0 x3_2).f3) ((rd_T30 l0_0 x3_2).f4)) else (some 5)) = some r := H
       have A14 := Aside0.mk A140
       clear A140
       by_cases c15 : t442 = true
       ·
        subst c15
        have H1 : (portolanref04_Check.l1 k2 x3_2 0 l0_0 ((rd_T30 l0_0 x3_2).f0) ((rd_T30 l0_0 x3_2).f1) ((rd_T30 l0_0 x3_2).f2) ((rd_T30 l0_0 x3_2).f3) ((rd_T30 l0_0 x3_2).f4)) = some r := by rw [if_pos rfl] at H; exact H
        clear H
        have H := H1
        clear H1
        have H' := Aside0.mk H
        clear H
        have hcz16_0 := bk1 BK436.out
        have hfz16_0 := bf BK436.out
        have p440 : 0 ≤ (x3_2 : Int) := of_decide_eq_true (by assumption)
        have q440 : x3_2 < (l0_0.length : Int) := of_decide_eq_true (by assumption)
        obtain ⟨ad440, A440_0, c440_0, A440_1, c440_1, A440_4, c440_4, e440, hx440_0, hx440_1, hx440_2, hx440_3, hx440_4, hl440_0, hi440_0, hl440_1, hi440_1, hl440_4, hi440_4⟩ := at_T30 HR0_0.out x3_2 p440 q440
        cases e440
        replace hx440_0 := (HB.out.cell (World.block_lt_of_cell? w _ hx440_0)).trans hx440_0
        replace hx440_1 := (HB.out.cell (World.block_lt_of_cell? w _ hx440_1)).trans hx440_1
        replace hx440_2 := (HB.out.cell (World.block_lt_of_cell? w _ hx440_2)).trans hx440_2
        replace hx440_3 := (HB.out.cell (World.block_lt_of_cell? w _ hx440_3)).trans hx440_3
        replace hx440_4 := (HB.out.cell (World.block_lt_of_cell? w _ hx440_4)).trans hx440_4
        have HR440_0 := Aside0.mk hi440_0
        have HC440_0 := Aside0.mk hl440_0
        clear hi440_0 hl440_0
        have HR440_1 := Aside0.mk hi440_1
        have HC440_1 := Aside0.mk hl440_1
        clear hi440_1 hl440_1
        have HR440_4 := Aside0.mk hi440_4
        have HC440_4 := Aside0.mk hl440_4
        clear hi440_4 hl440_4
        replace p440 := eq_true p440
        replace q440 := eq_true q440
        go_wp2_with (first | ((with_reducible refine gate_dst (N := 4) rfl ?_); refine box_event ?hg (N := 4) ?hd (cs := #[.slice none 0 0, .slice none 0 0, .int .i64 0, .int .i64 0, .slice none 0 0]) (t := 30) ?hr ?_; (case hd => rfl); (case hg => rfl); (case hr => first | (go_simp; done) | (go_simp; rfl)); intro gb441 hg w17 hbox hb; have BK441 := Aside0.mk (hbox); have GW441 := ge hg (bl HB); have GE441 := ge hg (bl HB); replace HB := Aside0.mk (below_step (bl HB) hb); have NB436_441 := Aside0.mk ((by rw [hg]; exact Nat.ne_of_lt (blk_lt (g := gb436) (o := .cells #[.slice (some ad440) l0_0.length c0_0] 24 (0, 0)) (bx BK436.out)) : gb436 ≠ gb441)); have NB441_436 := Aside0.mk ((by rw [hg]; exact Nat.ne_of_gt (blk_lt (g := gb436) (o := .cells #[.slice (some ad440) l0_0.length c0_0] 24 (0, 0)) (bx BK436.out)) : gb441 ≠ gb436)); replace BK436 := Aside0.mk (blk_below (bx BK436.out) hb); clear hb hbox hg; have hnb18 := NB441_436.out; have hnc18 := NB436_441.out; obtain ⟨hcz19_0, hcz19_1, hcz19_2, hcz19_3, hcz19_4⟩ := bk5 BK441.out; have hfz19_0 := bf BK441.out) | ((with_reducible refine gate_callee (f := 57) rfl ?_); refine goesL_ (some 41) rfl rfl Tryd.func57 (by kernel_rfl) rfl #[.agg #[.slice A440_0 ((rd_T30 l0_0 x3_2).f0).length c440_0, .slice A440_1 ((rd_T30 l0_0 x3_2).f1).length c440_1, .int .i64 ((rd_T30 l0_0 x3_2).f2), .int .i64 ((rd_T30 l0_0 x3_2).f3), .slice A440_4 ((rd_T30 l0_0 x3_2).f4).length c440_4]] rfl (by (try simp only [List.map_toArray, List.map_cons, List.map_nil]); first | done | rfl) ?_; (with_reducible refine (portolanref04_Func.calls k2 _ _ ((rd_T30 l0_0 x3_2).f0) _ _ ((rd_T30 l0_0 x3_2).f1) ((rd_T30 l0_0 x3_2).f2) ((rd_T30 l0_0 x3_2).f3) _ _ ((rd_T30 l0_0 x3_2).f4) true _ ?side1 ?side2 ?side3 ?side4 ?side5 ?side6 A14.out).mono ?_); (case side1 => exact Kd.C_below HR440_0.out (bl HB)); (case side2 => exact HC440_0.out); (case side3 => exact Kd.C_below HR440_1.out (bl HB)); (case side4 => exact HC440_1.out); (case side5 => exact Kd.C_below HR440_4.out (bl HB)); (case side6 => exact HC440_4.out); rintro e w20 ⟨rfl, hb⟩; refine ⟨_, rfl, ?_⟩; replace BK436 := Aside0.mk (blk_below (g := gb436) (o := .cells #[.slice (some ad440) l0_0.length c0_0] 24 (0, 0)) (by refine bp ?_; refine blk_far ?_ NB436_441.out _; refine bp ?_; refine blk_far ?_ NB436_441.out _; refine bp ?_; refine blk_far ?_ NB436_441.out _; refine bp ?_; refine blk_far ?_ NB436_441.out _; refine bp ?_; refine blk_far ?_ NB436_441.out _; refine bp ?_; exact BK436.out) hb); replace BK441 := Aside0.mk (blk_below (g := gb441) (o := .cells #[.slice A440_0 ((rd_T30 l0_0 x3_2).f0).length c440_0, .slice A440_1 ((rd_T30 l0_0 x3_2).f1).length c440_1, .int .i64 ((rd_T30 l0_0 x3_2).f2), .int .i64 ((rd_T30 l0_0 x3_2).f3), .slice A440_4 ((rd_T30 l0_0 x3_2).f4).length c440_4] 30 (0, 0)) (by refine bp ?_; refine blk_put (cs := #[.slice A440_0 ((rd_T30 l0_0 x3_2).f0).length c440_0, .slice A440_1 ((rd_T30 l0_0 x3_2).f1).length c440_1, .int .i64 ((rd_T30 l0_0 x3_2).f2), .int .i64 ((rd_T30 l0_0 x3_2).f3), .slice none 0 0]) ?_ 4 _ rfl; refine bp ?_; refine blk_put (cs := #[.slice A440_0 ((rd_T30 l0_0 x3_2).f0).length c440_0, .slice A440_1 ((rd_T30 l0_0 x3_2).f1).length c440_1, .int .i64 ((rd_T30 l0_0 x3_2).f2), .int .i64 0, .slice none 0 0]) ?_ 3 _ rfl; refine bp ?_; refine blk_put (cs := #[.slice A440_0 ((rd_T30 l0_0 x3_2).f0).length c440_0, .slice A440_1 ((rd_T30 l0_0 x3_2).f1).length c440_1, .int .i64 0, .int .i64 0, .slice none 0 0]) ?_ 2 _ rfl; refine bp ?_; refine blk_put (cs := #[.slice A440_0 ((rd_T30 l0_0 x3_2).f0).length c440_0, .slice none 0 0, .int .i64 0, .int .i64 0, .slice none 0 0]) ?_ 1 _ rfl; refine bp ?_; refine blk_put (cs := #[.slice none 0 0, .slice none 0 0, .int .i64 0, .int .i64 0, .slice none 0 0]) ?_ 0 _ rfl; refine bp ?_; exact BK441.out) hb); replace HB := Aside0.mk (below_step (bl HB) hb); (try clear hb); (try clear hb2); (try clear hk); (try clear hi)))
        go_loopg [5] k2 (fun kq v5 w' => ∃ (x5_3 : Int), v5 = .int .i64 x5_3 ∧ Aside0 (portolanref04_Check.l1 kq x3_2 x5_3 l0_0 ((rd_T30 l0_0 x3_2).f0) ((rd_T30 l0_0 x3_2).f1) ((rd_T30 l0_0 x3_2).f2) ((rd_T30 l0_0 x3_2).f3) ((rd_T30 l0_0 x3_2).f4) = some r) ∧ Aside0 (kq ≤ k2) ∧ Aside0 (w'.heap[gb436]? = some (.cells #[(.slice (some ad440) l0_0.length c0_0)] 24 (0, 0))) ∧ Aside0 (w'.heap[gb441]? = some (.cells #[(.slice A440_0 ((rd_T30 l0_0 x3_2).f0).length c440_0), (.slice A440_1 ((rd_T30 l0_0 x3_2).f1).length c440_1), .int .i64 ((rd_T30 l0_0 x3_2).f2), .int .i64 ((rd_T30 l0_0 x3_2).f3), (.slice A440_4 ((rd_T30 l0_0 x3_2).f4).length c440_4)] 30 (0, 0))) ∧ Aside0 (Below w.heap.size w w'))
        case atStart => exact ⟨(0), (by first | rfl | (simp; done) | (simp [*]; done)), H', ⟨Nat.le_refl _⟩, ⟨bx BK436.out⟩, ⟨bx BK441.out⟩, ⟨bl HB⟩⟩
        case round =>
         clear H'
         try clear c1
         try clear p2
         try clear c3
         try clear c4
         try clear p4
         try clear q4
         try clear hx4
         try clear qi4
         try clear c5
         try clear c6
         try clear c6b0
         try clear c6b1
         try clear c7
         try clear c7b0
         try clear c7b1
         try clear c11
         try clear c12
         try clear c12b0
         try clear c13
         try clear c13b0
         try clear c15
         try clear c18
         try clear hcz10_0
         try clear hcz16_0
         try clear hcz19_0 hcz19_1 hcz19_2 hcz19_3 hcz19_4
         try clear hcz8_0
         try clear hcz9_0
         try clear hfz10_0
         try clear hfz16_0
         try clear hfz19_0
         try clear hfz8_0
         try clear hfz9_0
         try clear hx438_0
         try clear hx438_1
         try clear hx438_2
         try clear hx438_3
         try clear hx438_4
         try clear hx439_0
         try clear hx439_1
         try clear hx439_2
         try clear hx439_3
         try clear hx439_4
         try clear hx440_0
         try clear hx440_1
         try clear hx440_2
         try clear hx440_3
         try clear hx440_4
         try clear p2
         try clear p4
         try clear p438
         try clear p439
         try clear p440
         try clear q4
         try clear q438
         try clear q439
         try clear q440
         obtain ⟨x5_3, rfl, HA, HK3, BK436, BK441, HB⟩ := hrel
         cases gk with
         | zero => exact absurd HA.out (by simp [portolanref04_Check.l1])
         | succ k3 =>
          have H := HA.out
          clear HA
          simp only [portolanref04_Check.l1] at H
          by_cases c21 : x5_3 < (((rd_T30 l0_0 x3_2).f4).length : Int)
          ·
           rw [if_pos c21] at H
           have c21b0 : decide (x5_3 < (((rd_T30 l0_0 x3_2).f4).length : Int)) = true := decide_eq_true c21
           clear c21
           have H' := Aside0.mk H
           clear H
           have hnb22 := NB441_436.out
           have hnc22 := NB436_441.out
           obtain ⟨hcz23_0, hcz23_1, hcz23_2, hcz23_3, hcz23_4⟩ := bk5 BK441.out
           have hfz23_0 := bf BK441.out
           go_wp2
           go_loopg [6] k3 (fun kq v6 w' => ∃ (x6_4 : Int), v6 = .int .i64 x6_4 ∧ Aside0 (portolanref04_Check.l2 kq x3_2 x5_3 x6_4 l0_0 ((rd_T30 l0_0 x3_2).f0) ((rd_T30 l0_0 x3_2).f1) ((rd_T30 l0_0 x3_2).f2) ((rd_T30 l0_0 x3_2).f3) ((rd_T30 l0_0 x3_2).f4) = some r) ∧ Aside0 (kq ≤ k3) ∧ Aside0 (w'.heap[gb436]? = some (.cells #[(.slice (some ad440) l0_0.length c0_0)] 24 (0, 0))) ∧ Aside0 (w'.heap[gb441]? = some (.cells #[(.slice A440_0 ((rd_T30 l0_0 x3_2).f0).length c440_0), (.slice A440_1 ((rd_T30 l0_0 x3_2).f1).length c440_1), .int .i64 ((rd_T30 l0_0 x3_2).f2), .int .i64 ((rd_T30 l0_0 x3_2).f3), (.slice A440_4 ((rd_T30 l0_0 x3_2).f4).length c440_4)] 30 (0, 0))) ∧ Aside0 (Below w.heap.size w w'))
           case atStart => exact ⟨(0), (by first | rfl | (simp; done) | (simp [*]; done)), H', ⟨Nat.le_refl _⟩, ⟨bx BK436.out⟩, ⟨bx BK441.out⟩, ⟨bl HB⟩⟩
           case round =>
            clear H'
            try clear c1
            try clear c2
            try clear p2
            try clear c3
            try clear c4
            try clear p4
            try clear q4
            try clear hx4
            try clear qi4
            try clear c5
            try clear c6
            try clear c6b0
            try clear c6b1
            try clear c7
            try clear c7b0
            try clear c7b1
            try clear c11
            try clear c12
            try clear c12b0
            try clear c13
            try clear c13b0
            try clear c15
            try clear c18
            try clear c21
            try clear c21b0
            try clear c22
            try clear hcz10_0
            try clear hcz16_0
            try clear hcz19_0 hcz19_1 hcz19_2 hcz19_3 hcz19_4
            try clear hcz23_0 hcz23_1 hcz23_2 hcz23_3 hcz23_4
            try clear hcz8_0
            try clear hcz9_0
            try clear hfz10_0
            try clear hfz16_0
            try clear hfz19_0
            try clear hfz23_0
            try clear hfz8_0
            try clear hfz9_0
            try clear hx438_0
            try clear hx438_1
            try clear hx438_2
            try clear hx438_3
            try clear hx438_4
            try clear hx439_0
            try clear hx439_1
            try clear hx439_2
            try clear hx439_3
            try clear hx439_4
            try clear hx440_0
            try clear hx440_1
            try clear hx440_2
            try clear hx440_3
            try clear hx440_4
            try clear p2
            try clear p4
            try clear p438
            try clear p439
            try clear p440
            try clear q4
            try clear q438
            try clear q439
            try clear q440
            obtain ⟨x6_4, rfl, HA, HK4, BK436, BK441, HB⟩ := hrel
            cases gk with
            | zero => exact absurd HA.out (by simp [portolanref04_Check.l2])
            | succ k4 =>
             have H := HA.out
             clear HA
             simp only [portolanref04_Check.l2] at H
             by_cases c24 : 0 ≤ x5_3
             ·
              rw [if_pos c24] at H
              have c24b0 : decide (0 ≤ x5_3) = true := decide_eq_true c24
              clear c24
              by_cases c25 : x5_3 < (((rd_T30 l0_0 x3_2).f4).length : Int)
              ·
               rw [if_pos c25] at H
               have c25b0 : decide (x5_3 < (((rd_T30 l0_0 x3_2).f4).length : Int)) = true := decide_eq_true c25
               clear c25
               by_cases c26 : x6_4 < (((rd_T40 ((rd_T30 l0_0 x3_2).f4) x5_3).f0).length : Int)
               ·
                rw [if_pos c26] at H
                have c26b0 : decide (x6_4 < (((rd_T40 ((rd_T30 l0_0 x3_2).f4) x5_3).f0).length : Int)) = true := decide_eq_true c26
                clear c26
                by_cases c27 : 0 ≤ x6_4
                ·
                 rw [if_pos c27] at H
                 have c27b0 : decide (0 ≤ x6_4) = true := decide_eq_true c27
                 clear c27
                 replace H := Option.bind_eq_some_iff.mp H
                 obtain ⟨t446, A280, H⟩ := H
                 replace H : (if t446 = true then (portolanref04_Check.l2 k4 x3_2 x5_3 (wrap64 (x6_4 + 1)) l0_0 ((rd_T30 l0_0 x3_2).f0) ((rd_T30 l0_0 x3_2).f1) ((rd_T30 l0_0 x3_2).f2) ((rd_T30 l0_0 x3_2).f3) ((rd_T30 l0_0 x3_2).f4)) else (some 5)) = some r := H
                 have A28 := Aside0.mk A280
                 clear A280
                 by_cases c29 : t446 = true
                 ·
                  subst c29
                  have H1 : (portolanref04_Check.l2 k4 x3_2 x5_3 (wrap64 (x6_4 + 1)) l0_0 ((rd_T30 l0_0 x3_2).f0) ((rd_T30 l0_0 x3_2).f1) ((rd_T30 l0_0 x3_2).f2) ((rd_T30 l0_0 x3_2).f3) ((rd_T30 l0_0 x3_2).f4)) = some r := by rw [if_pos rfl] at H; exact H
                  clear H
                  have H := H1
                  clear H1
                  have H' := Aside0.mk H
                  clear H
                  have hnb30 := NB441_436.out
                  have hnc30 := NB436_441.out
                  obtain ⟨hcz31_0, hcz31_1, hcz31_2, hcz31_3, hcz31_4⟩ := bk5 BK441.out
                  have hfz31_0 := bf BK441.out
                  have p443 : 0 ≤ (x5_3 : Int) := of_decide_eq_true (by assumption)
                  have q443 : x5_3 < (((rd_T30 l0_0 x3_2).f4).length : Int) := of_decide_eq_true (by assumption)
                  obtain ⟨ad443, A443_0, c443_0, e443, hx443_0, hl443_0, hi443_0⟩ := at_T40 HR440_4.out x5_3 p443 q443
                  cases e443
                  replace hx443_0 := (HB.out.cell (World.block_lt_of_cell? w _ hx443_0)).trans hx443_0
                  have HR443_0 := Aside0.mk hi443_0
                  have HC443_0 := Aside0.mk hl443_0
                  clear hi443_0 hl443_0
                  replace p443 := eq_true p443
                  replace q443 := eq_true q443
                  try go_wp2
                  replace BK436 := Aside0.mk (blk_drew BK436.out); replace BK441 := Aside0.mk (blk_drew BK441.out); replace HB := Aside0.mk (below_drew1 HB.out)
                  have p444 : 0 ≤ (x5_3 : Int) := of_decide_eq_true (by assumption)
                  have q444 : x5_3 < (((rd_T30 l0_0 x3_2).f4).length : Int) := of_decide_eq_true (by assumption)
                  obtain ⟨ad444, A444_0, c444_0, e444, hx444_0, hl444_0, hi444_0⟩ := at_T40 HR440_4.out x5_3 p444 q444
                  have hw444_0 := hx444_0
                  obtain rfl : ad443 = ad444 := (by injection e444)
                  replace hx444_0 := (HB.out.cell (World.block_lt_of_cell? w _ hx444_0)).trans hx444_0
                  have HR444_0 := Aside0.mk hi444_0
                  have HC444_0 := Aside0.mk hl444_0
                  clear hi444_0 hl444_0
                  replace p444 := eq_true p444
                  replace q444 := eq_true q444
                  have p445 : 0 ≤ (x6_4 : Int) := of_decide_eq_true (by assumption)
                  have q445 : x6_4 < (((rd_T40 ((rd_T30 l0_0 x3_2).f4) x5_3).f0).length : Int) := of_decide_eq_true (by assumption)
                  obtain ⟨ad445, A445_6, c445_6, e445, hx445_0, hx445_1, hx445_2, hx445_3, hx445_4, hx445_5, hx445_6, hl445_6, hi445_6⟩ := at_T44 HR444_0.out x6_4 p445 q445
                  have hw445_6 := hx445_6
                  have hw445_5 := hx445_5
                  have hw445_4 := hx445_4
                  have hw445_3 := hx445_3
                  have hw445_2 := hx445_2
                  have hw445_1 := hx445_1
                  have hw445_0 := hx445_0
                  cases e445
                  replace hx445_0 := (HB.out.cell (World.block_lt_of_cell? w _ hx445_0)).trans hx445_0
                  replace hx445_1 := (HB.out.cell (World.block_lt_of_cell? w _ hx445_1)).trans hx445_1
                  replace hx445_2 := (HB.out.cell (World.block_lt_of_cell? w _ hx445_2)).trans hx445_2
                  replace hx445_3 := (HB.out.cell (World.block_lt_of_cell? w _ hx445_3)).trans hx445_3
                  replace hx445_4 := (HB.out.cell (World.block_lt_of_cell? w _ hx445_4)).trans hx445_4
                  replace hx445_5 := (HB.out.cell (World.block_lt_of_cell? w _ hx445_5)).trans hx445_5
                  replace hx445_6 := (HB.out.cell (World.block_lt_of_cell? w _ hx445_6)).trans hx445_6
                  have HR445_6 := Aside0.mk hi445_6
                  have HC445_6 := Aside0.mk hl445_6
                  clear hi445_6 hl445_6
                  replace p445 := eq_true p445
                  replace q445 := eq_true q445
                  refine start_ (n := 13) (S := fun w' => w'.cell? ⟨gb436, 0, none⟩ = some (.slice (some ad440) l0_0.length c0_0) ∧ w'.cell? ⟨gb441, 0, none⟩ = some (.slice A440_0 ((rd_T30 l0_0 x3_2).f0).length c440_0) ∧ w'.cell? ⟨gb441, 1, none⟩ = some (.slice A440_1 ((rd_T30 l0_0 x3_2).f1).length c440_1) ∧ w'.cell? ⟨gb441, 2, none⟩ = some (.int .i64 ((rd_T30 l0_0 x3_2).f2)) ∧ w'.cell? ⟨gb441, 3, none⟩ = some (.int .i64 ((rd_T30 l0_0 x3_2).f3)) ∧ w'.cell? ⟨gb441, 4, none⟩ = some (.slice (some ad443) ((rd_T30 l0_0 x3_2).f4).length c440_4) ∧ w'.cell? (ad443.add (x5_3).toNat) = some (.slice (some ad445) ((rd_T40 ((rd_T30 l0_0 x3_2).f4) x5_3).f0).length c444_0) ∧ w'.cell? (ad445.add ((x6_4).toNat * 7)) = some (.int .i64 ((rd_T44 ((rd_T40 ((rd_T30 l0_0 x3_2).f4) x5_3).f0) x6_4).f0)) ∧ w'.cell? ⟨(ad445.add ((x6_4).toNat * 7)).block, (ad445.add ((x6_4).toNat * 7)).off + 1, none⟩ = some (.int .i64 ((rd_T44 ((rd_T40 ((rd_T30 l0_0 x3_2).f4) x5_3).f0) x6_4).f1)) ∧ w'.cell? ⟨(ad445.add ((x6_4).toNat * 7)).block, (ad445.add ((x6_4).toNat * 7)).off + 2, none⟩ = some (.int .i64 ((rd_T44 ((rd_T40 ((rd_T30 l0_0 x3_2).f4) x5_3).f0) x6_4).f2)) ∧ w'.cell? ⟨(ad445.add ((x6_4).toNat * 7)).block, (ad445.add ((x6_4).toNat * 7)).off + 3, none⟩ = some (.int .i64 ((rd_T44 ((rd_T40 ((rd_T30 l0_0 x3_2).f4) x5_3).f0) x6_4).f3)) ∧ w'.cell? ⟨(ad445.add ((x6_4).toNat * 7)).block, (ad445.add ((x6_4).toNat * 7)).off + 4, none⟩ = some (.int .i64 ((rd_T44 ((rd_T40 ((rd_T30 l0_0 x3_2).f4) x5_3).f0) x6_4).f4)) ∧ w'.cell? ⟨(ad445.add ((x6_4).toNat * 7)).block, (ad445.add ((x6_4).toNat * 7)).off + 5, none⟩ = some (.int .i64 ((rd_T44 ((rd_T40 ((rd_T30 l0_0 x3_2).f4) x5_3).f0) x6_4).f5)) ∧ w'.cell? ⟨(ad445.add ((x6_4).toNat * 7)).block, (ad445.add ((x6_4).toNat * 7)).off + 6, none⟩ = some (.slice A445_6 ((rd_T44 ((rd_T40 ((rd_T30 l0_0 x3_2).f4) x5_3).f0) x6_4).f6).length c445_6)) (ds := []) #[false, false, false, false, false, false, false, false, false, false, false, false, false] (by kernel_rfl) rfl rfl ⟨(blk_cell BK436.out 0).trans rfl, (blk_cell BK441.out 0).trans rfl, (blk_cell BK441.out 1).trans rfl, (blk_cell BK441.out 2).trans rfl, (blk_cell BK441.out 3).trans rfl, (blk_cell BK441.out 4).trans rfl, ((HB.out.cell (World.block_lt_of_cell? w _ hw444_0)).trans hw444_0), ((HB.out.cell (World.block_lt_of_cell? w _ hw445_0)).trans hw445_0), ((HB.out.cell (World.block_lt_of_cell? w _ hw445_1)).trans hw445_1), ((HB.out.cell (World.block_lt_of_cell? w _ hw445_2)).trans hw445_2), ((HB.out.cell (World.block_lt_of_cell? w _ hw445_3)).trans hw445_3), ((HB.out.cell (World.block_lt_of_cell? w _ hw445_4)).trans hw445_4), ((HB.out.cell (World.block_lt_of_cell? w _ hw445_5)).trans hw445_5), ((HB.out.cell (World.block_lt_of_cell? w _ hw445_6)).trans hw445_6)⟩ (fun hHeld => ?_); refine with_tabW portolanref04_Check.tab15 portolanref04_Check.bits15 (fun HT_ HW_ => ?_)
                  generalize wr.drew = w32 at BK436 BK441 HB HR444_0 HR445_6 hx444_0 hx445_0 hx445_1 hx445_2 hx445_3 hx445_4 hx445_5 hx445_6 hHeld ⊢
                  refine pure_ (i := 1) (N := some 62) (v := ?_) (a' := ?_) #[false, true, false, false, false, false, false, false, false, false, false, false, false] rfl rfl (any_of HT_.out (by kernel_rfl)) (fun _ _ _ h => h) (Or.inl ⟨by rfl, ?_⟩) ?_ ?_
                  rotate_left
                  ·
                   intro w'
                   go_simp
                   with_reducible rfl
                  rotate_left
                  ·
                   simp only [Act.put, List.setIfInBounds_toArray, List.set_cons_zero, List.set_cons_succ, i64_w, i32_w]
                   rfl
                  refine pure_ (i := 2) (N := some 63) (v := ?_) (a' := ?_) #[false, true, true, false, false, false, false, false, false, false, false, false, false] rfl rfl (any_of HT_.out (by kernel_rfl)) (fun _ _ _ h => h) (Or.inl ⟨by rfl, ?_⟩) ?_ ?_
                  rotate_left
                  ·
                   intro w'
                   go_simp
                   with_reducible rfl
                  rotate_left
                  ·
                   simp only [Act.put, List.setIfInBounds_toArray, List.set_cons_zero, List.set_cons_succ, i64_w, i32_w]
                   rfl
                  refine pure_ (i := 4) (N := some 65) (v := ?_) (a' := ?_) #[false, true, true, false, true, false, false, false, false, false, false, false, false] rfl rfl (any_of HT_.out (by kernel_rfl)) (fun _ _ _ h => h) (Or.inl ⟨by rfl, ?_⟩) ?_ ?_
                  rotate_left
                  ·
                   intro w'
                   go_simp
                   with_reducible rfl
                  rotate_left
                  ·
                   simp only [Act.put, List.setIfInBounds_toArray, List.set_cons_zero, List.set_cons_succ, i64_w, i32_w]
                   rfl
                  refine pure_ (i := 8) (N := some 69) (v := ?_) (a' := ?_) #[false, true, true, false, true, false, false, false, true, false, false, false, false] rfl rfl (any_of HT_.out (by kernel_rfl)) (fun _ _ _ h => h) (Or.inl ⟨by rfl, ?_⟩) ?_ ?_
                  rotate_left
                  ·
                   intro w'
                   go_simp
                   with_reducible rfl
                  rotate_left
                  ·
                   simp only [Act.put, List.setIfInBounds_toArray, List.set_cons_zero, List.set_cons_succ, i64_w, i32_w]
                   rfl
                  refine take_ (i := 0) (N := some 61) (v := ?_) (a' := ?_) #[true, true, true, false, true, false, false, false, true, false, false, false, false] rfl rfl (take_ofW HT_.out HW_.out (by kernel_rfl)) (fun _ _ _ h => h) (Or.inl ⟨by rfl, ?_⟩) hHeld ?_ ?_
                  rotate_left
                  ·
                   rintro w' ⟨s0, s1, s2, s3, s4, s5, s6, s7, s8, s9, s10, s11, s12, s13⟩
                   go_simp
                   with_reducible rfl
                  rotate_left
                  ·
                   simp only [Act.put, List.setIfInBounds_toArray, List.set_cons_zero, List.set_cons_succ, i64_w, i32_w]
                   rfl
                  refine take_ (i := 3) (N := some 64) (v := ?_) (a' := ?_) #[true, true, true, true, true, false, false, false, true, false, false, false, false] rfl rfl (take_ofW HT_.out HW_.out (by kernel_rfl)) (fun _ _ _ h => h) (Or.inl ⟨by rfl, ?_⟩) hHeld ?_ ?_
                  rotate_left
                  ·
                   rintro w' ⟨s0, s1, s2, s3, s4, s5, s6, s7, s8, s9, s10, s11, s12, s13⟩
                   go_simp
                   with_reducible rfl
                  rotate_left
                  ·
                   simp only [Act.put, List.setIfInBounds_toArray, List.set_cons_zero, List.set_cons_succ, i64_w, i32_w]
                   rfl
                  refine pure_ (i := 5) (N := some 66) (v := ?_) (a' := ?_) #[true, true, true, true, true, true, false, false, true, false, false, false, false] rfl rfl (any_of HT_.out (by kernel_rfl)) (fun _ _ _ h => h) (Or.inl ⟨by rfl, ?_⟩) ?_ ?_
                  rotate_left
                  ·
                   intro w'
                   go_simp
                   with_reducible rfl
                  rotate_left
                  ·
                   simp only [Act.put, List.setIfInBounds_toArray, List.set_cons_zero, List.set_cons_succ, i64_w, i32_w]
                   rfl
                  refine pure_ (i := 6) (N := some 67) (v := ?_) (a' := ?_) #[true, true, true, true, true, true, true, false, true, false, false, false, false] rfl rfl (any_of HT_.out (by kernel_rfl)) (fun _ _ _ h => h) (Or.inl ⟨by rfl, ?_⟩) ?_ ?_
                  rotate_left
                  ·
                   intro w'
                   go_simp
                   with_reducible rfl
                  rotate_left
                  ·
                   simp only [Act.put, List.setIfInBounds_toArray, List.set_cons_zero, List.set_cons_succ, i64_w, i32_w]
                   rfl
                  refine take_ (i := 7) (N := some 68) (v := ?_) (a' := ?_) #[true, true, true, true, true, true, true, true, true, false, false, false, false] rfl rfl (take_ofW HT_.out HW_.out (by kernel_rfl)) (fun _ _ _ h => h) (Or.inl ⟨by rfl, ?_⟩) hHeld ?_ ?_
                  rotate_left
                  ·
                   rintro w' ⟨s0, s1, s2, s3, s4, s5, s6, s7, s8, s9, s10, s11, s12, s13⟩
                   go_simp
                   with_reducible rfl
                  rotate_left
                  ·
                   simp only [Act.put, List.setIfInBounds_toArray, List.set_cons_zero, List.set_cons_succ, i64_w, i32_w]
                   rfl
                  refine pure_ (i := 9) (N := some 70) (v := ?_) (a' := ?_) #[true, true, true, true, true, true, true, true, true, true, false, false, false] rfl rfl (any_of HT_.out (by kernel_rfl)) (fun _ _ _ h => h) (Or.inl ⟨by rfl, ?_⟩) ?_ ?_
                  rotate_left
                  ·
                   intro w'
                   go_simp
                   with_reducible rfl
                  rotate_left
                  ·
                   simp only [Act.put, List.setIfInBounds_toArray, List.set_cons_zero, List.set_cons_succ, i64_w, i32_w]
                   rfl
                  refine take_ (i := 10) (N := some 71) (v := ?_) (a' := ?_) #[true, true, true, true, true, true, true, true, true, true, true, false, false] rfl rfl (take_ofW HT_.out HW_.out (by kernel_rfl)) (fun _ _ _ h => h) (Or.inl ⟨by rfl, ?_⟩) hHeld ?_ ?_
                  rotate_left
                  ·
                   rintro w' ⟨s0, s1, s2, s3, s4, s5, s6, s7, s8, s9, s10, s11, s12, s13⟩
                   go_simp
                   with_reducible rfl
                  rotate_left
                  ·
                   simp only [Act.put, List.setIfInBounds_toArray, List.set_cons_zero, List.set_cons_succ, i64_w, i32_w]
                   rfl
                  refine one_ (i := 11) (N := some 72) #[true, true, true, true, true, true, true, true, true, true, true, true, false] rfl rfl (one_of HT_.out (by kernel_rfl)) (by decide) (fun K hK => ?_)
                  refine goes_ Tryd.func58 (by kernel_rfl) rfl #[.agg #[.slice (some ad440) l0_0.length c0_0], .int .i64 x3_2, .agg #[.int .i64 ((rd_T44 ((rd_T40 ((rd_T30 l0_0 x3_2).f4) x5_3).f0) x6_4).f0), .int .i64 ((rd_T44 ((rd_T40 ((rd_T30 l0_0 x3_2).f4) x5_3).f0) x6_4).f1), .int .i64 ((rd_T44 ((rd_T40 ((rd_T30 l0_0 x3_2).f4) x5_3).f0) x6_4).f2), .int .i64 ((rd_T44 ((rd_T40 ((rd_T30 l0_0 x3_2).f4) x5_3).f0) x6_4).f3), .int .i64 ((rd_T44 ((rd_T40 ((rd_T30 l0_0 x3_2).f4) x5_3).f0) x6_4).f4), .int .i64 ((rd_T44 ((rd_T40 ((rd_T30 l0_0 x3_2).f4) x5_3).f0) x6_4).f5), .slice A445_6 ((rd_T44 ((rd_T40 ((rd_T30 l0_0 x3_2).f4) x5_3).f0) x6_4).f6).length c445_6]] (by rfl) rfl rfl (by (try simp only [List.map_toArray, List.map_cons, List.map_nil]); first | done | rfl) ?_
                  with_reducible refine (portolanref04_Ins.calls k4 _ _ l0_0 x3_2 ((rd_T44 ((rd_T40 ((rd_T30 l0_0 x3_2).f4) x5_3).f0) x6_4).f0) ((rd_T44 ((rd_T40 ((rd_T30 l0_0 x3_2).f4) x5_3).f0) x6_4).f1) ((rd_T44 ((rd_T40 ((rd_T30 l0_0 x3_2).f4) x5_3).f0) x6_4).f2) ((rd_T44 ((rd_T40 ((rd_T30 l0_0 x3_2).f4) x5_3).f0) x6_4).f3) ((rd_T44 ((rd_T40 ((rd_T30 l0_0 x3_2).f4) x5_3).f0) x6_4).f4) ((rd_T44 ((rd_T40 ((rd_T30 l0_0 x3_2).f4) x5_3).f0) x6_4).f5) _ _ ((rd_T44 ((rd_T40 ((rd_T30 l0_0 x3_2).f4) x5_3).f0) x6_4).f6) true _ ?side1 ?side2 ?side3 ?side4 A28.out).mono ?_
                  (case side1 => exact Kd.Cx (Kd.C_below HR0_0.out HB.out))
                  (case side2 => exact HC0_0.out)
                  (case side3 => exact Kd.Cx (Kd.C_below HR445_6.out HB.out))
                  (case side4 => exact HC445_6.out)
                  rintro e w33 ⟨rfl, hb⟩
                  refine ⟨_, rfl, ?_⟩
                  replace BK436 := Aside0.mk (blk_below (bx BK436.out) hb); replace BK441 := Aside0.mk (blk_below (bx BK441.out) hb); replace HB := Aside0.mk (below_step (bl HB) hb)
                  (try clear hb)
                  (try clear hb2)
                  (try clear hk)
                  (try clear hi)
                  refine hK.out _ _ ⟨(blk_cell BK436.out 0).trans rfl, (blk_cell BK441.out 0).trans rfl, (blk_cell BK441.out 1).trans rfl, (blk_cell BK441.out 2).trans rfl, (blk_cell BK441.out 3).trans rfl, (blk_cell BK441.out 4).trans rfl, ((HB.out.cell (World.block_lt_of_cell? w _ hw444_0)).trans hw444_0), ((HB.out.cell (World.block_lt_of_cell? w _ hw445_0)).trans hw445_0), ((HB.out.cell (World.block_lt_of_cell? w _ hw445_1)).trans hw445_1), ((HB.out.cell (World.block_lt_of_cell? w _ hw445_2)).trans hw445_2), ((HB.out.cell (World.block_lt_of_cell? w _ hw445_3)).trans hw445_3), ((HB.out.cell (World.block_lt_of_cell? w _ hw445_4)).trans hw445_4), ((HB.out.cell (World.block_lt_of_cell? w _ hw445_5)).trans hw445_5), ((HB.out.cell (World.block_lt_of_cell? w _ hw445_6)).trans hw445_6)⟩ (fun hHeld => ?_)
                  clear hK K
                  refine norm_ (a' := ?_) ?_ ?_
                  rotate_left
                  ·
                   show Act.put _ (some 72) _ = _
                   simp only [Act.put, List.setIfInBounds_toArray, List.set_cons_zero, List.set_cons_succ, i64_w, i32_w]
                   rfl
                  refine pure_ (i := 12) (N := some 73) (v := ?_) (a' := ?_) #[true, true, true, true, true, true, true, true, true, true, true, true, true] rfl rfl (any_of HT_.out (by kernel_rfl)) (fun _ _ _ h => h) (Or.inl ⟨by rfl, ?_⟩) ?_ ?_
                  rotate_left
                  ·
                   intro w'
                   go_simp
                   with_reducible rfl
                  rotate_left
                  ·
                   simp only [Act.put, List.setIfInBounds_toArray, List.set_cons_zero, List.set_cons_succ, i64_w, i32_w]
                   rfl
                  refine done_ (done_of HT_.out (by kernel_rfl)) ?_
                  try go_wp2
                  go_roundg k4
                  case measure => have := HJ1.out; have := HK2.out; have := HK3.out; have := HK4.out; omega
                  case rel => exact ⟨(wrap64 (x6_4 + 1)), (by first | rfl | (simp; done) | (simp [*]; done)), H', ⟨by have := HJ1.out; have := HK2.out; have := HK3.out; have := HK4.out; omega⟩, ⟨bx BK436.out⟩, ⟨bx BK441.out⟩, ⟨bl HB⟩⟩
                 replace c29 := Bool.eq_false_iff.mpr c29
                 subst c29
                 have H1 : (some 5) = some r := by rw [if_neg (show ¬ (false = true) by decide)] at H; exact H
                 clear H
                 have H := H1
                 clear H1
                 obtain rfl := Option.some.inj H
                 have hnb34 := NB441_436.out
                 have hnc34 := NB436_441.out
                 obtain ⟨hcz35_0, hcz35_1, hcz35_2, hcz35_3, hcz35_4⟩ := bk5 BK441.out
                 have hfz35_0 := bf BK441.out
                 have p443 : 0 ≤ (x5_3 : Int) := of_decide_eq_true (by assumption)
                 have q443 : x5_3 < (((rd_T30 l0_0 x3_2).f4).length : Int) := of_decide_eq_true (by assumption)
                 obtain ⟨ad443, A443_0, c443_0, e443, hx443_0, hl443_0, hi443_0⟩ := at_T40 HR440_4.out x5_3 p443 q443
                 cases e443
                 replace hx443_0 := (HB.out.cell (World.block_lt_of_cell? w _ hx443_0)).trans hx443_0
                 have HR443_0 := Aside0.mk hi443_0
                 have HC443_0 := Aside0.mk hl443_0
                 clear hi443_0 hl443_0
                 replace p443 := eq_true p443
                 replace q443 := eq_true q443
                 try go_wp2
                 replace BK436 := Aside0.mk (blk_drew BK436.out); replace BK441 := Aside0.mk (blk_drew BK441.out); replace HB := Aside0.mk (below_drew1 HB.out)
                 have p444 : 0 ≤ (x5_3 : Int) := of_decide_eq_true (by assumption)
                 have q444 : x5_3 < (((rd_T30 l0_0 x3_2).f4).length : Int) := of_decide_eq_true (by assumption)
                 obtain ⟨ad444, A444_0, c444_0, e444, hx444_0, hl444_0, hi444_0⟩ := at_T40 HR440_4.out x5_3 p444 q444
                 have hw444_0 := hx444_0
                 obtain rfl : ad443 = ad444 := (by injection e444)
                 replace hx444_0 := (HB.out.cell (World.block_lt_of_cell? w _ hx444_0)).trans hx444_0
                 have HR444_0 := Aside0.mk hi444_0
                 have HC444_0 := Aside0.mk hl444_0
                 clear hi444_0 hl444_0
                 replace p444 := eq_true p444
                 replace q444 := eq_true q444
                 have p445 : 0 ≤ (x6_4 : Int) := of_decide_eq_true (by assumption)
                 have q445 : x6_4 < (((rd_T40 ((rd_T30 l0_0 x3_2).f4) x5_3).f0).length : Int) := of_decide_eq_true (by assumption)
                 obtain ⟨ad445, A445_6, c445_6, e445, hx445_0, hx445_1, hx445_2, hx445_3, hx445_4, hx445_5, hx445_6, hl445_6, hi445_6⟩ := at_T44 HR444_0.out x6_4 p445 q445
                 have hw445_6 := hx445_6
                 have hw445_5 := hx445_5
                 have hw445_4 := hx445_4
                 have hw445_3 := hx445_3
                 have hw445_2 := hx445_2
                 have hw445_1 := hx445_1
                 have hw445_0 := hx445_0
                 cases e445
                 replace hx445_0 := (HB.out.cell (World.block_lt_of_cell? w _ hx445_0)).trans hx445_0
                 replace hx445_1 := (HB.out.cell (World.block_lt_of_cell? w _ hx445_1)).trans hx445_1
                 replace hx445_2 := (HB.out.cell (World.block_lt_of_cell? w _ hx445_2)).trans hx445_2
                 replace hx445_3 := (HB.out.cell (World.block_lt_of_cell? w _ hx445_3)).trans hx445_3
                 replace hx445_4 := (HB.out.cell (World.block_lt_of_cell? w _ hx445_4)).trans hx445_4
                 replace hx445_5 := (HB.out.cell (World.block_lt_of_cell? w _ hx445_5)).trans hx445_5
                 replace hx445_6 := (HB.out.cell (World.block_lt_of_cell? w _ hx445_6)).trans hx445_6
                 have HR445_6 := Aside0.mk hi445_6
                 have HC445_6 := Aside0.mk hl445_6
                 clear hi445_6 hl445_6
                 replace p445 := eq_true p445
                 replace q445 := eq_true q445
                 refine start_ (n := 13) (S := fun w' => w'.cell? ⟨gb436, 0, none⟩ = some (.slice (some ad440) l0_0.length c0_0) ∧ w'.cell? ⟨gb441, 0, none⟩ = some (.slice A440_0 ((rd_T30 l0_0 x3_2).f0).length c440_0) ∧ w'.cell? ⟨gb441, 1, none⟩ = some (.slice A440_1 ((rd_T30 l0_0 x3_2).f1).length c440_1) ∧ w'.cell? ⟨gb441, 2, none⟩ = some (.int .i64 ((rd_T30 l0_0 x3_2).f2)) ∧ w'.cell? ⟨gb441, 3, none⟩ = some (.int .i64 ((rd_T30 l0_0 x3_2).f3)) ∧ w'.cell? ⟨gb441, 4, none⟩ = some (.slice (some ad443) ((rd_T30 l0_0 x3_2).f4).length c440_4) ∧ w'.cell? (ad443.add (x5_3).toNat) = some (.slice (some ad445) ((rd_T40 ((rd_T30 l0_0 x3_2).f4) x5_3).f0).length c444_0) ∧ w'.cell? (ad445.add ((x6_4).toNat * 7)) = some (.int .i64 ((rd_T44 ((rd_T40 ((rd_T30 l0_0 x3_2).f4) x5_3).f0) x6_4).f0)) ∧ w'.cell? ⟨(ad445.add ((x6_4).toNat * 7)).block, (ad445.add ((x6_4).toNat * 7)).off + 1, none⟩ = some (.int .i64 ((rd_T44 ((rd_T40 ((rd_T30 l0_0 x3_2).f4) x5_3).f0) x6_4).f1)) ∧ w'.cell? ⟨(ad445.add ((x6_4).toNat * 7)).block, (ad445.add ((x6_4).toNat * 7)).off + 2, none⟩ = some (.int .i64 ((rd_T44 ((rd_T40 ((rd_T30 l0_0 x3_2).f4) x5_3).f0) x6_4).f2)) ∧ w'.cell? ⟨(ad445.add ((x6_4).toNat * 7)).block, (ad445.add ((x6_4).toNat * 7)).off + 3, none⟩ = some (.int .i64 ((rd_T44 ((rd_T40 ((rd_T30 l0_0 x3_2).f4) x5_3).f0) x6_4).f3)) ∧ w'.cell? ⟨(ad445.add ((x6_4).toNat * 7)).block, (ad445.add ((x6_4).toNat * 7)).off + 4, none⟩ = some (.int .i64 ((rd_T44 ((rd_T40 ((rd_T30 l0_0 x3_2).f4) x5_3).f0) x6_4).f4)) ∧ w'.cell? ⟨(ad445.add ((x6_4).toNat * 7)).block, (ad445.add ((x6_4).toNat * 7)).off + 5, none⟩ = some (.int .i64 ((rd_T44 ((rd_T40 ((rd_T30 l0_0 x3_2).f4) x5_3).f0) x6_4).f5)) ∧ w'.cell? ⟨(ad445.add ((x6_4).toNat * 7)).block, (ad445.add ((x6_4).toNat * 7)).off + 6, none⟩ = some (.slice A445_6 ((rd_T44 ((rd_T40 ((rd_T30 l0_0 x3_2).f4) x5_3).f0) x6_4).f6).length c445_6)) (ds := []) #[false, false, false, false, false, false, false, false, false, false, false, false, false] (by kernel_rfl) rfl rfl ⟨(blk_cell BK436.out 0).trans rfl, (blk_cell BK441.out 0).trans rfl, (blk_cell BK441.out 1).trans rfl, (blk_cell BK441.out 2).trans rfl, (blk_cell BK441.out 3).trans rfl, (blk_cell BK441.out 4).trans rfl, ((HB.out.cell (World.block_lt_of_cell? w _ hw444_0)).trans hw444_0), ((HB.out.cell (World.block_lt_of_cell? w _ hw445_0)).trans hw445_0), ((HB.out.cell (World.block_lt_of_cell? w _ hw445_1)).trans hw445_1), ((HB.out.cell (World.block_lt_of_cell? w _ hw445_2)).trans hw445_2), ((HB.out.cell (World.block_lt_of_cell? w _ hw445_3)).trans hw445_3), ((HB.out.cell (World.block_lt_of_cell? w _ hw445_4)).trans hw445_4), ((HB.out.cell (World.block_lt_of_cell? w _ hw445_5)).trans hw445_5), ((HB.out.cell (World.block_lt_of_cell? w _ hw445_6)).trans hw445_6)⟩ (fun hHeld => ?_); refine with_tabW portolanref04_Check.tab15 portolanref04_Check.bits15 (fun HT_ HW_ => ?_)
                 generalize wr.drew = w36 at BK436 BK441 HB HR444_0 HR445_6 hx444_0 hx445_0 hx445_1 hx445_2 hx445_3 hx445_4 hx445_5 hx445_6 hHeld ⊢
                 refine pure_ (i := 1) (N := some 62) (v := ?_) (a' := ?_) #[false, true, false, false, false, false, false, false, false, false, false, false, false] rfl rfl (any_of HT_.out (by kernel_rfl)) (fun _ _ _ h => h) (Or.inl ⟨by rfl, ?_⟩) ?_ ?_
                 rotate_left
                 ·
                  intro w'
                  go_simp
                  with_reducible rfl
                 rotate_left
                 ·
                  simp only [Act.put, List.setIfInBounds_toArray, List.set_cons_zero, List.set_cons_succ, i64_w, i32_w]
                  rfl
                 refine pure_ (i := 2) (N := some 63) (v := ?_) (a' := ?_) #[false, true, true, false, false, false, false, false, false, false, false, false, false] rfl rfl (any_of HT_.out (by kernel_rfl)) (fun _ _ _ h => h) (Or.inl ⟨by rfl, ?_⟩) ?_ ?_
                 rotate_left
                 ·
                  intro w'
                  go_simp
                  with_reducible rfl
                 rotate_left
                 ·
                  simp only [Act.put, List.setIfInBounds_toArray, List.set_cons_zero, List.set_cons_succ, i64_w, i32_w]
                  rfl
                 refine pure_ (i := 4) (N := some 65) (v := ?_) (a' := ?_) #[false, true, true, false, true, false, false, false, false, false, false, false, false] rfl rfl (any_of HT_.out (by kernel_rfl)) (fun _ _ _ h => h) (Or.inl ⟨by rfl, ?_⟩) ?_ ?_
                 rotate_left
                 ·
                  intro w'
                  go_simp
                  with_reducible rfl
                 rotate_left
                 ·
                  simp only [Act.put, List.setIfInBounds_toArray, List.set_cons_zero, List.set_cons_succ, i64_w, i32_w]
                  rfl
                 refine pure_ (i := 8) (N := some 69) (v := ?_) (a' := ?_) #[false, true, true, false, true, false, false, false, true, false, false, false, false] rfl rfl (any_of HT_.out (by kernel_rfl)) (fun _ _ _ h => h) (Or.inl ⟨by rfl, ?_⟩) ?_ ?_
                 rotate_left
                 ·
                  intro w'
                  go_simp
                  with_reducible rfl
                 rotate_left
                 ·
                  simp only [Act.put, List.setIfInBounds_toArray, List.set_cons_zero, List.set_cons_succ, i64_w, i32_w]
                  rfl
                 refine take_ (i := 0) (N := some 61) (v := ?_) (a' := ?_) #[true, true, true, false, true, false, false, false, true, false, false, false, false] rfl rfl (take_ofW HT_.out HW_.out (by kernel_rfl)) (fun _ _ _ h => h) (Or.inl ⟨by rfl, ?_⟩) hHeld ?_ ?_
                 rotate_left
                 ·
                  rintro w' ⟨s0, s1, s2, s3, s4, s5, s6, s7, s8, s9, s10, s11, s12, s13⟩
                  go_simp
                  with_reducible rfl
                 rotate_left
                 ·
                  simp only [Act.put, List.setIfInBounds_toArray, List.set_cons_zero, List.set_cons_succ, i64_w, i32_w]
                  rfl
                 refine take_ (i := 3) (N := some 64) (v := ?_) (a' := ?_) #[true, true, true, true, true, false, false, false, true, false, false, false, false] rfl rfl (take_ofW HT_.out HW_.out (by kernel_rfl)) (fun _ _ _ h => h) (Or.inl ⟨by rfl, ?_⟩) hHeld ?_ ?_
                 rotate_left
                 ·
                  rintro w' ⟨s0, s1, s2, s3, s4, s5, s6, s7, s8, s9, s10, s11, s12, s13⟩
                  go_simp
                  with_reducible rfl
                 rotate_left
                 ·
                  simp only [Act.put, List.setIfInBounds_toArray, List.set_cons_zero, List.set_cons_succ, i64_w, i32_w]
                  rfl
                 refine pure_ (i := 5) (N := some 66) (v := ?_) (a' := ?_) #[true, true, true, true, true, true, false, false, true, false, false, false, false] rfl rfl (any_of HT_.out (by kernel_rfl)) (fun _ _ _ h => h) (Or.inl ⟨by rfl, ?_⟩) ?_ ?_
                 rotate_left
                 ·
                  intro w'
                  go_simp
                  with_reducible rfl
                 rotate_left
                 ·
                  simp only [Act.put, List.setIfInBounds_toArray, List.set_cons_zero, List.set_cons_succ, i64_w, i32_w]
                  rfl
                 refine pure_ (i := 6) (N := some 67) (v := ?_) (a' := ?_) #[true, true, true, true, true, true, true, false, true, false, false, false, false] rfl rfl (any_of HT_.out (by kernel_rfl)) (fun _ _ _ h => h) (Or.inl ⟨by rfl, ?_⟩) ?_ ?_
                 rotate_left
                 ·
                  intro w'
                  go_simp
                  with_reducible rfl
                 rotate_left
                 ·
                  simp only [Act.put, List.setIfInBounds_toArray, List.set_cons_zero, List.set_cons_succ, i64_w, i32_w]
                  rfl
                 refine take_ (i := 7) (N := some 68) (v := ?_) (a' := ?_) #[true, true, true, true, true, true, true, true, true, false, false, false, false] rfl rfl (take_ofW HT_.out HW_.out (by kernel_rfl)) (fun _ _ _ h => h) (Or.inl ⟨by rfl, ?_⟩) hHeld ?_ ?_
                 rotate_left
                 ·
                  rintro w' ⟨s0, s1, s2, s3, s4, s5, s6, s7, s8, s9, s10, s11, s12, s13⟩
                  go_simp
                  with_reducible rfl
                 rotate_left
                 ·
                  simp only [Act.put, List.setIfInBounds_toArray, List.set_cons_zero, List.set_cons_succ, i64_w, i32_w]
                  rfl
                 refine pure_ (i := 9) (N := some 70) (v := ?_) (a' := ?_) #[true, true, true, true, true, true, true, true, true, true, false, false, false] rfl rfl (any_of HT_.out (by kernel_rfl)) (fun _ _ _ h => h) (Or.inl ⟨by rfl, ?_⟩) ?_ ?_
                 rotate_left
                 ·
                  intro w'
                  go_simp
                  with_reducible rfl
                 rotate_left
                 ·
                  simp only [Act.put, List.setIfInBounds_toArray, List.set_cons_zero, List.set_cons_succ, i64_w, i32_w]
                  rfl
                 refine take_ (i := 10) (N := some 71) (v := ?_) (a' := ?_) #[true, true, true, true, true, true, true, true, true, true, true, false, false] rfl rfl (take_ofW HT_.out HW_.out (by kernel_rfl)) (fun _ _ _ h => h) (Or.inl ⟨by rfl, ?_⟩) hHeld ?_ ?_
                 rotate_left
                 ·
                  rintro w' ⟨s0, s1, s2, s3, s4, s5, s6, s7, s8, s9, s10, s11, s12, s13⟩
                  go_simp
                  with_reducible rfl
                 rotate_left
                 ·
                  simp only [Act.put, List.setIfInBounds_toArray, List.set_cons_zero, List.set_cons_succ, i64_w, i32_w]
                  rfl
                 refine one_ (i := 11) (N := some 72) #[true, true, true, true, true, true, true, true, true, true, true, true, false] rfl rfl (one_of HT_.out (by kernel_rfl)) (by decide) (fun K hK => ?_)
                 refine goes_ Tryd.func58 (by kernel_rfl) rfl #[.agg #[.slice (some ad440) l0_0.length c0_0], .int .i64 x3_2, .agg #[.int .i64 ((rd_T44 ((rd_T40 ((rd_T30 l0_0 x3_2).f4) x5_3).f0) x6_4).f0), .int .i64 ((rd_T44 ((rd_T40 ((rd_T30 l0_0 x3_2).f4) x5_3).f0) x6_4).f1), .int .i64 ((rd_T44 ((rd_T40 ((rd_T30 l0_0 x3_2).f4) x5_3).f0) x6_4).f2), .int .i64 ((rd_T44 ((rd_T40 ((rd_T30 l0_0 x3_2).f4) x5_3).f0) x6_4).f3), .int .i64 ((rd_T44 ((rd_T40 ((rd_T30 l0_0 x3_2).f4) x5_3).f0) x6_4).f4), .int .i64 ((rd_T44 ((rd_T40 ((rd_T30 l0_0 x3_2).f4) x5_3).f0) x6_4).f5), .slice A445_6 ((rd_T44 ((rd_T40 ((rd_T30 l0_0 x3_2).f4) x5_3).f0) x6_4).f6).length c445_6]] (by rfl) rfl rfl (by (try simp only [List.map_toArray, List.map_cons, List.map_nil]); first | done | rfl) ?_
                 with_reducible refine (portolanref04_Ins.calls k4 _ _ l0_0 x3_2 ((rd_T44 ((rd_T40 ((rd_T30 l0_0 x3_2).f4) x5_3).f0) x6_4).f0) ((rd_T44 ((rd_T40 ((rd_T30 l0_0 x3_2).f4) x5_3).f0) x6_4).f1) ((rd_T44 ((rd_T40 ((rd_T30 l0_0 x3_2).f4) x5_3).f0) x6_4).f2) ((rd_T44 ((rd_T40 ((rd_T30 l0_0 x3_2).f4) x5_3).f0) x6_4).f3) ((rd_T44 ((rd_T40 ((rd_T30 l0_0 x3_2).f4) x5_3).f0) x6_4).f4) ((rd_T44 ((rd_T40 ((rd_T30 l0_0 x3_2).f4) x5_3).f0) x6_4).f5) _ _ ((rd_T44 ((rd_T40 ((rd_T30 l0_0 x3_2).f4) x5_3).f0) x6_4).f6) false _ ?side1 ?side2 ?side3 ?side4 A28.out).mono ?_
                 (case side1 => exact Kd.Cx (Kd.C_below HR0_0.out HB.out))
                 (case side2 => exact HC0_0.out)
                 (case side3 => exact Kd.Cx (Kd.C_below HR445_6.out HB.out))
                 (case side4 => exact HC445_6.out)
                 rintro e w37 ⟨rfl, hb⟩
                 refine ⟨_, rfl, ?_⟩
                 replace BK436 := Aside0.mk (blk_below (bx BK436.out) hb); replace BK441 := Aside0.mk (blk_below (bx BK441.out) hb); replace HB := Aside0.mk (below_step (bl HB) hb)
                 (try clear hb)
                 (try clear hb2)
                 (try clear hk)
                 (try clear hi)
                 refine hK.out _ _ ⟨(blk_cell BK436.out 0).trans rfl, (blk_cell BK441.out 0).trans rfl, (blk_cell BK441.out 1).trans rfl, (blk_cell BK441.out 2).trans rfl, (blk_cell BK441.out 3).trans rfl, (blk_cell BK441.out 4).trans rfl, ((HB.out.cell (World.block_lt_of_cell? w _ hw444_0)).trans hw444_0), ((HB.out.cell (World.block_lt_of_cell? w _ hw445_0)).trans hw445_0), ((HB.out.cell (World.block_lt_of_cell? w _ hw445_1)).trans hw445_1), ((HB.out.cell (World.block_lt_of_cell? w _ hw445_2)).trans hw445_2), ((HB.out.cell (World.block_lt_of_cell? w _ hw445_3)).trans hw445_3), ((HB.out.cell (World.block_lt_of_cell? w _ hw445_4)).trans hw445_4), ((HB.out.cell (World.block_lt_of_cell? w _ hw445_5)).trans hw445_5), ((HB.out.cell (World.block_lt_of_cell? w _ hw445_6)).trans hw445_6)⟩ (fun hHeld => ?_)
                 clear hK K
                 refine norm_ (a' := ?_) ?_ ?_
                 rotate_left
                 ·
                  show Act.put _ (some 72) _ = _
                  simp only [Act.put, List.setIfInBounds_toArray, List.set_cons_zero, List.set_cons_succ, i64_w, i32_w]
                  rfl
                 refine pure_ (i := 12) (N := some 73) (v := ?_) (a' := ?_) #[true, true, true, true, true, true, true, true, true, true, true, true, true] rfl rfl (any_of HT_.out (by kernel_rfl)) (fun _ _ _ h => h) (Or.inl ⟨by rfl, ?_⟩) ?_ ?_
                 rotate_left
                 ·
                  intro w'
                  go_simp
                  with_reducible rfl
                 rotate_left
                 ·
                  simp only [Act.put, List.setIfInBounds_toArray, List.set_cons_zero, List.set_cons_succ, i64_w, i32_w]
                  rfl
                 refine done_ (done_of HT_.out (by kernel_rfl)) ?_
                 try go_wp2
                 go_ret
                 exact ⟨by first | rfl | (simp [errW_none, errW_some] <;> rfl) | (simp [*, errW_none, errW_some] <;> rfl), bl HB⟩
                rw [if_neg c27] at H
                exact absurd H (by simp)
               rw [if_neg c26] at H
               have c26b0 : decide (x6_4 < (((rd_T40 ((rd_T30 l0_0 x3_2).f4) x5_3).f0).length : Int)) = false := decide_eq_false c26
               clear c26
               have H' := Aside0.mk H
               clear H
               have hnb38 := NB441_436.out
               have hnc38 := NB436_441.out
               obtain ⟨hcz39_0, hcz39_1, hcz39_2, hcz39_3, hcz39_4⟩ := bk5 BK441.out
               have hfz39_0 := bf BK441.out
               have p443 : 0 ≤ (x5_3 : Int) := of_decide_eq_true (by assumption)
               have q443 : x5_3 < (((rd_T30 l0_0 x3_2).f4).length : Int) := of_decide_eq_true (by assumption)
               obtain ⟨ad443, A443_0, c443_0, e443, hx443_0, hl443_0, hi443_0⟩ := at_T40 HR440_4.out x5_3 p443 q443
               cases e443
               replace hx443_0 := (HB.out.cell (World.block_lt_of_cell? w _ hx443_0)).trans hx443_0
               have HR443_0 := Aside0.mk hi443_0
               have HC443_0 := Aside0.mk hl443_0
               clear hi443_0 hl443_0
               replace p443 := eq_true p443
               replace q443 := eq_true q443
               go_wp2
               go_roundg k4
               case measure => have := HJ1.out; have := HK2.out; have := HK3.out; have := HK4.out; omega
               case rel => exact ⟨(wrap64 (x5_3 + 1)), (by first | rfl | (simp; done) | (simp [*]; done)), H', ⟨by have := HJ1.out; have := HK2.out; have := HK3.out; have := HK4.out; omega⟩, ⟨bx BK436.out⟩, ⟨bx BK441.out⟩, ⟨bl HB⟩⟩
              rw [if_neg c25] at H
              exact absurd H (by simp)
             rw [if_neg c24] at H
             exact absurd H (by simp)
          rw [if_neg c21] at H
          have c21b0 : decide (x5_3 < (((rd_T30 l0_0 x3_2).f4).length : Int)) = false := decide_eq_false c21
          clear c21
          have H' := Aside0.mk H
          clear H
          have hnb40 := NB441_436.out
          have hnc40 := NB436_441.out
          obtain ⟨hcz41_0, hcz41_1, hcz41_2, hcz41_3, hcz41_4⟩ := bk5 BK441.out
          have hfz41_0 := bf BK441.out
          go_wp2
          go_roundg k3
          case measure => have := HJ1.out; have := HK2.out; have := HK3.out; omega
          case rel => exact ⟨(wrap64 (x3_2 + 1)), (by first | rfl | (simp; done) | (simp [*]; done)), H', ⟨by have := HJ1.out; have := HK2.out; have := HK3.out; omega⟩, ⟨bx BK436.out⟩, ⟨bl HB⟩⟩
       replace c15 := Bool.eq_false_iff.mpr c15
       subst c15
       have H1 : (some 5) = some r := by rw [if_neg (show ¬ (false = true) by decide)] at H; exact H
       clear H
       have H := H1
       clear H1
       obtain rfl := Option.some.inj H
       have hcz42_0 := bk1 BK436.out
       have hfz42_0 := bf BK436.out
       have p440 : 0 ≤ (x3_2 : Int) := of_decide_eq_true (by assumption)
       have q440 : x3_2 < (l0_0.length : Int) := of_decide_eq_true (by assumption)
       obtain ⟨ad440, A440_0, c440_0, A440_1, c440_1, A440_4, c440_4, e440, hx440_0, hx440_1, hx440_2, hx440_3, hx440_4, hl440_0, hi440_0, hl440_1, hi440_1, hl440_4, hi440_4⟩ := at_T30 HR0_0.out x3_2 p440 q440
       cases e440
       replace hx440_0 := (HB.out.cell (World.block_lt_of_cell? w _ hx440_0)).trans hx440_0
       replace hx440_1 := (HB.out.cell (World.block_lt_of_cell? w _ hx440_1)).trans hx440_1
       replace hx440_2 := (HB.out.cell (World.block_lt_of_cell? w _ hx440_2)).trans hx440_2
       replace hx440_3 := (HB.out.cell (World.block_lt_of_cell? w _ hx440_3)).trans hx440_3
       replace hx440_4 := (HB.out.cell (World.block_lt_of_cell? w _ hx440_4)).trans hx440_4
       have HR440_0 := Aside0.mk hi440_0
       have HC440_0 := Aside0.mk hl440_0
       clear hi440_0 hl440_0
       have HR440_1 := Aside0.mk hi440_1
       have HC440_1 := Aside0.mk hl440_1
       clear hi440_1 hl440_1
       have HR440_4 := Aside0.mk hi440_4
       have HC440_4 := Aside0.mk hl440_4
       clear hi440_4 hl440_4
       replace p440 := eq_true p440
       replace q440 := eq_true q440
       go_wp2_with (first | ((with_reducible refine gate_dst (N := 4) rfl ?_); refine box_event ?hg (N := 4) ?hd (cs := #[.slice none 0 0, .slice none 0 0, .int .i64 0, .int .i64 0, .slice none 0 0]) (t := 30) ?hr ?_; (case hd => rfl); (case hg => rfl); (case hr => first | (go_simp; done) | (go_simp; rfl)); intro gb441 hg w43 hbox hb; have BK441 := Aside0.mk (hbox); have GW441 := ge hg (bl HB); have GE441 := ge hg (bl HB); replace HB := Aside0.mk (below_step (bl HB) hb); have NB436_441 := Aside0.mk ((by rw [hg]; exact Nat.ne_of_lt (blk_lt (g := gb436) (o := .cells #[.slice (some ad440) l0_0.length c0_0] 24 (0, 0)) (bx BK436.out)) : gb436 ≠ gb441)); have NB441_436 := Aside0.mk ((by rw [hg]; exact Nat.ne_of_gt (blk_lt (g := gb436) (o := .cells #[.slice (some ad440) l0_0.length c0_0] 24 (0, 0)) (bx BK436.out)) : gb441 ≠ gb436)); replace BK436 := Aside0.mk (blk_below (bx BK436.out) hb); clear hb hbox hg; have hnb44 := NB441_436.out; have hnc44 := NB436_441.out; obtain ⟨hcz45_0, hcz45_1, hcz45_2, hcz45_3, hcz45_4⟩ := bk5 BK441.out; have hfz45_0 := bf BK441.out) | ((with_reducible refine gate_callee (f := 57) rfl ?_); refine goesL_ (some 41) rfl rfl Tryd.func57 (by kernel_rfl) rfl #[.agg #[.slice A440_0 ((rd_T30 l0_0 x3_2).f0).length c440_0, .slice A440_1 ((rd_T30 l0_0 x3_2).f1).length c440_1, .int .i64 ((rd_T30 l0_0 x3_2).f2), .int .i64 ((rd_T30 l0_0 x3_2).f3), .slice A440_4 ((rd_T30 l0_0 x3_2).f4).length c440_4]] rfl (by (try simp only [List.map_toArray, List.map_cons, List.map_nil]); first | done | rfl) ?_; (with_reducible refine (portolanref04_Func.calls k2 _ _ ((rd_T30 l0_0 x3_2).f0) _ _ ((rd_T30 l0_0 x3_2).f1) ((rd_T30 l0_0 x3_2).f2) ((rd_T30 l0_0 x3_2).f3) _ _ ((rd_T30 l0_0 x3_2).f4) false _ ?side1 ?side2 ?side3 ?side4 ?side5 ?side6 A14.out).mono ?_); (case side1 => exact Kd.C_below HR440_0.out (bl HB)); (case side2 => exact HC440_0.out); (case side3 => exact Kd.C_below HR440_1.out (bl HB)); (case side4 => exact HC440_1.out); (case side5 => exact Kd.C_below HR440_4.out (bl HB)); (case side6 => exact HC440_4.out); rintro e w46 ⟨rfl, hb⟩; refine ⟨_, rfl, ?_⟩; replace BK436 := Aside0.mk (blk_below (g := gb436) (o := .cells #[.slice (some ad440) l0_0.length c0_0] 24 (0, 0)) (by refine bp ?_; refine blk_far ?_ NB436_441.out _; refine bp ?_; refine blk_far ?_ NB436_441.out _; refine bp ?_; refine blk_far ?_ NB436_441.out _; refine bp ?_; refine blk_far ?_ NB436_441.out _; refine bp ?_; refine blk_far ?_ NB436_441.out _; refine bp ?_; exact BK436.out) hb); replace BK441 := Aside0.mk (blk_below (g := gb441) (o := .cells #[.slice A440_0 ((rd_T30 l0_0 x3_2).f0).length c440_0, .slice A440_1 ((rd_T30 l0_0 x3_2).f1).length c440_1, .int .i64 ((rd_T30 l0_0 x3_2).f2), .int .i64 ((rd_T30 l0_0 x3_2).f3), .slice A440_4 ((rd_T30 l0_0 x3_2).f4).length c440_4] 30 (0, 0)) (by refine bp ?_; refine blk_put (cs := #[.slice A440_0 ((rd_T30 l0_0 x3_2).f0).length c440_0, .slice A440_1 ((rd_T30 l0_0 x3_2).f1).length c440_1, .int .i64 ((rd_T30 l0_0 x3_2).f2), .int .i64 ((rd_T30 l0_0 x3_2).f3), .slice none 0 0]) ?_ 4 _ rfl; refine bp ?_; refine blk_put (cs := #[.slice A440_0 ((rd_T30 l0_0 x3_2).f0).length c440_0, .slice A440_1 ((rd_T30 l0_0 x3_2).f1).length c440_1, .int .i64 ((rd_T30 l0_0 x3_2).f2), .int .i64 0, .slice none 0 0]) ?_ 3 _ rfl; refine bp ?_; refine blk_put (cs := #[.slice A440_0 ((rd_T30 l0_0 x3_2).f0).length c440_0, .slice A440_1 ((rd_T30 l0_0 x3_2).f1).length c440_1, .int .i64 0, .int .i64 0, .slice none 0 0]) ?_ 2 _ rfl; refine bp ?_; refine blk_put (cs := #[.slice A440_0 ((rd_T30 l0_0 x3_2).f0).length c440_0, .slice none 0 0, .int .i64 0, .int .i64 0, .slice none 0 0]) ?_ 1 _ rfl; refine bp ?_; refine blk_put (cs := #[.slice none 0 0, .slice none 0 0, .int .i64 0, .int .i64 0, .slice none 0 0]) ?_ 0 _ rfl; refine bp ?_; exact BK441.out) hb); replace HB := Aside0.mk (below_step (bl HB) hb); (try clear hb); (try clear hb2); (try clear hk); (try clear hi)))
       go_ret
       exact ⟨by first | rfl | (simp [errW_none, errW_some] <;> rfl) | (simp [*, errW_none, errW_some] <;> rfl), bl HB⟩
      rw [if_neg c13] at H
      exact absurd H (by simp)
     rw [if_neg c12] at H
     have c12b0 : decide (x3_2 < (l0_0.length : Int)) = false := decide_eq_false c12
     clear c12
     obtain rfl := Option.some.inj H
     have hcz47_0 := bk1 BK436.out
     have hfz47_0 := bf BK436.out
     go_wp2
     go_ret
     exact ⟨by first | rfl | (simp [errW_none, errW_some] <;> rfl) | (simp [*, errW_none, errW_some] <;> rfl), bl HB⟩
end Go.Proofs.YtdmimhjmbdkhmaaDoor.X
