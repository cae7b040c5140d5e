/- Part of a proof about the Go function named in the last text of this claim. -/
import Derived.Test.YtdmimhjmbdkhmaaDoorZw
import Derived.Test.YtdmimhjmbdkhmaaDoorXx0
import Derived.Test.YtdmimhjmbdkhmaaDoorXx8
import Derived.Test.YtdmimhjmbdkhmaaDoorXx9
import Derived.Test.YtdmimhjmbdkhmaaDoorXx11
set_option linter.unusedVariables false
set_option linter.unusedSimpArgs false
namespace Go.Proofs.YtdmimhjmbdkhmaaDoor.X
open Go.RowKit Go.Proofs.YtdmimhjmbdkhmaaDoorW.PrintWords Go.Proofs.YtdmimhjmbdkhmaaDoorW.PrintLast Go.Proofs.YtdmimhjmbdkhmaaDoorW.PrintMore
attribute [local go_sem] max2_int min2_int max_two min_two max_three min_three max_four min_four
set_option linter.unusedVariables false
set_option linter.unusedSimpArgs false
mutual
def portolanref04_Check.j0 : Nat → Bool → List (S30) → Option (Int)
 | 0, _, _ => none
 | k + 1, x27, x441000 => if x27 = true then (some 5) else (portolanref04_Check.l0 k 0 x441000)
def portolanref04_Check.l0 : Nat → Int → List (S30) → Option (Int)
 | 0, _, _ => none
 | k + 1, x3, x441000 => if x3 < (x441000.length : Int) then (if 0 ≤ x3 then ((portolanref04_Func.f k ((rd_T30 x441000 x3).f0) ((rd_T30 x441000 x3).f1) ((rd_T30 x441000 x3).f2) ((rd_T30 x441000 x3).f3) ((rd_T30 x441000 x3).f4)).bind fun t446 => (if t446 = true then (portolanref04_Check.l1 k x3 0 x441000 ((rd_T30 x441000 x3).f0) ((rd_T30 x441000 x3).f1) ((rd_T30 x441000 x3).f2) ((rd_T30 x441000 x3).f3) ((rd_T30 x441000 x3).f4)) else (some 5))) else (none)) else (some 0)
def portolanref04_Check.l1 : Nat → Int → Int → List (S30) → List Int → List Int → Int → Int → List (S40) → Option (Int)
 | 0, _, _, _, _, _, _, _, _ => none
 | k + 1, x3, x5, x441000, x446000, x446001, x446002, x446003, x446004 => if x5 < (x446004.length : Int) then (portolanref04_Check.l2 k x3 x5 0 x441000 x446000 x446001 x446002 x446003 x446004) else (portolanref04_Check.l0 k (wrap64 (x3 + 1)) x441000)
def portolanref04_Check.l2 : Nat → Int → Int → Int → List (S30) → List Int → List Int → Int → Int → List (S40) → Option (Int)
 | 0, _, _, _, _, _, _, _, _, _ => none
 | k + 1, x3, x5, x6, x441000, x446000, x446001, x446002, x446003, x446004 => if 0 ≤ x5 then (if x5 < (x446004.length : Int) then (if x6 < (((rd_T40 x446004 x5).f0).length : Int) then (if 0 ≤ x6 then ((portolanref04_Ins.f k x441000 x3 ((rd_T44 ((rd_T40 x446004 x5).f0) x6).f0) ((rd_T44 ((rd_T40 x446004 x5).f0) x6).f1) ((rd_T44 ((rd_T40 x446004 x5).f0) x6).f2) ((rd_T44 ((rd_T40 x446004 x5).f0) x6).f3) ((rd_T44 ((rd_T40 x446004 x5).f0) x6).f4) ((rd_T44 ((rd_T40 x446004 x5).f0) x6).f5) ((rd_T44 ((rd_T40 x446004 x5).f0) x6).f6)).bind fun t450 => (if t450 = true then (portolanref04_Check.l2 k x3 x5 (wrap64 (x6 + 1)) x441000 x446000 x446001 x446002 x446003 x446004) else (some 5))) else (none)) else (portolanref04_Check.l1 k x3 (wrap64 (x5 + 1)) x441000 x446000 x446001 x446002 x446003 x446004)) else (none)) else (none)
end
def portolanref04_Check.f (k : Nat) (l0_0 : List (S30)) : Option (Int) := (portolanref04_within.f (l0_0.length : Int) 1 8).bind fun t441 => (if t441 = true then (if 0 < (l0_0.length : Int) then (if ((rd_T30 l0_0 0).f2) = 0 then (portolanref04_Check.j0 k (((rd_T30 l0_0 0).f3) != 0) l0_0) else (portolanref04_Check.j0 k true l0_0)) else (none)) else (portolanref04_Check.j0 k true l0_0))
def portolanref04_Check.T15 : Bool × List (List Nat × List Nat) := (true, [([], []), ([], []), ([], []), ([2], [2]), ([], []), ([3, 4], [3, 4]), ([5], [5]), ([6], [6]), ([], []), ([7, 8], [7, 8]), ([9], [9]), ([0, 1, 10], [0, 1, 10]), ([11], [11])])
def portolanref04_Check.B15 : List Nat := [0, 0, 0, 4, 0, 28, 60, 124, 0, 508, 1020, 2047, 4095]
theorem portolanref04_Check.tab15 : rtab .any (opsOf Tryd.f35 15) = portolanref04_Check.T15 := by kernel_rfl
theorem portolanref04_Check.bits15 : waitsOk portolanref04_Check.T15.2 portolanref04_Check.B15 = true := by kernel_rfl
set_option maxHeartbeats 8000000 in
set_option maxRecDepth 100000 in
theorem portolanref04_Check.calls (k : Nat) (A0_0 : Option Addr) (c0_0 : Nat) (l0_0 : List (S30)) (r : Int) (w : World) (hr0_0 : Kd.C k30 w A0_0 l0_0.length l0_0) (hc0_0 : l0_0.length ≤ c0_0) (h : portolanref04_Check.f k l0_0 = some r) :
 Calls Tryd.prog 35 #[.agg #[.slice A0_0 l0_0.length c0_0]] w fun e w' => e = .returned (.int .i64 r) ∧ Below w.heap.size w w' := by
 have hu24 := Tryd.underlying24
 have hu30 := Tryd.underlying30
 have hu44 := Tryd.underlying44
 have HR0_0 := Aside0.mk hr0_0
 have HC0_0 := Aside0.mk hc0_0
 clear hr0_0 hc0_0
 have HB := Aside0.mk (Below.refl w.heap.size w)
 have H : ((portolanref04_within.f (l0_0.length : Int) 1 8).bind fun t441 => (if t441 = true then (if 0 < (l0_0.length : Int) then (if ((rd_T30 l0_0 0).f2) = 0 then (portolanref04_Check.j0 k (((rd_T30 l0_0 0).f3) != 0) l0_0) else (portolanref04_Check.j0 k true l0_0)) else (none)) else (portolanref04_Check.j0 k true l0_0))) = some r := h
 clear h
 have HC2 := Aside0.mk H
 clear H
 go_enter Tryd.func35, Tryd.ntmps35
 go_upto_region 1 with (first | ((with_reducible refine gate_dst (N := 1) rfl ?_); refine box_event ?hg (N := 1) ?hd (cs := #[.slice A0_0 l0_0.length c0_0]) (t := 24) ?hr ?_; (case hd => rfl); (case hg => rfl); (case hr => first | (go_simp; done) | (go_simp; rfl)); intro gb440 hg w3 hbox hb; have BK440 := Aside0.mk (hbox); have GW440 := ge hg (bl HB); have GE440 := ge hg (bl HB); replace HB := Aside0.mk (below_step (bl HB) hb); clear hb hbox hg))
 (try simp only [Act.put, List.setIfInBounds_toArray, List.set_cons_zero, List.set_cons_succ])
 go_cut [27] (fun v27 wc => ∃ (kq : Nat) (x27_1 : Bool), v27 = .bool x27_1 ∧ Aside0 (portolanref04_Check.j0 kq x27_1 l0_0 = some r) ∧ Aside0 (kq ≤ k) ∧ Aside0 (wc.heap[gb440]? = some (.cells #[(.slice A0_0 l0_0.length c0_0)] 24 (0, 0))) ∧ Aside0 (Below w.heap.size w wc))
 case first =>
  have H := HC2.out
  clear HC2
  replace H := Option.bind_eq_some_iff.mp H
  obtain ⟨t441, A40, H⟩ := H
  replace H : (if t441 = true then (if 0 < (l0_0.length : Int) then (if ((rd_T30 l0_0 0).f2) = 0 then (portolanref04_Check.j0 k (((rd_T30 l0_0 0).f3) != 0) l0_0) else (portolanref04_Check.j0 k true l0_0)) else (none)) else (portolanref04_Check.j0 k true l0_0)) = some r := H
  have A4 := Aside0.mk A40
  clear A40
  by_cases c5 : t441 = true
  ·
   subst c5
   have H1 : (if 0 < (l0_0.length : Int) then (if ((rd_T30 l0_0 0).f2) = 0 then (portolanref04_Check.j0 k (((rd_T30 l0_0 0).f3) != 0) l0_0) else (portolanref04_Check.j0 k true l0_0)) else (none)) = some r := by rw [if_pos rfl] at H; exact H
   clear H
   have H := H1
   clear H1
   by_cases c6 : 0 < (l0_0.length : Int)
   ·
    rw [if_pos c6] at H
    have c6b0 : decide (0 < (l0_0.length : Int)) = true := decide_eq_true c6
    have c6b1 : decide (0 < l0_0.length) = true := decide_eq_true (by omega)
    clear c6
    (first | rw [c6b0] | (simp only [i64_w, i32_w]; rw [c6b0]) | skip)
    by_cases c7 : ((rd_T30 l0_0 0).f2) = 0
    ·
     rw [if_pos c7] at H
     have c7b0 : (((rd_T30 l0_0 0).f2) == 0) = true := beq_iff_eq.mpr c7
     have c7b1 : (((rd_T30 l0_0 0).f2) != 0) = false := bne_eq_false_iff_eq.mpr c7
     clear c7
     have H' := Aside0.mk H
     clear H
     have hcz8_0 := bk1 BK440.out
     have hfz8_0 := bf BK440.out
     go_wp2_with (first | ((with_reducible refine gate_callee (f := 56) rfl ?_); refine goesL_ (some 10) rfl rfl Tryd.func56 (by kernel_rfl) rfl #[.int .i64 (l0_0.length : Int), .int .i64 1, .int .i64 8] rfl (by (try simp only [List.map_toArray, List.map_cons, List.map_nil]); first | done | rfl) ?_; (with_reducible refine (portolanref04_within.calls (l0_0.length : Int) 1 8 true _ A4.out).mono ?_); rintro e w' ⟨rfl, ⟨nd, rfl⟩⟩; refine ⟨_, rfl, ?_⟩; have p442 : 0 ≤ (0 : Int) := (by omega); have q442 : 0 < (l0_0.length : Int) := of_decide_eq_true (by assumption); obtain ⟨ad442, A442_0, c442_0, A442_1, c442_1, A442_4, c442_4, e442, hx442_0, hx442_1, hx442_2, hx442_3, hx442_4, hl442_0, hi442_0, hl442_1, hi442_1, hl442_4, hi442_4⟩ := at_T30 HR0_0.out 0 p442 q442; cases e442; have qi442 : (0 < l0_0.length) = True := eq_true (by omega); (try rw [show ((0 : Int)).toNat = 0 from rfl] at hx442_0); (try rw [show 0 * 5 = 0 from rfl] at hx442_0); (try rw [Addr.add_zero'] at hx442_0); (try rw [show ((0 : Int)).toNat = 0 from rfl] at hx442_1); (try rw [show 0 * 5 = 0 from rfl] at hx442_1); (try rw [Addr.add_zero'] at hx442_1); (try rw [show ((0 : Int)).toNat = 0 from rfl] at hx442_2); (try rw [show 0 * 5 = 0 from rfl] at hx442_2); (try rw [Addr.add_zero'] at hx442_2); (try rw [show ((0 : Int)).toNat = 0 from rfl] at hx442_3); (try rw [show 0 * 5 = 0 from rfl] at hx442_3); (try rw [Addr.add_zero'] at hx442_3); (try rw [show ((0 : Int)).toNat = 0 from rfl] at hx442_4); (try rw [show 0 * 5 = 0 from rfl] at hx442_4); (try rw [Addr.add_zero'] at hx442_4); replace hx442_0 := (HB.out.cell (World.block_lt_of_cell? w _ hx442_0)).trans hx442_0; replace hx442_1 := (HB.out.cell (World.block_lt_of_cell? w _ hx442_1)).trans hx442_1; replace hx442_2 := (HB.out.cell (World.block_lt_of_cell? w _ hx442_2)).trans hx442_2; replace hx442_3 := (HB.out.cell (World.block_lt_of_cell? w _ hx442_3)).trans hx442_3; replace hx442_4 := (HB.out.cell (World.block_lt_of_cell? w _ hx442_4)).trans hx442_4; have HR442_0 := Aside0.mk hi442_0; have HC442_0 := Aside0.mk hl442_0; clear hi442_0 hl442_0; have HR442_1 := Aside0.mk hi442_1; have HC442_1 := Aside0.mk hl442_1; clear hi442_1 hl442_1; have HR442_4 := Aside0.mk hi442_4; have HC442_4 := Aside0.mk hl442_4; clear hi442_4 hl442_4; replace p442 := eq_true p442; replace q442 := eq_true q442; have p443 : 0 ≤ (0 : Int) := (by omega); have q443 : 0 < (l0_0.length : Int) := of_decide_eq_true (by assumption); obtain ⟨ad443, A443_0, c443_0, A443_1, c443_1, A443_4, c443_4, e443, hx443_0, hx443_1, hx443_2, hx443_3, hx443_4, hl443_0, hi443_0, hl443_1, hi443_1, hl443_4, hi443_4⟩ := at_T30 HR0_0.out 0 p443 q443; obtain rfl : ad442 = ad443 := (by injection e443); have qi443 : (0 < l0_0.length) = True := eq_true (by omega); (try rw [show ((0 : Int)).toNat = 0 from rfl] at hx443_0); (try rw [show 0 * 5 = 0 from rfl] at hx443_0); (try rw [Addr.add_zero'] at hx443_0); (try rw [show ((0 : Int)).toNat = 0 from rfl] at hx443_1); (try rw [show 0 * 5 = 0 from rfl] at hx443_1); (try rw [Addr.add_zero'] at hx443_1); (try rw [show ((0 : Int)).toNat = 0 from rfl] at hx443_2); (try rw [show 0 * 5 = 0 from rfl] at hx443_2); (try rw [Addr.add_zero'] at hx443_2); (try rw [show ((0 : Int)).toNat = 0 from rfl] at hx443_3); (try rw [show 0 * 5 = 0 from rfl] at hx443_3); (try rw [Addr.add_zero'] at hx443_3); (try rw [show ((0 : Int)).toNat = 0 from rfl] at hx443_4); (try rw [show 0 * 5 = 0 from rfl] at hx443_4); (try rw [Addr.add_zero'] at hx443_4); replace hx443_0 := (HB.out.cell (World.block_lt_of_cell? w _ hx443_0)).trans hx443_0; replace hx443_1 := (HB.out.cell (World.block_lt_of_cell? w _ hx443_1)).trans hx443_1; replace hx443_2 := (HB.out.cell (World.block_lt_of_cell? w _ hx443_2)).trans hx443_2; replace hx443_3 := (HB.out.cell (World.block_lt_of_cell? w _ hx443_3)).trans hx443_3; replace hx443_4 := (HB.out.cell (World.block_lt_of_cell? w _ hx443_4)).trans hx443_4; have HR443_0 := Aside0.mk hi443_0; have HC443_0 := Aside0.mk hl443_0; clear hi443_0 hl443_0; have HR443_1 := Aside0.mk hi443_1; have HC443_1 := Aside0.mk hl443_1; clear hi443_1 hl443_1; have HR443_4 := Aside0.mk hi443_4; have HC443_4 := Aside0.mk hl443_4; clear hi443_4 hl443_4; replace p443 := eq_true p443; replace q443 := eq_true q443; have ea_ := Option.some.inj (hx442_0.symm.trans hx443_0); injection ea_ with ea_ en_ ec_; subst ea_; subst ec_; clear en_; have ea_ := Option.some.inj (hx442_1.symm.trans hx443_1); injection ea_ with ea_ en_ ec_; subst ea_; subst ec_; clear en_; have ea_ := Option.some.inj (hx442_4.symm.trans hx443_4); injection ea_ with ea_ en_ ec_; subst ea_; subst ec_; clear en_))
     go_meet
     case rel => exact ⟨_, ((((rd_T30 l0_0 0).f3) != 0)), (by first | rfl | (simp; done) | (simp [*]; done)), H', ⟨by first | omega | exact Nat.le_refl _⟩, ⟨bx BK440.out⟩, ⟨bl HB⟩⟩
    rw [if_neg c7] at H
    have c7b0 : (((rd_T30 l0_0 0).f2) == 0) = false := beq_eq_false_iff_ne.mpr c7
    have c7b1 : (((rd_T30 l0_0 0).f2) != 0) = true := bne_iff_ne.mpr c7
    have H' := Aside0.mk H
    clear H
    have hcz9_0 := bk1 BK440.out
    have hfz9_0 := bf BK440.out
    go_wp2_with (first | ((with_reducible refine gate_callee (f := 56) rfl ?_); refine goesL_ (some 10) rfl rfl Tryd.func56 (by kernel_rfl) rfl #[.int .i64 (l0_0.length : Int), .int .i64 1, .int .i64 8] rfl (by (try simp only [List.map_toArray, List.map_cons, List.map_nil]); first | done | rfl) ?_; (with_reducible refine (portolanref04_within.calls (l0_0.length : Int) 1 8 true _ A4.out).mono ?_); rintro e w' ⟨rfl, ⟨nd, rfl⟩⟩; refine ⟨_, rfl, ?_⟩; have p442 : 0 ≤ (0 : Int) := (by omega); have q442 : 0 < (l0_0.length : Int) := of_decide_eq_true (by assumption); obtain ⟨ad442, A442_0, c442_0, A442_1, c442_1, A442_4, c442_4, e442, hx442_0, hx442_1, hx442_2, hx442_3, hx442_4, hl442_0, hi442_0, hl442_1, hi442_1, hl442_4, hi442_4⟩ := at_T30 HR0_0.out 0 p442 q442; cases e442; have qi442 : (0 < l0_0.length) = True := eq_true (by omega); (try rw [show ((0 : Int)).toNat = 0 from rfl] at hx442_0); (try rw [show 0 * 5 = 0 from rfl] at hx442_0); (try rw [Addr.add_zero'] at hx442_0); (try rw [show ((0 : Int)).toNat = 0 from rfl] at hx442_1); (try rw [show 0 * 5 = 0 from rfl] at hx442_1); (try rw [Addr.add_zero'] at hx442_1); (try rw [show ((0 : Int)).toNat = 0 from rfl] at hx442_2); (try rw [show 0 * 5 = 0 from rfl] at hx442_2); (try rw [Addr.add_zero'] at hx442_2); (try rw [show ((0 : Int)).toNat = 0 from rfl] at hx442_3); (try rw [show 0 * 5 = 0 from rfl] at hx442_3); (try rw [Addr.add_zero'] at hx442_3); (try rw [show ((0 : Int)).toNat = 0 from rfl] at hx442_4); (try rw [show 0 * 5 = 0 from rfl] at hx442_4); (try rw [Addr.add_zero'] at hx442_4); replace hx442_0 := (HB.out.cell (World.block_lt_of_cell? w _ hx442_0)).trans hx442_0; replace hx442_1 := (HB.out.cell (World.block_lt_of_cell? w _ hx442_1)).trans hx442_1; replace hx442_2 := (HB.out.cell (World.block_lt_of_cell? w _ hx442_2)).trans hx442_2; replace hx442_3 := (HB.out.cell (World.block_lt_of_cell? w _ hx442_3)).trans hx442_3; replace hx442_4 := (HB.out.cell (World.block_lt_of_cell? w _ hx442_4)).trans hx442_4; have HR442_0 := Aside0.mk hi442_0; have HC442_0 := Aside0.mk hl442_0; clear hi442_0 hl442_0; have HR442_1 := Aside0.mk hi442_1; have HC442_1 := Aside0.mk hl442_1; clear hi442_1 hl442_1; have HR442_4 := Aside0.mk hi442_4; have HC442_4 := Aside0.mk hl442_4; clear hi442_4 hl442_4; replace p442 := eq_true p442; replace q442 := eq_true q442))
    go_meet
    case rel => exact ⟨_, (true), (by first | rfl | (simp; done) | (simp [*]; done)), H', ⟨by first | omega | exact Nat.le_refl _⟩, ⟨bx BK440.out⟩, ⟨bl HB⟩⟩
   rw [if_neg c6] at H
   exact absurd H (by simp)
  replace c5 := Bool.eq_false_iff.mpr c5
  subst c5
  have H1 : (portolanref04_Check.j0 k true l0_0) = some r := by rw [if_neg (show ¬ (false = true) by decide)] at H; exact H
  clear H
  have H := H1
  clear H1
  have H' := Aside0.mk H
  clear H
  have hcz10_0 := bk1 BK440.out
  have hfz10_0 := bf BK440.out
  go_wp2_with (first | ((with_reducible refine gate_callee (f := 56) rfl ?_); refine goesL_ (some 10) rfl rfl Tryd.func56 (by kernel_rfl) rfl #[.int .i64 (l0_0.length : Int), .int .i64 1, .int .i64 8] rfl (by (try simp only [List.map_toArray, List.map_cons, List.map_nil]); first | done | rfl) ?_; (with_reducible refine (portolanref04_within.calls (l0_0.length : Int) 1 8 false _ A4.out).mono ?_); rintro e w' ⟨rfl, ⟨nd, rfl⟩⟩; refine ⟨_, rfl, ?_⟩))
  go_meet
  case rel => exact ⟨_, (true), (by first | rfl | (simp; done) | (simp [*]; done)), H', ⟨by first | omega | exact Nat.le_refl _⟩, ⟨bx BK440.out⟩, ⟨bl HB⟩⟩
 case rest =>
  clear HC2
  try clear p2
  try clear c3
  try clear c4
  try clear p4
  try clear q4
  try clear hx4
  try clear qi4
  try clear c5
  try clear c6
  try clear c6b0
  try clear c6b1
  try clear c7
  try clear c7b0
  try clear c7b1
  try clear hcz10_0
  try clear hcz8_0
  try clear hcz9_0
  try clear hfz10_0
  try clear hfz8_0
  try clear hfz9_0
  try clear hx442_0
  try clear hx442_1
  try clear hx442_2
  try clear hx442_3
  try clear hx442_4
  try clear hx443_0
  try clear hx443_1
  try clear hx443_2
  try clear hx443_3
  try clear hx443_4
  try clear p442
  try clear p443
  try clear q442
  try clear q443
  obtain ⟨kq, x27_1, rfl, HA, HJ1, BK440, HB⟩ := hcut
  cases kq with
  | zero => exact absurd HA.out (by simp [portolanref04_Check.j0])
  | succ kj1 =>
   have H := HA.out
   clear HA
   simp only [portolanref04_Check.j0] at H
   by_cases c11 : x27_1 = true
   ·
    subst c11
    have H1 : (some 5) = some r := by rw [if_pos rfl] at H; exact H
    clear H
    have H := H1
    clear H1
    obtain rfl := Option.some.inj H
    go_wp2
    go_ret
    exact ⟨by first | rfl | (simp [errW_none, errW_some] <;> rfl) | (simp [*, errW_none, errW_some] <;> rfl), bl HB⟩
   replace c11 := Bool.eq_false_iff.mpr c11
   subst c11
   have H1 : (portolanref04_Check.l0 kj1 0 l0_0) = some r := by rw [if_neg (show ¬ (false = true) by decide)] at H; exact H
   clear H
   have H := H1
   clear H1
   have H' := Aside0.mk H
   clear H
   go_wp2
   go_loopg [3] kj1 (fun kq v3 w' => ∃ (x3_2 : Int), v3 = .int .i64 x3_2 ∧ Aside0 (portolanref04_Check.l0 kq x3_2 l0_0 = some r) ∧ Aside0 (kq ≤ kj1) ∧ Aside0 (w'.heap[gb440]? = some (.cells #[(.slice A0_0 l0_0.length c0_0)] 24 (0, 0))) ∧ Aside0 (Below w.heap.size w w'))
   case atStart => exact ⟨(0), (by first | rfl | (simp; done) | (simp [*]; done)), H', ⟨Nat.le_refl _⟩, ⟨bx BK440.out⟩, ⟨bl HB⟩⟩
   case round =>
    clear H'
    try clear c1
    try clear p2
    try clear c3
    try clear c4
    try clear p4
    try clear q4
    try clear hx4
    try clear qi4
    try clear c5
    try clear c6
    try clear c6b0
    try clear c6b1
    try clear c7
    try clear c7b0
    try clear c7b1
    try clear c11
    try clear hcz10_0
    try clear hcz8_0
    try clear hcz9_0
    try clear hfz10_0
    try clear hfz8_0
    try clear hfz9_0
    try clear hx442_0
    try clear hx442_1
    try clear hx442_2
    try clear hx442_3
    try clear hx442_4
    try clear hx443_0
    try clear hx443_1
    try clear hx443_2
    try clear hx443_3
    try clear hx443_4
    try clear p2
    try clear p4
    try clear p442
    try clear p443
    try clear q4
    try clear q442
    try clear q443
    obtain ⟨x3_2, rfl, HA, HK2, BK440, HB⟩ := hrel
    cases gk with
    | zero => exact absurd HA.out (by simp [portolanref04_Check.l0])
    | succ k2 =>
     have H := HA.out
     clear HA
     simp only [portolanref04_Check.l0] at H
     by_cases c12 : x3_2 < (l0_0.length : Int)
     ·
      rw [if_pos c12] at H
      have c12b0 : decide (x3_2 < (l0_0.length : Int)) = true := decide_eq_true c12
      clear c12
      by_cases c13 : 0 ≤ x3_2
      ·
       rw [if_pos c13] at H
       have c13b0 : decide (0 ≤ x3_2) = true := decide_eq_true c13
       clear c13
       replace H := Option.bind_eq_some_iff.mp H
       obtain ⟨t446, A140, H⟩ := H
       replace H : (if t446 = true then (portolanref04_Check.l1 k2 x3_2 0 l0_0 ((rd_T30 l0_0 x3_2).f0) ((rd_T30 l0_0 x3_2).f1) ((rd_T30 l0_0 x3_2).f2) ((rd_T30 l0_0 x3_2).f3) ((rd_T30 l0_0 x3_2).f4)) else (some 5)) = some r := H
       have A14 := Aside0.mk A140
       clear A140
       by_cases c15 : t446 = true
       ·
        subst c15
        have H1 : (portolanref04_Check.l1 k2 x3_2 0 l0_0 ((rd_T30 l0_0 x3_2).f0) ((rd_T30 l0_0 x3_2).f1) ((rd_T30 l0_0 x3_2).f2) ((rd_T30 l0_0 x3_2).f3) ((rd_T30 l0_0 x3_2).f4)) = some r := by rw [if_pos rfl] at H; exact H
        clear H
        have H := H1
        clear H1
        have H' := Aside0.mk H
        clear H
        have hcz16_0 := bk1 BK440.out
        have hfz16_0 := bf BK440.out
        have p444 : 0 ≤ (x3_2 : Int) := of_decide_eq_true (by assumption)
        have q444 : x3_2 < (l0_0.length : Int) := of_decide_eq_true (by assumption)
        obtain ⟨ad444, A444_0, c444_0, A444_1, c444_1, A444_4, c444_4, e444, hx444_0, hx444_1, hx444_2, hx444_3, hx444_4, hl444_0, hi444_0, hl444_1, hi444_1, hl444_4, hi444_4⟩ := at_T30 HR0_0.out x3_2 p444 q444
        cases e444
        replace hx444_0 := (HB.out.cell (World.block_lt_of_cell? w _ hx444_0)).trans hx444_0
        replace hx444_1 := (HB.out.cell (World.block_lt_of_cell? w _ hx444_1)).trans hx444_1
        replace hx444_2 := (HB.out.cell (World.block_lt_of_cell? w _ hx444_2)).trans hx444_2
        replace hx444_3 := (HB.out.cell (World.block_lt_of_cell? w _ hx444_3)).trans hx444_3
        replace hx444_4 := (HB.out.cell (World.block_lt_of_cell? w _ hx444_4)).trans hx444_4
        have HR444_0 := Aside0.mk hi444_0
        have HC444_0 := Aside0.mk hl444_0
        clear hi444_0 hl444_0
        have HR444_1 := Aside0.mk hi444_1
        have HC444_1 := Aside0.mk hl444_1
        clear hi444_1 hl444_1
        have HR444_4 := Aside0.mk hi444_4
        have HC444_4 := Aside0.mk hl444_4
        clear hi444_4 hl444_4
        replace p444 := eq_true p444
        replace q444 := eq_true q444
        go_wp2_with (first | ((with_reducible refine gate_dst (N := 4) rfl ?_); refine box_event ?hg (N := 4) ?hd (cs := #[.slice none 0 0, .slice none 0 0, .int .i64 0, .int .i64 0, .slice none 0 0]) (t := 30) ?hr ?_; (case hd => rfl); (case hg => rfl); (case hr => first | (go_simp; done) | (go_simp; rfl)); intro gb445 hg w17 hbox hb; have BK445 := Aside0.mk (hbox); have GW445 := ge hg (bl HB); have GE445 := ge hg (bl HB); replace HB := Aside0.mk (below_step (bl HB) hb); have NB440_445 := Aside0.mk ((by rw [hg]; exact Nat.ne_of_lt (blk_lt (g := gb440) (o := .cells #[.slice (some ad444) l0_0.length c0_0] 24 (0, 0)) (bx BK440.out)) : gb440 ≠ gb445)); have NB445_440 := Aside0.mk ((by rw [hg]; exact Nat.ne_of_gt (blk_lt (g := gb440) (o := .cells #[.slice (some ad444) l0_0.length c0_0] 24 (0, 0)) (bx BK440.out)) : gb445 ≠ gb440)); replace BK440 := Aside0.mk (blk_below (bx BK440.out) hb); clear hb hbox hg; have hnb18 := NB445_440.out; have hnc18 := NB440_445.out; obtain ⟨hcz19_0, hcz19_1, hcz19_2, hcz19_3, hcz19_4⟩ := bk5 BK445.out; have hfz19_0 := bf BK445.out) | ((with_reducible refine gate_callee (f := 57) rfl ?_); refine goesL_ (some 41) rfl rfl Tryd.func57 (by kernel_rfl) rfl #[.agg #[.slice A444_0 ((rd_T30 l0_0 x3_2).f0).length c444_0, .slice A444_1 ((rd_T30 l0_0 x3_2).f1).length c444_1, .int .i64 ((rd_T30 l0_0 x3_2).f2), .int .i64 ((rd_T30 l0_0 x3_2).f3), .slice A444_4 ((rd_T30 l0_0 x3_2).f4).length c444_4]] rfl (by (try simp only [List.map_toArray, List.map_cons, List.map_nil]); first | done | rfl) ?_; (with_reducible refine (portolanref04_Func.calls k2 _ _ ((rd_T30 l0_0 x3_2).f0) _ _ ((rd_T30 l0_0 x3_2).f1) ((rd_T30 l0_0 x3_2).f2) ((rd_T30 l0_0 x3_2).f3) _ _ ((rd_T30 l0_0 x3_2).f4) true _ ?side1 ?side2 ?side3 ?side4 ?side5 ?side6 A14.out).mono ?_); (case side1 => exact Kd.C_below HR444_0.out (bl HB)); (case side2 => exact HC444_0.out); (case side3 => exact Kd.C_below HR444_1.out (bl HB)); (case side4 => exact HC444_1.out); (case side5 => exact Kd.C_below HR444_4.out (bl HB)); (case side6 => exact HC444_4.out); rintro e w20 ⟨rfl, hb⟩; refine ⟨_, rfl, ?_⟩; replace BK440 := Aside0.mk (blk_below (g := gb440) (o := .cells #[.slice (some ad444) l0_0.length c0_0] 24 (0, 0)) (by refine bp ?_; refine blk_far ?_ NB440_445.out _; refine bp ?_; refine blk_far ?_ NB440_445.out _; refine bp ?_; refine blk_far ?_ NB440_445.out _; refine bp ?_; refine blk_far ?_ NB440_445.out _; refine bp ?_; refine blk_far ?_ NB440_445.out _; refine bp ?_; exact BK440.out) hb); replace BK445 := Aside0.mk (blk_below (g := gb445) (o := .cells #[.slice A444_0 ((rd_T30 l0_0 x3_2).f0).length c444_0, .slice A444_1 ((rd_T30 l0_0 x3_2).f1).length c444_1, .int .i64 ((rd_T30 l0_0 x3_2).f2), .int .i64 ((rd_T30 l0_0 x3_2).f3), .slice A444_4 ((rd_T30 l0_0 x3_2).f4).length c444_4] 30 (0, 0)) (by refine bp ?_; refine blk_put (cs := #[.slice A444_0 ((rd_T30 l0_0 x3_2).f0).length c444_0, .slice A444_1 ((rd_T30 l0_0 x3_2).f1).length c444_1, .int .i64 ((rd_T30 l0_0 x3_2).f2), .int .i64 ((rd_T30 l0_0 x3_2).f3), .slice none 0 0]) ?_ 4 _ rfl; refine bp ?_; refine blk_put (cs := #[.slice A444_0 ((rd_T30 l0_0 x3_2).f0).length c444_0, .slice A444_1 ((rd_T30 l0_0 x3_2).f1).length c444_1, .int .i64 ((rd_T30 l0_0 x3_2).f2), .int .i64 0, .slice none 0 0]) ?_ 3 _ rfl; refine bp ?_; refine blk_put (cs := #[.slice A444_0 ((rd_T30 l0_0 x3_2).f0).length c444_0, .slice A444_1 ((rd_T30 l0_0 x3_2).f1).length c444_1, .int .i64 0, .int .i64 0, .slice none 0 0]) ?_ 2 _ rfl; refine bp ?_; refine blk_put (cs := #[.slice A444_0 ((rd_T30 l0_0 x3_2).f0).length c444_0, .slice none 0 0, .int .i64 0, .int .i64 0, .slice none 0 0]) ?_ 1 _ rfl; refine bp ?_; refine blk_put (cs := #[.slice none 0 0, .slice none 0 0, .int .i64 0, .int .i64 0, .slice none 0 0]) ?_ 0 _ rfl; refine bp ?_; exact BK445.out) hb); replace HB := Aside0.mk (below_step (bl HB) hb); (try clear hb); (try clear hb2); (try clear hk); (try clear hi)))
        go_loopg [5] k2 (fun kq v5 w' => ∃ (x5_3 : Int), v5 = .int .i64 x5_3 ∧ Aside0 (portolanref04_Check.l1 kq x3_2 x5_3 l0_0 ((rd_T30 l0_0 x3_2).f0) ((rd_T30 l0_0 x3_2).f1) ((rd_T30 l0_0 x3_2).f2) ((rd_T30 l0_0 x3_2).f3) ((rd_T30 l0_0 x3_2).f4) = some r) ∧ Aside0 (kq ≤ k2) ∧ Aside0 (w'.heap[gb440]? = some (.cells #[(.slice (some ad444) l0_0.length c0_0)] 24 (0, 0))) ∧ Aside0 (w'.heap[gb445]? = some (.cells #[(.slice A444_0 ((rd_T30 l0_0 x3_2).f0).length c444_0), (.slice A444_1 ((rd_T30 l0_0 x3_2).f1).length c444_1), .int .i64 ((rd_T30 l0_0 x3_2).f2), .int .i64 ((rd_T30 l0_0 x3_2).f3), (.slice A444_4 ((rd_T30 l0_0 x3_2).f4).length c444_4)] 30 (0, 0))) ∧ Aside0 (Below w.heap.size w w'))
        case atStart => exact ⟨(0), (by first | rfl | (simp; done) | (simp [*]; done)), H', ⟨Nat.le_refl _⟩, ⟨bx BK440.out⟩, ⟨bx BK445.out⟩, ⟨bl HB⟩⟩
        case round =>
         clear H'
         try clear c1
         try clear p2
         try clear c3
         try clear c4
         try clear p4
         try clear q4
         try clear hx4
         try clear qi4
         try clear c5
         try clear c6
         try clear c6b0
         try clear c6b1
         try clear c7
         try clear c7b0
         try clear c7b1
         try clear c11
         try clear c12
         try clear c12b0
         try clear c13
         try clear c13b0
         try clear c15
         try clear c18
         try clear hcz10_0
         try clear hcz16_0
         try clear hcz19_0 hcz19_1 hcz19_2 hcz19_3 hcz19_4
         try clear hcz8_0
         try clear hcz9_0
         try clear hfz10_0
         try clear hfz16_0
         try clear hfz19_0
         try clear hfz8_0
         try clear hfz9_0
         try clear hx442_0
         try clear hx442_1
         try clear hx442_2
         try clear hx442_3
         try clear hx442_4
         try clear hx443_0
         try clear hx443_1
         try clear hx443_2
         try clear hx443_3
         try clear hx443_4
         try clear hx444_0
         try clear hx444_1
         try clear hx444_2
         try clear hx444_3
         try clear hx444_4
         try clear p2
         try clear p4
         try clear p442
         try clear p443
         try clear p444
         try clear q4
         try clear q442
         try clear q443
         try clear q444
         obtain ⟨x5_3, rfl, HA, HK3, BK440, BK445, HB⟩ := hrel
         cases gk with
         | zero => exact absurd HA.out (by simp [portolanref04_Check.l1])
         | succ k3 =>
          have H := HA.out
          clear HA
          simp only [portolanref04_Check.l1] at H
          by_cases c21 : x5_3 < (((rd_T30 l0_0 x3_2).f4).length : Int)
          ·
           rw [if_pos c21] at H
           have c21b0 : decide (x5_3 < (((rd_T30 l0_0 x3_2).f4).length : Int)) = true := decide_eq_true c21
           clear c21
           have H' := Aside0.mk H
           clear H
           have hnb22 := NB445_440.out
           have hnc22 := NB440_445.out
           obtain ⟨hcz23_0, hcz23_1, hcz23_2, hcz23_3, hcz23_4⟩ := bk5 BK445.out
           have hfz23_0 := bf BK445.out
           go_wp2
           go_loopg [6] k3 (fun kq v6 w' => ∃ (x6_4 : Int), v6 = .int .i64 x6_4 ∧ Aside0 (portolanref04_Check.l2 kq x3_2 x5_3 x6_4 l0_0 ((rd_T30 l0_0 x3_2).f0) ((rd_T30 l0_0 x3_2).f1) ((rd_T30 l0_0 x3_2).f2) ((rd_T30 l0_0 x3_2).f3) ((rd_T30 l0_0 x3_2).f4) = some r) ∧ Aside0 (kq ≤ k3) ∧ Aside0 (w'.heap[gb440]? = some (.cells #[(.slice (some ad444) l0_0.length c0_0)] 24 (0, 0))) ∧ Aside0 (w'.heap[gb445]? = some (.cells #[(.slice A444_0 ((rd_T30 l0_0 x3_2).f0).length c444_0), (.slice A444_1 ((rd_T30 l0_0 x3_2).f1).length c444_1), .int .i64 ((rd_T30 l0_0 x3_2).f2), .int .i64 ((rd_T30 l0_0 x3_2).f3), (.slice A444_4 ((rd_T30 l0_0 x3_2).f4).length c444_4)] 30 (0, 0))) ∧ Aside0 (Below w.heap.size w w'))
           case atStart => exact ⟨(0), (by first | rfl | (simp; done) | (simp [*]; done)), H', ⟨Nat.le_refl _⟩, ⟨bx BK440.out⟩, ⟨bx BK445.out⟩, ⟨bl HB⟩⟩
           case round =>
            clear H'
            try clear c1
            try clear c2
            try clear p2
            try clear c3
            try clear c4
            try clear p4
            try clear q4
            try clear hx4
            try clear qi4
            try clear c5
            try clear c6
            try clear c6b0
            try clear c6b1
            try clear c7
            try clear c7b0
            try clear c7b1
            try clear c11
            try clear c12
            try clear c12b0
            try clear c13
            try clear c13b0
            try clear c15
            try clear c18
            try clear c21
            try clear c21b0
            try clear c22
            try clear hcz10_0
            try clear hcz16_0
            try clear hcz19_0 hcz19_1 hcz19_2 hcz19_3 hcz19_4
            try clear hcz23_0 hcz23_1 hcz23_2 hcz23_3 hcz23_4
            try clear hcz8_0
            try clear hcz9_0
            try clear hfz10_0
            try clear hfz16_0
            try clear hfz19_0
            try clear hfz23_0
            try clear hfz8_0
            try clear hfz9_0
            try clear hx442_0
            try clear hx442_1
            try clear hx442_2
            try clear hx442_3
            try clear hx442_4
            try clear hx443_0
            try clear hx443_1
            try clear hx443_2
            try clear hx443_3
            try clear hx443_4
            try clear hx444_0
            try clear hx444_1
            try clear hx444_2
            try clear hx444_3
            try clear hx444_4
            try clear p2
            try clear p4
            try clear p442
            try clear p443
            try clear p444
            try clear q4
            try clear q442
            try clear q443
            try clear q444
            obtain ⟨x6_4, rfl, HA, HK4, BK440, BK445, HB⟩ := hrel
            cases gk with
            | zero => exact absurd HA.out (by simp [portolanref04_Check.l2])
            | succ k4 =>
             have H := HA.out
             clear HA
             simp only [portolanref04_Check.l2] at H
             by_cases c24 : 0 ≤ x5_3
             ·
              rw [if_pos c24] at H
              have c24b0 : decide (0 ≤ x5_3) = true := decide_eq_true c24
              clear c24
              by_cases c25 : x5_3 < (((rd_T30 l0_0 x3_2).f4).length : Int)
              ·
               rw [if_pos c25] at H
               have c25b0 : decide (x5_3 < (((rd_T30 l0_0 x3_2).f4).length : Int)) = true := decide_eq_true c25
               clear c25
               by_cases c26 : x6_4 < (((rd_T40 ((rd_T30 l0_0 x3_2).f4) x5_3).f0).length : Int)
               ·
                rw [if_pos c26] at H
                have c26b0 : decide (x6_4 < (((rd_T40 ((rd_T30 l0_0 x3_2).f4) x5_3).f0).length : Int)) = true := decide_eq_true c26
                clear c26
                by_cases c27 : 0 ≤ x6_4
                ·
                 rw [if_pos c27] at H
                 have c27b0 : decide (0 ≤ x6_4) = true := decide_eq_true c27
                 clear c27
                 replace H := Option.bind_eq_some_iff.mp H
                 obtain ⟨t450, A280, H⟩ := H
                 replace H : (if t450 = true then (portolanref04_Check.l2 k4 x3_2 x5_3 (wrap64 (x6_4 + 1)) l0_0 ((rd_T30 l0_0 x3_2).f0) ((rd_T30 l0_0 x3_2).f1) ((rd_T30 l0_0 x3_2).f2) ((rd_T30 l0_0 x3_2).f3) ((rd_T30 l0_0 x3_2).f4)) else (some 5)) = some r := H
                 have A28 := Aside0.mk A280
                 clear A280
                 by_cases c29 : t450 = true
                 ·
                  subst c29
                  have H1 : (portolanref04_Check.l2 k4 x3_2 x5_3 (wrap64 (x6_4 + 1)) l0_0 ((rd_T30 l0_0 x3_2).f0) ((rd_T30 l0_0 x3_2).f1) ((rd_T30 l0_0 x3_2).f2) ((rd_T30 l0_0 x3_2).f3) ((rd_T30 l0_0 x3_2).f4)) = some r := by rw [if_pos rfl] at H; exact H
                  clear H
                  have H := H1
                  clear H1
                  have H' := Aside0.mk H
                  clear H
                  have hnb30 := NB445_440.out
                  have hnc30 := NB440_445.out
                  obtain ⟨hcz31_0, hcz31_1, hcz31_2, hcz31_3, hcz31_4⟩ := bk5 BK445.out
                  have hfz31_0 := bf BK445.out
                  have p447 : 0 ≤ (x5_3 : Int) := of_decide_eq_true (by assumption)
                  have q447 : x5_3 < (((rd_T30 l0_0 x3_2).f4).length : Int) := of_decide_eq_true (by assumption)
                  obtain ⟨ad447, A447_0, c447_0, e447, hx447_0, hl447_0, hi447_0⟩ := at_T40 HR444_4.out x5_3 p447 q447
                  cases e447
                  replace hx447_0 := (HB.out.cell (World.block_lt_of_cell? w _ hx447_0)).trans hx447_0
                  have HR447_0 := Aside0.mk hi447_0
                  have HC447_0 := Aside0.mk hl447_0
                  clear hi447_0 hl447_0
                  replace p447 := eq_true p447
                  replace q447 := eq_true q447
                  try go_wp2
                  replace BK440 := Aside0.mk (blk_drew BK440.out); replace BK445 := Aside0.mk (blk_drew BK445.out); replace HB := Aside0.mk (below_drew1 HB.out)
                  have p448 : 0 ≤ (x5_3 : Int) := of_decide_eq_true (by assumption)
                  have q448 : x5_3 < (((rd_T30 l0_0 x3_2).f4).length : Int) := of_decide_eq_true (by assumption)
                  obtain ⟨ad448, A448_0, c448_0, e448, hx448_0, hl448_0, hi448_0⟩ := at_T40 HR444_4.out x5_3 p448 q448
                  have hw448_0 := hx448_0
                  obtain rfl : ad447 = ad448 := (by injection e448)
                  replace hx448_0 := (HB.out.cell (World.block_lt_of_cell? w _ hx448_0)).trans hx448_0
                  have HR448_0 := Aside0.mk hi448_0
                  have HC448_0 := Aside0.mk hl448_0
                  clear hi448_0 hl448_0
                  replace p448 := eq_true p448
                  replace q448 := eq_true q448
                  have p449 : 0 ≤ (x6_4 : Int) := of_decide_eq_true (by assumption)
                  have q449 : x6_4 < (((rd_T40 ((rd_T30 l0_0 x3_2).f4) x5_3).f0).length : Int) := of_decide_eq_true (by assumption)
                  obtain ⟨ad449, A449_6, c449_6, e449, hx449_0, hx449_1, hx449_2, hx449_3, hx449_4, hx449_5, hx449_6, hl449_6, hi449_6⟩ := at_T44 HR448_0.out x6_4 p449 q449
                  have hw449_6 := hx449_6
                  have hw449_5 := hx449_5
                  have hw449_4 := hx449_4
                  have hw449_3 := hx449_3
                  have hw449_2 := hx449_2
                  have hw449_1 := hx449_1
                  have hw449_0 := hx449_0
                  cases e449
                  replace hx449_0 := (HB.out.cell (World.block_lt_of_cell? w _ hx449_0)).trans hx449_0
                  replace hx449_1 := (HB.out.cell (World.block_lt_of_cell? w _ hx449_1)).trans hx449_1
                  replace hx449_2 := (HB.out.cell (World.block_lt_of_cell? w _ hx449_2)).trans hx449_2
                  replace hx449_3 := (HB.out.cell (World.block_lt_of_cell? w _ hx449_3)).trans hx449_3
                  replace hx449_4 := (HB.out.cell (World.block_lt_of_cell? w _ hx449_4)).trans hx449_4
                  replace hx449_5 := (HB.out.cell (World.block_lt_of_cell? w _ hx449_5)).trans hx449_5
                  replace hx449_6 := (HB.out.cell (World.block_lt_of_cell? w _ hx449_6)).trans hx449_6
                  have HR449_6 := Aside0.mk hi449_6
                  have HC449_6 := Aside0.mk hl449_6
                  clear hi449_6 hl449_6
                  replace p449 := eq_true p449
                  replace q449 := eq_true q449
                  refine start_ (n := 13) (S := fun w' => w'.cell? ⟨gb440, 0, none⟩ = some (.slice (some ad444) l0_0.length c0_0) ∧ w'.cell? ⟨gb445, 0, none⟩ = some (.slice A444_0 ((rd_T30 l0_0 x3_2).f0).length c444_0) ∧ w'.cell? ⟨gb445, 1, none⟩ = some (.slice A444_1 ((rd_T30 l0_0 x3_2).f1).length c444_1) ∧ w'.cell? ⟨gb445, 2, none⟩ = some (.int .i64 ((rd_T30 l0_0 x3_2).f2)) ∧ w'.cell? ⟨gb445, 3, none⟩ = some (.int .i64 ((rd_T30 l0_0 x3_2).f3)) ∧ w'.cell? ⟨gb445, 4, none⟩ = some (.slice (some ad447) ((rd_T30 l0_0 x3_2).f4).length c444_4) ∧ w'.cell? (ad447.add (x5_3).toNat) = some (.slice (some ad449) ((rd_T40 ((rd_T30 l0_0 x3_2).f4) x5_3).f0).length c448_0) ∧ w'.cell? (ad449.add ((x6_4).toNat * 7)) = some (.int .i64 ((rd_T44 ((rd_T40 ((rd_T30 l0_0 x3_2).f4) x5_3).f0) x6_4).f0)) ∧ w'.cell? ⟨(ad449.add ((x6_4).toNat * 7)).block, (ad449.add ((x6_4).toNat * 7)).off + 1, none⟩ = some (.int .i64 ((rd_T44 ((rd_T40 ((rd_T30 l0_0 x3_2).f4) x5_3).f0) x6_4).f1)) ∧ w'.cell? ⟨(ad449.add ((x6_4).toNat * 7)).block, (ad449.add ((x6_4).toNat * 7)).off + 2, none⟩ = some (.int .i64 ((rd_T44 ((rd_T40 ((rd_T30 l0_0 x3_2).f4) x5_3).f0) x6_4).f2)) ∧ w'.cell? ⟨(ad449.add ((x6_4).toNat * 7)).block, (ad449.add ((x6_4).toNat * 7)).off + 3, none⟩ = some (.int .i64 ((rd_T44 ((rd_T40 ((rd_T30 l0_0 x3_2).f4) x5_3).f0) x6_4).f3)) ∧ w'.cell? ⟨(ad449.add ((x6_4).toNat * 7)).block, (ad449.add ((x6_4).toNat * 7)).off + 4, none⟩ = some (.int .i64 ((rd_T44 ((rd_T40 ((rd_T30 l0_0 x3_2).f4) x5_3).f0) x6_4).f4)) ∧ w'.cell? ⟨(ad449.add ((x6_4).toNat * 7)).block, (ad449.add ((x6_4).toNat * 7)).off + 5, none⟩ = some (.int .i64 ((rd_T44 ((rd_T40 ((rd_T30 l0_0 x3_2).f4) x5_3).f0) x6_4).f5)) ∧ w'.cell? ⟨(ad449.add ((x6_4).toNat * 7)).block, (ad449.add ((x6_4).toNat * 7)).off + 6, none⟩ = some (.slice A449_6 ((rd_T44 ((rd_T40 ((rd_T30 l0_0 x3_2).f4) x5_3).f0) x6_4).f6).length c449_6)) (ds := []) #[false, false, false, false, false, false, false, false, false, false, false, false, false] (by kernel_rfl) rfl rfl ⟨(blk_cell BK440.out 0).trans rfl, (blk_cell BK445.out 0).trans rfl, (blk_cell BK445.out 1).trans rfl, (blk_cell BK445.out 2).trans rfl, (blk_cell BK445.out 3).trans rfl, (blk_cell BK445.out 4).trans rfl, ((HB.out.cell (World.block_lt_of_cell? w _ hw448_0)).trans hw448_0), ((HB.out.cell (World.block_lt_of_cell? w _ hw449_0)).trans hw449_0), ((HB.out.cell (World.block_lt_of_cell? w _ hw449_1)).trans hw449_1), ((HB.out.cell (World.block_lt_of_cell? w _ hw449_2)).trans hw449_2), ((HB.out.cell (World.block_lt_of_cell? w _ hw449_3)).trans hw449_3), ((HB.out.cell (World.block_lt_of_cell? w _ hw449_4)).trans hw449_4), ((HB.out.cell (World.block_lt_of_cell? w _ hw449_5)).trans hw449_5), ((HB.out.cell (World.block_lt_of_cell? w _ hw449_6)).trans hw449_6)⟩ (fun hHeld => ?_); refine with_tabW portolanref04_Check.tab15 portolanref04_Check.bits15 (fun HT_ HW_ => ?_)
                  generalize wr.drew = w32 at BK440 BK445 HB HR448_0 HR449_6 hx448_0 hx449_0 hx449_1 hx449_2 hx449_3 hx449_4 hx449_5 hx449_6 hHeld ⊢
                  refine pure_ (i := 1) (N := some 62) (v := ?_) (a' := ?_) #[false, true, false, false, false, false, false, false, false, false, false, false, false] rfl rfl (any_of HT_.out (by kernel_rfl)) (fun _ _ _ h => h) (Or.inl ⟨by rfl, ?_⟩) ?_ ?_
                  rotate_left
                  ·
                   intro w'
                   go_simp
                   with_reducible rfl
                  rotate_left
                  ·
                   simp only [Act.put, List.setIfInBounds_toArray, List.set_cons_zero, List.set_cons_succ, i64_w, i32_w]
                   rfl
                  refine pure_ (i := 2) (N := some 63) (v := ?_) (a' := ?_) #[false, true, true, false, false, false, false, false, false, false, false, false, false] rfl rfl (any_of HT_.out (by kernel_rfl)) (fun _ _ _ h => h) (Or.inl ⟨by rfl, ?_⟩) ?_ ?_
                  rotate_left
                  ·
                   intro w'
                   go_simp
                   with_reducible rfl
                  rotate_left
                  ·
                   simp only [Act.put, List.setIfInBounds_toArray, List.set_cons_zero, List.set_cons_succ, i64_w, i32_w]
                   rfl
                  refine pure_ (i := 4) (N := some 65) (v := ?_) (a' := ?_) #[false, true, true, false, true, false, false, false, false, false, false, false, false] rfl rfl (any_of HT_.out (by kernel_rfl)) (fun _ _ _ h => h) (Or.inl ⟨by rfl, ?_⟩) ?_ ?_
                  rotate_left
                  ·
                   intro w'
                   go_simp
                   with_reducible rfl
                  rotate_left
                  ·
                   simp only [Act.put, List.setIfInBounds_toArray, List.set_cons_zero, List.set_cons_succ, i64_w, i32_w]
                   rfl
                  refine pure_ (i := 8) (N := some 69) (v := ?_) (a' := ?_) #[false, true, true, false, true, false, false, false, true, false, false, false, false] rfl rfl (any_of HT_.out (by kernel_rfl)) (fun _ _ _ h => h) (Or.inl ⟨by rfl, ?_⟩) ?_ ?_
                  rotate_left
                  ·
                   intro w'
                   go_simp
                   with_reducible rfl
                  rotate_left
                  ·
                   simp only [Act.put, List.setIfInBounds_toArray, List.set_cons_zero, List.set_cons_succ, i64_w, i32_w]
                   rfl
                  refine take_ (i := 0) (N := some 61) (v := ?_) (a' := ?_) #[true, true, true, false, true, false, false, false, true, false, false, false, false] rfl rfl (take_ofW HT_.out HW_.out (by kernel_rfl)) (fun _ _ _ h => h) (Or.inl ⟨by rfl, ?_⟩) hHeld ?_ ?_
                  rotate_left
                  ·
                   rintro w' ⟨s0, s1, s2, s3, s4, s5, s6, s7, s8, s9, s10, s11, s12, s13⟩
                   go_simp
                   with_reducible rfl
                  rotate_left
                  ·
                   simp only [Act.put, List.setIfInBounds_toArray, List.set_cons_zero, List.set_cons_succ, i64_w, i32_w]
                   rfl
                  refine take_ (i := 3) (N := some 64) (v := ?_) (a' := ?_) #[true, true, true, true, true, false, false, false, true, false, false, false, false] rfl rfl (take_ofW HT_.out HW_.out (by kernel_rfl)) (fun _ _ _ h => h) (Or.inl ⟨by rfl, ?_⟩) hHeld ?_ ?_
                  rotate_left
                  ·
                   rintro w' ⟨s0, s1, s2, s3, s4, s5, s6, s7, s8, s9, s10, s11, s12, s13⟩
                   go_simp
                   with_reducible rfl
                  rotate_left
                  ·
                   simp only [Act.put, List.setIfInBounds_toArray, List.set_cons_zero, List.set_cons_succ, i64_w, i32_w]
                   rfl
                  refine pure_ (i := 5) (N := some 66) (v := ?_) (a' := ?_) #[true, true, true, true, true, true, false, false, true, false, false, false, false] rfl rfl (any_of HT_.out (by kernel_rfl)) (fun _ _ _ h => h) (Or.inl ⟨by rfl, ?_⟩) ?_ ?_
                  rotate_left
                  ·
                   intro w'
                   go_simp
                   with_reducible rfl
                  rotate_left
                  ·
                   simp only [Act.put, List.setIfInBounds_toArray, List.set_cons_zero, List.set_cons_succ, i64_w, i32_w]
                   rfl
                  refine pure_ (i := 6) (N := some 67) (v := ?_) (a' := ?_) #[true, true, true, true, true, true, true, false, true, false, false, false, false] rfl rfl (any_of HT_.out (by kernel_rfl)) (fun _ _ _ h => h) (Or.inl ⟨by rfl, ?_⟩) ?_ ?_
                  rotate_left
                  ·
                   intro w'
                   go_simp
                   with_reducible rfl
                  rotate_left
                  ·
                   simp only [Act.put, List.setIfInBounds_toArray, List.set_cons_zero, List.set_cons_succ, i64_w, i32_w]
                   rfl
                  refine take_ (i := 7) (N := some 68) (v := ?_) (a' := ?_) #[true, true, true, true, true, true, true, true, true, false, false, false, false] rfl rfl (take_ofW HT_.out HW_.out (by kernel_rfl)) (fun _ _ _ h => h) (Or.inl ⟨by rfl, ?_⟩) hHeld ?_ ?_
                  rotate_left
                  ·
                   rintro w' ⟨s0, s1, s2, s3, s4, s5, s6, s7, s8, s9, s10, s11, s12, s13⟩
                   go_simp
                   with_reducible rfl
                  rotate_left
                  ·
                   simp only [Act.put, List.setIfInBounds_toArray, List.set_cons_zero, List.set_cons_succ, i64_w, i32_w]
                   rfl
                  refine pure_ (i := 9) (N := some 70) (v := ?_) (a' := ?_) #[true, true, true, true, true, true, true, true, true, true, false, false, false] rfl rfl (any_of HT_.out (by kernel_rfl)) (fun _ _ _ h => h) (Or.inl ⟨by rfl, ?_⟩) ?_ ?_
                  rotate_left
                  ·
                   intro w'
                   go_simp
                   with_reducible rfl
                  rotate_left
                  ·
                   simp only [Act.put, List.setIfInBounds_toArray, List.set_cons_zero, List.set_cons_succ, i64_w, i32_w]
                   rfl
                  refine take_ (i := 10) (N := some 71) (v := ?_) (a' := ?_) #[true, true, true, true, true, true, true, true, true, true, true, false, false] rfl rfl (take_ofW HT_.out HW_.out (by kernel_rfl)) (fun _ _ _ h => h) (Or.inl ⟨by rfl, ?_⟩) hHeld ?_ ?_
                  rotate_left
                  ·
                   rintro w' ⟨s0, s1, s2, s3, s4, s5, s6, s7, s8, s9, s10, s11, s12, s13⟩
                   go_simp
                   with_reducible rfl
                  rotate_left
                  ·
                   simp only [Act.put, List.setIfInBounds_toArray, List.set_cons_zero, List.set_cons_succ, i64_w, i32_w]
                   rfl
                  refine one_ (i := 11) (N := some 72) #[true, true, true, true, true, true, true, true, true, true, true, true, false] rfl rfl (one_of HT_.out (by kernel_rfl)) (by decide) (fun K hK => ?_)
                  refine goes_ Tryd.func58 (by kernel_rfl) rfl #[.agg #[.slice (some ad444) l0_0.length c0_0], .int .i64 x3_2, .agg #[.int .i64 ((rd_T44 ((rd_T40 ((rd_T30 l0_0 x3_2).f4) x5_3).f0) x6_4).f0), .int .i64 ((rd_T44 ((rd_T40 ((rd_T30 l0_0 x3_2).f4) x5_3).f0) x6_4).f1), .int .i64 ((rd_T44 ((rd_T40 ((rd_T30 l0_0 x3_2).f4) x5_3).f0) x6_4).f2), .int .i64 ((rd_T44 ((rd_T40 ((rd_T30 l0_0 x3_2).f4) x5_3).f0) x6_4).f3), .int .i64 ((rd_T44 ((rd_T40 ((rd_T30 l0_0 x3_2).f4) x5_3).f0) x6_4).f4), .int .i64 ((rd_T44 ((rd_T40 ((rd_T30 l0_0 x3_2).f4) x5_3).f0) x6_4).f5), .slice A449_6 ((rd_T44 ((rd_T40 ((rd_T30 l0_0 x3_2).f4) x5_3).f0) x6_4).f6).length c449_6]] (by rfl) rfl rfl (by (try simp only [List.map_toArray, List.map_cons, List.map_nil]); first | done | rfl) ?_
                  with_reducible refine (portolanref04_Ins.calls k4 _ _ l0_0 x3_2 ((rd_T44 ((rd_T40 ((rd_T30 l0_0 x3_2).f4) x5_3).f0) x6_4).f0) ((rd_T44 ((rd_T40 ((rd_T30 l0_0 x3_2).f4) x5_3).f0) x6_4).f1) ((rd_T44 ((rd_T40 ((rd_T30 l0_0 x3_2).f4) x5_3).f0) x6_4).f2) ((rd_T44 ((rd_T40 ((rd_T30 l0_0 x3_2).f4) x5_3).f0) x6_4).f3) ((rd_T44 ((rd_T40 ((rd_T30 l0_0 x3_2).f4) x5_3).f0) x6_4).f4) ((rd_T44 ((rd_T40 ((rd_T30 l0_0 x3_2).f4) x5_3).f0) x6_4).f5) _ _ ((rd_T44 ((rd_T40 ((rd_T30 l0_0 x3_2).f4) x5_3).f0) x6_4).f6) true _ ?side1 ?side2 ?side3 ?side4 A28.out).mono ?_
                  (case side1 => exact Kd.Cx (Kd.C_below HR0_0.out HB.out))
                  (case side2 => exact HC0_0.out)
                  (case side3 => exact Kd.Cx (Kd.C_below HR449_6.out HB.out))
                  (case side4 => exact HC449_6.out)
                  rintro e w33 ⟨rfl, hb⟩
                  refine ⟨_, rfl, ?_⟩
                  replace BK440 := Aside0.mk (blk_below (bx BK440.out) hb); replace BK445 := Aside0.mk (blk_below (bx BK445.out) hb); replace HB := Aside0.mk (below_step (bl HB) hb)
                  (try clear hb)
                  (try clear hb2)
                  (try clear hk)
                  (try clear hi)
                  refine hK.out _ _ ⟨(blk_cell BK440.out 0).trans rfl, (blk_cell BK445.out 0).trans rfl, (blk_cell BK445.out 1).trans rfl, (blk_cell BK445.out 2).trans rfl, (blk_cell BK445.out 3).trans rfl, (blk_cell BK445.out 4).trans rfl, ((HB.out.cell (World.block_lt_of_cell? w _ hw448_0)).trans hw448_0), ((HB.out.cell (World.block_lt_of_cell? w _ hw449_0)).trans hw449_0), ((HB.out.cell (World.block_lt_of_cell? w _ hw449_1)).trans hw449_1), ((HB.out.cell (World.block_lt_of_cell? w _ hw449_2)).trans hw449_2), ((HB.out.cell (World.block_lt_of_cell? w _ hw449_3)).trans hw449_3), ((HB.out.cell (World.block_lt_of_cell? w _ hw449_4)).trans hw449_4), ((HB.out.cell (World.block_lt_of_cell? w _ hw449_5)).trans hw449_5), ((HB.out.cell (World.block_lt_of_cell? w _ hw449_6)).trans hw449_6)⟩ (fun hHeld => ?_)
                  clear hK K
                  refine norm_ (a' := ?_) ?_ ?_
                  rotate_left
                  ·
                   show Act.put _ (some 72) _ = _
                   simp only [Act.put, List.setIfInBounds_toArray, List.set_cons_zero, List.set_cons_succ, i64_w, i32_w]
                   rfl
                  refine pure_ (i := 12) (N := some 73) (v := ?_) (a' := ?_) #[true, true, true, true, true, true, true, true, true, true, true, true, true] rfl rfl (any_of HT_.out (by kernel_rfl)) (fun _ _ _ h => h) (Or.inl ⟨by rfl, ?_⟩) ?_ ?_
                  rotate_left
                  ·
                   intro w'
                   go_simp
                   with_reducible rfl
                  rotate_left
                  ·
                   simp only [Act.put, List.setIfInBounds_toArray, List.set_cons_zero, List.set_cons_succ, i64_w, i32_w]
                   rfl
                  refine done_ (done_of HT_.out (by kernel_rfl)) ?_
                  try go_wp2
                  go_roundg k4
                  case measure => have := HJ1.out; have := HK2.out; have := HK3.out; have := HK4.out; omega
                  case rel => exact ⟨(wrap64 (x6_4 + 1)), (by first | rfl | (simp; done) | (simp [*]; done)), H', ⟨by have := HJ1.out; have := HK2.out; have := HK3.out; have := HK4.out; omega⟩, ⟨bx BK440.out⟩, ⟨bx BK445.out⟩, ⟨bl HB⟩⟩
                 replace c29 := Bool.eq_false_iff.mpr c29
                 subst c29
                 have H1 : (some 5) = some r := by rw [if_neg (show ¬ (false = true) by decide)] at H; exact H
                 clear H
                 have H := H1
                 clear H1
                 obtain rfl := Option.some.inj H
                 have hnb34 := NB445_440.out
                 have hnc34 := NB440_445.out
                 obtain ⟨hcz35_0, hcz35_1, hcz35_2, hcz35_3, hcz35_4⟩ := bk5 BK445.out
                 have hfz35_0 := bf BK445.out
                 have p447 : 0 ≤ (x5_3 : Int) := of_decide_eq_true (by assumption)
                 have q447 : x5_3 < (((rd_T30 l0_0 x3_2).f4).length : Int) := of_decide_eq_true (by assumption)
                 obtain ⟨ad447, A447_0, c447_0, e447, hx447_0, hl447_0, hi447_0⟩ := at_T40 HR444_4.out x5_3 p447 q447
                 cases e447
                 replace hx447_0 := (HB.out.cell (World.block_lt_of_cell? w _ hx447_0)).trans hx447_0
                 have HR447_0 := Aside0.mk hi447_0
                 have HC447_0 := Aside0.mk hl447_0
                 clear hi447_0 hl447_0
                 replace p447 := eq_true p447
                 replace q447 := eq_true q447
                 try go_wp2
                 replace BK440 := Aside0.mk (blk_drew BK440.out); replace BK445 := Aside0.mk (blk_drew BK445.out); replace HB := Aside0.mk (below_drew1 HB.out)
                 have p448 : 0 ≤ (x5_3 : Int) := of_decide_eq_true (by assumption)
                 have q448 : x5_3 < (((rd_T30 l0_0 x3_2).f4).length : Int) := of_decide_eq_true (by assumption)
                 obtain ⟨ad448, A448_0, c448_0, e448, hx448_0, hl448_0, hi448_0⟩ := at_T40 HR444_4.out x5_3 p448 q448
                 have hw448_0 := hx448_0
                 obtain rfl : ad447 = ad448 := (by injection e448)
                 replace hx448_0 := (HB.out.cell (World.block_lt_of_cell? w _ hx448_0)).trans hx448_0
                 have HR448_0 := Aside0.mk hi448_0
                 have HC448_0 := Aside0.mk hl448_0
                 clear hi448_0 hl448_0
                 replace p448 := eq_true p448
                 replace q448 := eq_true q448
                 have p449 : 0 ≤ (x6_4 : Int) := of_decide_eq_true (by assumption)
                 have q449 : x6_4 < (((rd_T40 ((rd_T30 l0_0 x3_2).f4) x5_3).f0).length : Int) := of_decide_eq_true (by assumption)
                 obtain ⟨ad449, A449_6, c449_6, e449, hx449_0, hx449_1, hx449_2, hx449_3, hx449_4, hx449_5, hx449_6, hl449_6, hi449_6⟩ := at_T44 HR448_0.out x6_4 p449 q449
                 have hw449_6 := hx449_6
                 have hw449_5 := hx449_5
                 have hw449_4 := hx449_4
                 have hw449_3 := hx449_3
                 have hw449_2 := hx449_2
                 have hw449_1 := hx449_1
                 have hw449_0 := hx449_0
                 cases e449
                 replace hx449_0 := (HB.out.cell (World.block_lt_of_cell? w _ hx449_0)).trans hx449_0
                 replace hx449_1 := (HB.out.cell (World.block_lt_of_cell? w _ hx449_1)).trans hx449_1
                 replace hx449_2 := (HB.out.cell (World.block_lt_of_cell? w _ hx449_2)).trans hx449_2
                 replace hx449_3 := (HB.out.cell (World.block_lt_of_cell? w _ hx449_3)).trans hx449_3
                 replace hx449_4 := (HB.out.cell (World.block_lt_of_cell? w _ hx449_4)).trans hx449_4
                 replace hx449_5 := (HB.out.cell (World.block_lt_of_cell? w _ hx449_5)).trans hx449_5
                 replace hx449_6 := (HB.out.cell (World.block_lt_of_cell? w _ hx449_6)).trans hx449_6
                 have HR449_6 := Aside0.mk hi449_6
                 have HC449_6 := Aside0.mk hl449_6
                 clear hi449_6 hl449_6
                 replace p449 := eq_true p449
                 replace q449 := eq_true q449
                 refine start_ (n := 13) (S := fun w' => w'.cell? ⟨gb440, 0, none⟩ = some (.slice (some ad444) l0_0.length c0_0) ∧ w'.cell? ⟨gb445, 0, none⟩ = some (.slice A444_0 ((rd_T30 l0_0 x3_2).f0).length c444_0) ∧ w'.cell? ⟨gb445, 1, none⟩ = some (.slice A444_1 ((rd_T30 l0_0 x3_2).f1).length c444_1) ∧ w'.cell? ⟨gb445, 2, none⟩ = some (.int .i64 ((rd_T30 l0_0 x3_2).f2)) ∧ w'.cell? ⟨gb445, 3, none⟩ = some (.int .i64 ((rd_T30 l0_0 x3_2).f3)) ∧ w'.cell? ⟨gb445, 4, none⟩ = some (.slice (some ad447) ((rd_T30 l0_0 x3_2).f4).length c444_4) ∧ w'.cell? (ad447.add (x5_3).toNat) = some (.slice (some ad449) ((rd_T40 ((rd_T30 l0_0 x3_2).f4) x5_3).f0).length c448_0) ∧ w'.cell? (ad449.add ((x6_4).toNat * 7)) = some (.int .i64 ((rd_T44 ((rd_T40 ((rd_T30 l0_0 x3_2).f4) x5_3).f0) x6_4).f0)) ∧ w'.cell? ⟨(ad449.add ((x6_4).toNat * 7)).block, (ad449.add ((x6_4).toNat * 7)).off + 1, none⟩ = some (.int .i64 ((rd_T44 ((rd_T40 ((rd_T30 l0_0 x3_2).f4) x5_3).f0) x6_4).f1)) ∧ w'.cell? ⟨(ad449.add ((x6_4).toNat * 7)).block, (ad449.add ((x6_4).toNat * 7)).off + 2, none⟩ = some (.int .i64 ((rd_T44 ((rd_T40 ((rd_T30 l0_0 x3_2).f4) x5_3).f0) x6_4).f2)) ∧ w'.cell? ⟨(ad449.add ((x6_4).toNat * 7)).block, (ad449.add ((x6_4).toNat * 7)).off + 3, none⟩ = some (.int .i64 ((rd_T44 ((rd_T40 ((rd_T30 l0_0 x3_2).f4) x5_3).f0) x6_4).f3)) ∧ w'.cell? ⟨(ad449.add ((x6_4).toNat * 7)).block, (ad449.add ((x6_4).toNat * 7)).off + 4, none⟩ = some (.int .i64 ((rd_T44 ((rd_T40 ((rd_T30 l0_0 x3_2).f4) x5_3).f0) x6_4).f4)) ∧ w'.cell? ⟨(ad449.add ((x6_4).toNat * 7)).block, (ad449.add ((x6_4).toNat * 7)).off + 5, none⟩ = some (.int .i64 ((rd_T44 ((rd_T40 ((rd_T30 l0_0 x3_2).f4) x5_3).f0) x6_4).f5)) ∧ w'.cell? ⟨(ad449.add ((x6_4).toNat * 7)).block, (ad449.add ((x6_4).toNat * 7)).off + 6, none⟩ = some (.slice A449_6 ((rd_T44 ((rd_T40 ((rd_T30 l0_0 x3_2).f4) x5_3).f0) x6_4).f6).length c449_6)) (ds := []) #[false, false, false, false, false, false, false, false, false, false, false, false, false] (by kernel_rfl) rfl rfl ⟨(blk_cell BK440.out 0).trans rfl, (blk_cell BK445.out 0).trans rfl, (blk_cell BK445.out 1).trans rfl, (blk_cell BK445.out 2).trans rfl, (blk_cell BK445.out 3).trans rfl, (blk_cell BK445.out 4).trans rfl, ((HB.out.cell (World.block_lt_of_cell? w _ hw448_0)).trans hw448_0), ((HB.out.cell (World.block_lt_of_cell? w _ hw449_0)).trans hw449_0), ((HB.out.cell (World.block_lt_of_cell? w _ hw449_1)).trans hw449_1), ((HB.out.cell (World.block_lt_of_cell? w _ hw449_2)).trans hw449_2), ((HB.out.cell (World.block_lt_of_cell? w _ hw449_3)).trans hw449_3), ((HB.out.cell (World.block_lt_of_cell? w _ hw449_4)).trans hw449_4), ((HB.out.cell (World.block_lt_of_cell? w _ hw449_5)).trans hw449_5), ((HB.out.cell (World.block_lt_of_cell? w _ hw449_6)).trans hw449_6)⟩ (fun hHeld => ?_); refine with_tabW portolanref04_Check.tab15 portolanref04_Check.bits15 (fun HT_ HW_ => ?_)
                 generalize wr.drew = w36 at BK440 BK445 HB HR448_0 HR449_6 hx448_0 hx449_0 hx449_1 hx449_2 hx449_3 hx449_4 hx449_5 hx449_6 hHeld ⊢
                 refine pure_ (i := 1) (N := some 62) (v := ?_) (a' := ?_) #[false, true, false, false, false, false, false, false, false, false, false, false, false] rfl rfl (any_of HT_.out (by kernel_rfl)) (fun _ _ _ h => h) (Or.inl ⟨by rfl, ?_⟩) ?_ ?_
                 rotate_left
                 ·
                  intro w'
                  go_simp
                  with_reducible rfl
                 rotate_left
                 ·
                  simp only [Act.put, List.setIfInBounds_toArray, List.set_cons_zero, List.set_cons_succ, i64_w, i32_w]
                  rfl
                 refine pure_ (i := 2) (N := some 63) (v := ?_) (a' := ?_) #[false, true, true, false, false, false, false, false, false, false, false, false, false] rfl rfl (any_of HT_.out (by kernel_rfl)) (fun _ _ _ h => h) (Or.inl ⟨by rfl, ?_⟩) ?_ ?_
                 rotate_left
                 ·
                  intro w'
                  go_simp
                  with_reducible rfl
                 rotate_left
                 ·
                  simp only [Act.put, List.setIfInBounds_toArray, List.set_cons_zero, List.set_cons_succ, i64_w, i32_w]
                  rfl
                 refine pure_ (i := 4) (N := some 65) (v := ?_) (a' := ?_) #[false, true, true, false, true, false, false, false, false, false, false, false, false] rfl rfl (any_of HT_.out (by kernel_rfl)) (fun _ _ _ h => h) (Or.inl ⟨by rfl, ?_⟩) ?_ ?_
                 rotate_left
                 ·
                  intro w'
                  go_simp
                  with_reducible rfl
                 rotate_left
                 ·
                  simp only [Act.put, List.setIfInBounds_toArray, List.set_cons_zero, List.set_cons_succ, i64_w, i32_w]
                  rfl
                 refine pure_ (i := 8) (N := some 69) (v := ?_) (a' := ?_) #[false, true, true, false, true, false, false, false, true, false, false, false, false] rfl rfl (any_of HT_.out (by kernel_rfl)) (fun _ _ _ h => h) (Or.inl ⟨by rfl, ?_⟩) ?_ ?_
                 rotate_left
                 ·
                  intro w'
                  go_simp
                  with_reducible rfl
                 rotate_left
                 ·
                  simp only [Act.put, List.setIfInBounds_toArray, List.set_cons_zero, List.set_cons_succ, i64_w, i32_w]
                  rfl
                 refine take_ (i := 0) (N := some 61) (v := ?_) (a' := ?_) #[true, true, true, false, true, false, false, false, true, false, false, false, false] rfl rfl (take_ofW HT_.out HW_.out (by kernel_rfl)) (fun _ _ _ h => h) (Or.inl ⟨by rfl, ?_⟩) hHeld ?_ ?_
                 rotate_left
                 ·
                  rintro w' ⟨s0, s1, s2, s3, s4, s5, s6, s7, s8, s9, s10, s11, s12, s13⟩
                  go_simp
                  with_reducible rfl
                 rotate_left
                 ·
                  simp only [Act.put, List.setIfInBounds_toArray, List.set_cons_zero, List.set_cons_succ, i64_w, i32_w]
                  rfl
                 refine take_ (i := 3) (N := some 64) (v := ?_) (a' := ?_) #[true, true, true, true, true, false, false, false, true, false, false, false, false] rfl rfl (take_ofW HT_.out HW_.out (by kernel_rfl)) (fun _ _ _ h => h) (Or.inl ⟨by rfl, ?_⟩) hHeld ?_ ?_
                 rotate_left
                 ·
                  rintro w' ⟨s0, s1, s2, s3, s4, s5, s6, s7, s8, s9, s10, s11, s12, s13⟩
                  go_simp
                  with_reducible rfl
                 rotate_left
                 ·
                  simp only [Act.put, List.setIfInBounds_toArray, List.set_cons_zero, List.set_cons_succ, i64_w, i32_w]
                  rfl
                 refine pure_ (i := 5) (N := some 66) (v := ?_) (a' := ?_) #[true, true, true, true, true, true, false, false, true, false, false, false, false] rfl rfl (any_of HT_.out (by kernel_rfl)) (fun _ _ _ h => h) (Or.inl ⟨by rfl, ?_⟩) ?_ ?_
                 rotate_left
                 ·
                  intro w'
                  go_simp
                  with_reducible rfl
                 rotate_left
                 ·
                  simp only [Act.put, List.setIfInBounds_toArray, List.set_cons_zero, List.set_cons_succ, i64_w, i32_w]
                  rfl
                 refine pure_ (i := 6) (N := some 67) (v := ?_) (a' := ?_) #[true, true, true, true, true, true, true, false, true, false, false, false, false] rfl rfl (any_of HT_.out (by kernel_rfl)) (fun _ _ _ h => h) (Or.inl ⟨by rfl, ?_⟩) ?_ ?_
                 rotate_left
                 ·
                  intro w'
                  go_simp
                  with_reducible rfl
                 rotate_left
                 ·
                  simp only [Act.put, List.setIfInBounds_toArray, List.set_cons_zero, List.set_cons_succ, i64_w, i32_w]
                  rfl
                 refine take_ (i := 7) (N := some 68) (v := ?_) (a' := ?_) #[true, true, true, true, true, true, true, true, true, false, false, false, false] rfl rfl (take_ofW HT_.out HW_.out (by kernel_rfl)) (fun _ _ _ h => h) (Or.inl ⟨by rfl, ?_⟩) hHeld ?_ ?_
                 rotate_left
                 ·
                  rintro w' ⟨s0, s1, s2, s3, s4, s5, s6, s7, s8, s9, s10, s11, s12, s13⟩
                  go_simp
                  with_reducible rfl
                 rotate_left
                 ·
                  simp only [Act.put, List.setIfInBounds_toArray, List.set_cons_zero, List.set_cons_succ, i64_w, i32_w]
                  rfl
                 refine pure_ (i := 9) (N := some 70) (v := ?_) (a' := ?_) #[true, true, true, true, true, true, true, true, true, true, false, false, false] rfl rfl (any_of HT_.out (by kernel_rfl)) (fun _ _ _ h => h) (Or.inl ⟨by rfl, ?_⟩) ?_ ?_
                 rotate_left
                 ·
                  intro w'
                  go_simp
                  with_reducible rfl
                 rotate_left
                 ·
                  simp only [Act.put, List.setIfInBounds_toArray, List.set_cons_zero, List.set_cons_succ, i64_w, i32_w]
                  rfl
                 refine take_ (i := 10) (N := some 71) (v := ?_) (a' := ?_) #[true, true, true, true, true, true, true, true, true, true, true, false, false] rfl rfl (take_ofW HT_.out HW_.out (by kernel_rfl)) (fun _ _ _ h => h) (Or.inl ⟨by rfl, ?_⟩) hHeld ?_ ?_
                 rotate_left
                 ·
                  rintro w' ⟨s0, s1, s2, s3, s4, s5, s6, s7, s8, s9, s10, s11, s12, s13⟩
                  go_simp
                  with_reducible rfl
                 rotate_left
                 ·
                  simp only [Act.put, List.setIfInBounds_toArray, List.set_cons_zero, List.set_cons_succ, i64_w, i32_w]
                  rfl
                 refine one_ (i := 11) (N := some 72) #[true, true, true, true, true, true, true, true, true, true, true, true, false] rfl rfl (one_of HT_.out (by kernel_rfl)) (by decide) (fun K hK => ?_)
                 refine goes_ Tryd.func58 (by kernel_rfl) rfl #[.agg #[.slice (some ad444) l0_0.length c0_0], .int .i64 x3_2, .agg #[.int .i64 ((rd_T44 ((rd_T40 ((rd_T30 l0_0 x3_2).f4) x5_3).f0) x6_4).f0), .int .i64 ((rd_T44 ((rd_T40 ((rd_T30 l0_0 x3_2).f4) x5_3).f0) x6_4).f1), .int .i64 ((rd_T44 ((rd_T40 ((rd_T30 l0_0 x3_2).f4) x5_3).f0) x6_4).f2), .int .i64 ((rd_T44 ((rd_T40 ((rd_T30 l0_0 x3_2).f4) x5_3).f0) x6_4).f3), .int .i64 ((rd_T44 ((rd_T40 ((rd_T30 l0_0 x3_2).f4) x5_3).f0) x6_4).f4), .int .i64 ((rd_T44 ((rd_T40 ((rd_T30 l0_0 x3_2).f4) x5_3).f0) x6_4).f5), .slice A449_6 ((rd_T44 ((rd_T40 ((rd_T30 l0_0 x3_2).f4) x5_3).f0) x6_4).f6).length c449_6]] (by rfl) rfl rfl (by (try simp only [List.map_toArray, List.map_cons, List.map_nil]); first | done | rfl) ?_
                 with_reducible refine (portolanref04_Ins.calls k4 _ _ l0_0 x3_2 ((rd_T44 ((rd_T40 ((rd_T30 l0_0 x3_2).f4) x5_3).f0) x6_4).f0) ((rd_T44 ((rd_T40 ((rd_T30 l0_0 x3_2).f4) x5_3).f0) x6_4).f1) ((rd_T44 ((rd_T40 ((rd_T30 l0_0 x3_2).f4) x5_3).f0) x6_4).f2) ((rd_T44 ((rd_T40 ((rd_T30 l0_0 x3_2).f4) x5_3).f0) x6_4).f3) ((rd_T44 ((rd_T40 ((rd_T30 l0_0 x3_2).f4) x5_3).f0) x6_4).f4) ((rd_T44 ((rd_T40 ((rd_T30 l0_0 x3_2).f4) x5_3).f0) x6_4).f5) _ _ ((rd_T44 ((rd_T40 ((rd_T30 l0_0 x3_2).f4) x5_3).f0) x6_4).f6) false _ ?side1 ?side2 ?side3 ?side4 A28.out).mono ?_
                 (case side1 => exact Kd.Cx (Kd.C_below HR0_0.out HB.out))
                 (case side2 => exact HC0_0.out)
                 (case side3 => exact Kd.Cx (Kd.C_below HR449_6.out HB.out))
                 (case side4 => exact HC449_6.out)
                 rintro e w37 ⟨rfl, hb⟩
                 refine ⟨_, rfl, ?_⟩
                 replace BK440 := Aside0.mk (blk_below (bx BK440.out) hb); replace BK445 := Aside0.mk (blk_below (bx BK445.out) hb); replace HB := Aside0.mk (below_step (bl HB) hb)
                 (try clear hb)
                 (try clear hb2)
                 (try clear hk)
                 (try clear hi)
                 refine hK.out _ _ ⟨(blk_cell BK440.out 0).trans rfl, (blk_cell BK445.out 0).trans rfl, (blk_cell BK445.out 1).trans rfl, (blk_cell BK445.out 2).trans rfl, (blk_cell BK445.out 3).trans rfl, (blk_cell BK445.out 4).trans rfl, ((HB.out.cell (World.block_lt_of_cell? w _ hw448_0)).trans hw448_0), ((HB.out.cell (World.block_lt_of_cell? w _ hw449_0)).trans hw449_0), ((HB.out.cell (World.block_lt_of_cell? w _ hw449_1)).trans hw449_1), ((HB.out.cell (World.block_lt_of_cell? w _ hw449_2)).trans hw449_2), ((HB.out.cell (World.block_lt_of_cell? w _ hw449_3)).trans hw449_3), ((HB.out.cell (World.block_lt_of_cell? w _ hw449_4)).trans hw449_4), ((HB.out.cell (World.block_lt_of_cell? w _ hw449_5)).trans hw449_5), ((HB.out.cell (World.block_lt_of_cell? w _ hw449_6)).trans hw449_6)⟩ (fun hHeld => ?_)
                 clear hK K
                 refine norm_ (a' := ?_) ?_ ?_
                 rotate_left
                 ·
                  show Act.put _ (some 72) _ = _
                  simp only [Act.put, List.setIfInBounds_toArray, List.set_cons_zero, List.set_cons_succ, i64_w, i32_w]
                  rfl
                 refine pure_ (i := 12) (N := some 73) (v := ?_) (a' := ?_) #[true, true, true, true, true, true, true, true, true, true, true, true, true] rfl rfl (any_of HT_.out (by kernel_rfl)) (fun _ _ _ h => h) (Or.inl ⟨by rfl, ?_⟩) ?_ ?_
                 rotate_left
                 ·
                  intro w'
                  go_simp
                  with_reducible rfl
                 rotate_left
                 ·
                  simp only [Act.put, List.setIfInBounds_toArray, List.set_cons_zero, List.set_cons_succ, i64_w, i32_w]
                  rfl
                 refine done_ (done_of HT_.out (by kernel_rfl)) ?_
                 try go_wp2
                 go_ret
                 exact ⟨by first | rfl | (simp [errW_none, errW_some] <;> rfl) | (simp [*, errW_none, errW_some] <;> rfl), bl HB⟩
                rw [if_neg c27] at H
                exact absurd H (by simp)
               rw [if_neg c26] at H
               have c26b0 : decide (x6_4 < (((rd_T40 ((rd_T30 l0_0 x3_2).f4) x5_3).f0).length : Int)) = false := decide_eq_false c26
               clear c26
               have H' := Aside0.mk H
               clear H
               have hnb38 := NB445_440.out
               have hnc38 := NB440_445.out
               obtain ⟨hcz39_0, hcz39_1, hcz39_2, hcz39_3, hcz39_4⟩ := bk5 BK445.out
               have hfz39_0 := bf BK445.out
               have p447 : 0 ≤ (x5_3 : Int) := of_decide_eq_true (by assumption)
               have q447 : x5_3 < (((rd_T30 l0_0 x3_2).f4).length : Int) := of_decide_eq_true (by assumption)
               obtain ⟨ad447, A447_0, c447_0, e447, hx447_0, hl447_0, hi447_0⟩ := at_T40 HR444_4.out x5_3 p447 q447
               cases e447
               replace hx447_0 := (HB.out.cell (World.block_lt_of_cell? w _ hx447_0)).trans hx447_0
               have HR447_0 := Aside0.mk hi447_0
               have HC447_0 := Aside0.mk hl447_0
               clear hi447_0 hl447_0
               replace p447 := eq_true p447
               replace q447 := eq_true q447
               go_wp2
               go_roundg k4
               case measure => have := HJ1.out; have := HK2.out; have := HK3.out; have := HK4.out; omega
               case rel => exact ⟨(wrap64 (x5_3 + 1)), (by first | rfl | (simp; done) | (simp [*]; done)), H', ⟨by have := HJ1.out; have := HK2.out; have := HK3.out; have := HK4.out; omega⟩, ⟨bx BK440.out⟩, ⟨bx BK445.out⟩, ⟨bl HB⟩⟩
              rw [if_neg c25] at H
              exact absurd H (by simp)
             rw [if_neg c24] at H
             exact absurd H (by simp)
          rw [if_neg c21] at H
          have c21b0 : decide (x5_3 < (((rd_T30 l0_0 x3_2).f4).length : Int)) = false := decide_eq_false c21
          clear c21
          have H' := Aside0.mk H
          clear H
          have hnb40 := NB445_440.out
          have hnc40 := NB440_445.out
          obtain ⟨hcz41_0, hcz41_1, hcz41_2, hcz41_3, hcz41_4⟩ := bk5 BK445.out
          have hfz41_0 := bf BK445.out
          go_wp2
          go_roundg k3
          case measure => have := HJ1.out; have := HK2.out; have := HK3.out; omega
          case rel => exact ⟨(wrap64 (x3_2 + 1)), (by first | rfl | (simp; done) | (simp [*]; done)), H', ⟨by have := HJ1.out; have := HK2.out; have := HK3.out; omega⟩, ⟨bx BK440.out⟩, ⟨bl HB⟩⟩
       replace c15 := Bool.eq_false_iff.mpr c15
       subst c15
       have H1 : (some 5) = some r := by rw [if_neg (show ¬ (false = true) by decide)] at H; exact H
       clear H
       have H := H1
       clear H1
       obtain rfl := Option.some.inj H
       have hcz42_0 := bk1 BK440.out
       have hfz42_0 := bf BK440.out
       have p444 : 0 ≤ (x3_2 : Int) := of_decide_eq_true (by assumption)
       have q444 : x3_2 < (l0_0.length : Int) := of_decide_eq_true (by assumption)
       obtain ⟨ad444, A444_0, c444_0, A444_1, c444_1, A444_4, c444_4, e444, hx444_0, hx444_1, hx444_2, hx444_3, hx444_4, hl444_0, hi444_0, hl444_1, hi444_1, hl444_4, hi444_4⟩ := at_T30 HR0_0.out x3_2 p444 q444
       cases e444
       replace hx444_0 := (HB.out.cell (World.block_lt_of_cell? w _ hx444_0)).trans hx444_0
       replace hx444_1 := (HB.out.cell (World.block_lt_of_cell? w _ hx444_1)).trans hx444_1
       replace hx444_2 := (HB.out.cell (World.block_lt_of_cell? w _ hx444_2)).trans hx444_2
       replace hx444_3 := (HB.out.cell (World.block_lt_of_cell? w _ hx444_3)).trans hx444_3
       replace hx444_4 := (HB.out.cell (World.block_lt_of_cell? w _ hx444_4)).trans hx444_4
       have HR444_0 := Aside0.mk hi444_0
       have HC444_0 := Aside0.mk hl444_0
       clear hi444_0 hl444_0
       have HR444_1 := Aside0.mk hi444_1
       have HC444_1 := Aside0.mk hl444_1
       clear hi444_1 hl444_1
       have HR444_4 := Aside0.mk hi444_4
       have HC444_4 := Aside0.mk hl444_4
       clear hi444_4 hl444_4
       replace p444 := eq_true p444
       replace q444 := eq_true q444
       go_wp2_with (first | ((with_reducible refine gate_dst (N := 4) rfl ?_); refine box_event ?hg (N := 4) ?hd (cs := #[.slice none 0 0, .slice none 0 0, .int .i64 0, .int .i64 0, .slice none 0 0]) (t := 30) ?hr ?_; (case hd => rfl); (case hg => rfl); (case hr => first | (go_simp; done) | (go_simp; rfl)); intro gb445 hg w43 hbox hb; have BK445 := Aside0.mk (hbox); have GW445 := ge hg (bl HB); have GE445 := ge hg (bl HB); replace HB := Aside0.mk (below_step (bl HB) hb); have NB440_445 := Aside0.mk ((by rw [hg]; exact Nat.ne_of_lt (blk_lt (g := gb440) (o := .cells #[.slice (some ad444) l0_0.length c0_0] 24 (0, 0)) (bx BK440.out)) : gb440 ≠ gb445)); have NB445_440 := Aside0.mk ((by rw [hg]; exact Nat.ne_of_gt (blk_lt (g := gb440) (o := .cells #[.slice (some ad444) l0_0.length c0_0] 24 (0, 0)) (bx BK440.out)) : gb445 ≠ gb440)); replace BK440 := Aside0.mk (blk_below (bx BK440.out) hb); clear hb hbox hg; have hnb44 := NB445_440.out; have hnc44 := NB440_445.out; obtain ⟨hcz45_0, hcz45_1, hcz45_2, hcz45_3, hcz45_4⟩ := bk5 BK445.out; have hfz45_0 := bf BK445.out) | ((with_reducible refine gate_callee (f := 57) rfl ?_); refine goesL_ (some 41) rfl rfl Tryd.func57 (by kernel_rfl) rfl #[.agg #[.slice A444_0 ((rd_T30 l0_0 x3_2).f0).length c444_0, .slice A444_1 ((rd_T30 l0_0 x3_2).f1).length c444_1, .int .i64 ((rd_T30 l0_0 x3_2).f2), .int .i64 ((rd_T30 l0_0 x3_2).f3), .slice A444_4 ((rd_T30 l0_0 x3_2).f4).length c444_4]] rfl (by (try simp only [List.map_toArray, List.map_cons, List.map_nil]); first | done | rfl) ?_; (with_reducible refine (portolanref04_Func.calls k2 _ _ ((rd_T30 l0_0 x3_2).f0) _ _ ((rd_T30 l0_0 x3_2).f1) ((rd_T30 l0_0 x3_2).f2) ((rd_T30 l0_0 x3_2).f3) _ _ ((rd_T30 l0_0 x3_2).f4) false _ ?side1 ?side2 ?side3 ?side4 ?side5 ?side6 A14.out).mono ?_); (case side1 => exact Kd.C_below HR444_0.out (bl HB)); (case side2 => exact HC444_0.out); (case side3 => exact Kd.C_below HR444_1.out (bl HB)); (case side4 => exact HC444_1.out); (case side5 => exact Kd.C_below HR444_4.out (bl HB)); (case side6 => exact HC444_4.out); rintro e w46 ⟨rfl, hb⟩; refine ⟨_, rfl, ?_⟩; replace BK440 := Aside0.mk (blk_below (g := gb440) (o := .cells #[.slice (some ad444) l0_0.length c0_0] 24 (0, 0)) (by refine bp ?_; refine blk_far ?_ NB440_445.out _; refine bp ?_; refine blk_far ?_ NB440_445.out _; refine bp ?_; refine blk_far ?_ NB440_445.out _; refine bp ?_; refine blk_far ?_ NB440_445.out _; refine bp ?_; refine blk_far ?_ NB440_445.out _; refine bp ?_; exact BK440.out) hb); replace BK445 := Aside0.mk (blk_below (g := gb445) (o := .cells #[.slice A444_0 ((rd_T30 l0_0 x3_2).f0).length c444_0, .slice A444_1 ((rd_T30 l0_0 x3_2).f1).length c444_1, .int .i64 ((rd_T30 l0_0 x3_2).f2), .int .i64 ((rd_T30 l0_0 x3_2).f3), .slice A444_4 ((rd_T30 l0_0 x3_2).f4).length c444_4] 30 (0, 0)) (by refine bp ?_; refine blk_put (cs := #[.slice A444_0 ((rd_T30 l0_0 x3_2).f0).length c444_0, .slice A444_1 ((rd_T30 l0_0 x3_2).f1).length c444_1, .int .i64 ((rd_T30 l0_0 x3_2).f2), .int .i64 ((rd_T30 l0_0 x3_2).f3), .slice none 0 0]) ?_ 4 _ rfl; refine bp ?_; refine blk_put (cs := #[.slice A444_0 ((rd_T30 l0_0 x3_2).f0).length c444_0, .slice A444_1 ((rd_T30 l0_0 x3_2).f1).length c444_1, .int .i64 ((rd_T30 l0_0 x3_2).f2), .int .i64 0, .slice none 0 0]) ?_ 3 _ rfl; refine bp ?_; refine blk_put (cs := #[.slice A444_0 ((rd_T30 l0_0 x3_2).f0).length c444_0, .slice A444_1 ((rd_T30 l0_0 x3_2).f1).length c444_1, .int .i64 0, .int .i64 0, .slice none 0 0]) ?_ 2 _ rfl; refine bp ?_; refine blk_put (cs := #[.slice A444_0 ((rd_T30 l0_0 x3_2).f0).length c444_0, .slice none 0 0, .int .i64 0, .int .i64 0, .slice none 0 0]) ?_ 1 _ rfl; refine bp ?_; refine blk_put (cs := #[.slice none 0 0, .slice none 0 0, .int .i64 0, .int .i64 0, .slice none 0 0]) ?_ 0 _ rfl; refine bp ?_; exact BK445.out) hb); replace HB := Aside0.mk (below_step (bl HB) hb); (try clear hb); (try clear hb2); (try clear hk); (try clear hi)))
       go_ret
       exact ⟨by first | rfl | (simp [errW_none, errW_some] <;> rfl) | (simp [*, errW_none, errW_some] <;> rfl), bl HB⟩
      rw [if_neg c13] at H
      exact absurd H (by simp)
     rw [if_neg c12] at H
     have c12b0 : decide (x3_2 < (l0_0.length : Int)) = false := decide_eq_false c12
     clear c12
     obtain rfl := Option.some.inj H
     have hcz47_0 := bk1 BK440.out
     have hfz47_0 := bf BK440.out
     go_wp2
     go_ret
     exact ⟨by first | rfl | (simp [errW_none, errW_some] <;> rfl) | (simp [*, errW_none, errW_some] <;> rfl), bl HB⟩
end Go.Proofs.YtdmimhjmbdkhmaaDoor.X
