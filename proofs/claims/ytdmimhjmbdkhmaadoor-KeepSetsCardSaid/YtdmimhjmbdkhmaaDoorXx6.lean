/- Part of a proof about the Go function named in the last text of this claim. -/
import Derived.Test.YtdmimhjmbdkhmaaDoorZw
import Derived.Test.YtdmimhjmbdkhmaaDoorXx0
import Derived.Test.YtdmimhjmbdkhmaaDoorXx2
import Derived.Test.YtdmimhjmbdkhmaaDoorXx3
import Derived.Test.YtdmimhjmbdkhmaaDoorXx5
import Derived.Test.YtdmimhjmbdkhmaaDoorZg
import Derived.Test.YtdmimhjmbdkhmaaDoorZk
set_option linter.unusedVariables false
set_option linter.unusedSimpArgs false
namespace Go.Proofs.YtdmimhjmbdkhmaaDoor.X
open Go.RowKit Go.Proofs.YtdmimhjmbdkhmaaDoorW.PrintWords Go.Proofs.YtdmimhjmbdkhmaaDoorW.PrintLast Go.Proofs.YtdmimhjmbdkhmaaDoorW.PrintMore
attribute [local go_sem] max2_int min2_int max_two min_two max_three min_three max_four min_four
set_option linter.unusedVariables false
set_option linter.unusedSimpArgs false
def live_Behind.f (k : Nat) (l0_0 : List Int) (l0_1 : List Int) (a0_2 : Int) (a0_3 : Int) (l0_4 : List (S40)) (a1 : Int) (a2 : Int) : Option (List Int) := (live_there.f l0_0 l0_1 a0_2 a0_3 l0_4 a1 a2).bind fun t257 => (if t257 = true then ((live_outs.f k l0_0 l0_1 a0_2 a0_3 l0_4).bind fun t258 => (if 0 ≤ a1 then (if a1 < (t258.length : Int) then ((live_through.f k l0_0 l0_1 a0_2 a0_3 l0_4 a1 (wrap64 (a2 + 1)) (rd_L1 t258 a1)).bind fun t262 => (some t262)) else (none)) else (none))) else (some ([] : List Int)))
theorem live_Behind.mono : ∀ a0 a1 a2 a3 a4 a5 a6 k, LeO (live_Behind.f k a0 a1 a2 a3 a4 a5 a6) (live_Behind.f (k + 1) a0 a1 a2 a3 a4 a5 a6) := by
 intro a0 a1 a2 a3 a4 a5 a6 k
 unfold live_Behind.f
 repeat' first
  | (with_reducible exact live_outs.mono _ _ _ _ _ _)
  | (with_reducible exact live_through.mono _ _ _ _ _ _ _ _ _)
  | (with_reducible exact LeO.refl _)
  | (with_reducible exact LeO.none _)
  | (with_reducible refine LeO.ite ?_ ?_)
  | (with_reducible refine LeO.bind ?_ (fun _ => ?_))
  | exact live_outs.mono _ _ _ _ _ _
  | exact live_through.mono _ _ _ _ _ _ _ _ _
  | exact LeO.none _
  | refine LeO.ite ?_ ?_
  | refine LeO.bind ?_ (fun _ => ?_)
def live_Behind.T3 : Bool × List (List Nat × List Nat) := (true, [([], []), ([], []), ([], []), ([2], [2]), ([], []), ([4], [4]), ([], []), ([5, 6], [5, 6]), ([7], [7]), ([0, 1, 3, 8, 5], [0, 1, 3, 8]), ([9, 9, 0, 1, 2, 3, 4, 5, 6, 7, 8, 9], [9])])
def live_Behind.B3 : List Nat := [0, 0, 0, 4, 0, 16, 0, 112, 240, 511, 1023]
theorem live_Behind.tab3 : rtab .any (opsOf Tryd.f15 3) = live_Behind.T3 := by kernel_rfl
theorem live_Behind.bits3 : waitsOk live_Behind.T3.2 live_Behind.B3 = true := by kernel_rfl
set_option maxHeartbeats 8000000 in
set_option maxRecDepth 100000 in
theorem live_Behind.calls (k : Nat) (A0_0 : Option Addr) (c0_0 : Nat) (l0_0 : List Int) (A0_1 : Option Addr) (c0_1 : Nat) (l0_1 : List Int) (a0_2 : Int) (a0_3 : Int) (A0_4 : Option Addr) (c0_4 : Nat) (l0_4 : List (S40)) (a1 : Int) (a2 : Int) (r : List Int) (w : World) (hGG : GG w) (hr0_0 : Kd.C (Kd.int .i64) w A0_0 l0_0.length l0_0) (hc0_0 : l0_0.length ≤ c0_0) (hr0_1 : Kd.C (Kd.int .i64) w A0_1 l0_1.length l0_1) (hc0_1 : l0_1.length ≤ c0_1) (hr0_4 : Kd.C k40 w A0_4 l0_4.length l0_4) (hc0_4 : l0_4.length ≤ c0_4) (h : live_Behind.f k l0_0 l0_1 a0_2 a0_3 l0_4 a1 a2 = some r) :
 Calls Tryd.prog 15 #[.agg #[.slice A0_0 l0_0.length c0_0, .slice A0_1 l0_1.length c0_1, .int .i64 a0_2, .int .i64 a0_3, .slice A0_4 l0_4.length c0_4], .int .i64 a1, .int .i64 a2] w fun e w' => ∃ v0_ : Value, e = .returned (v0_) ∧ Kd.V (Kd.int .u64) 67 w' w.heap.size (fun k_ => (w.heap.size ≤ k_)) v0_ r ∧ Below w.heap.size w w' := by
 have hu30 := Tryd.underlying30
 have HGG := Aside0.mk hGG
 clear hGG
 have HR0_0 := Aside0.mk hr0_0
 have HC0_0 := Aside0.mk hc0_0
 clear hr0_0 hc0_0
 have HR0_1 := Aside0.mk hr0_1
 have HC0_1 := Aside0.mk hc0_1
 clear hr0_1 hc0_1
 have HR0_4 := Aside0.mk hr0_4
 have HC0_4 := Aside0.mk hc0_4
 clear hr0_4 hc0_4
 have HB := Aside0.mk (Below.refl w.heap.size w)
 have H : ((live_there.f l0_0 l0_1 a0_2 a0_3 l0_4 a1 a2).bind fun t257 => (if t257 = true then ((live_outs.f k l0_0 l0_1 a0_2 a0_3 l0_4).bind fun t258 => (if 0 ≤ a1 then (if a1 < (t258.length : Int) then ((live_through.f k l0_0 l0_1 a0_2 a0_3 l0_4 a1 (wrap64 (a2 + 1)) (rd_L1 t258 a1)).bind fun t262 => (some t262)) else (none)) else (none))) else (some ([] : List Int)))) = some r := h
 clear h
 replace H := Option.bind_eq_some_iff.mp H
 obtain ⟨t257, A40, H⟩ := H
 replace H : (if t257 = true then ((live_outs.f k l0_0 l0_1 a0_2 a0_3 l0_4).bind fun t258 => (if 0 ≤ a1 then (if a1 < (t258.length : Int) then ((live_through.f k l0_0 l0_1 a0_2 a0_3 l0_4 a1 (wrap64 (a2 + 1)) (rd_L1 t258 a1)).bind fun t262 => (some t262)) else (none)) else (none))) else (some ([] : List Int))) = some r := H
 have A4 := Aside0.mk A40
 clear A40
 by_cases c5 : t257 = true
 ·
  subst c5
  have H1 : ((live_outs.f k l0_0 l0_1 a0_2 a0_3 l0_4).bind fun t258 => (if 0 ≤ a1 then (if a1 < (t258.length : Int) then ((live_through.f k l0_0 l0_1 a0_2 a0_3 l0_4 a1 (wrap64 (a2 + 1)) (rd_L1 t258 a1)).bind fun t262 => (some t262)) else (none)) else (none))) = some r := by rw [if_pos rfl] at H; exact H
  clear H
  have H := H1
  clear H1
  replace H := Option.bind_eq_some_iff.mp H
  obtain ⟨t258, A60, H⟩ := H
  replace H : (if 0 ≤ a1 then (if a1 < (t258.length : Int) then ((live_through.f k l0_0 l0_1 a0_2 a0_3 l0_4 a1 (wrap64 (a2 + 1)) (rd_L1 t258 a1)).bind fun t262 => (some t262)) else (none)) else (none)) = some r := H
  have A6 := Aside0.mk A60
  clear A60
  by_cases c7 : 0 ≤ a1
  ·
   rw [if_pos c7] at H
   have c7b0 : decide (0 ≤ a1) = true := decide_eq_true c7
   clear c7
   by_cases c8 : a1 < (t258.length : Int)
   ·
    rw [if_pos c8] at H
    have c8b0 : decide (a1 < (t258.length : Int)) = true := decide_eq_true c8
    clear c8
    replace H := Option.bind_eq_some_iff.mp H
    obtain ⟨t262, A90, H⟩ := H
    replace H : (some t262) = some r := H
    have A9 := Aside0.mk A90
    clear A90
    obtain rfl := Option.some.inj H
    go_enter Tryd.func15, Tryd.ntmps15
    try go_wp2_with (first | ((with_reducible refine gate_dst (N := 3) rfl ?_); refine box_event ?hg (N := 3) ?hd (cs := #[.slice A0_0 l0_0.length c0_0, .slice A0_1 l0_1.length c0_1, .int .i64 a0_2, .int .i64 a0_3, .slice A0_4 l0_4.length c0_4]) (t := 30) ?hr ?_; (case hd => rfl); (case hg => rfl); (case hr => first | (go_simp; done) | (go_simp; rfl)); intro gb256 hg w10 hbox hb; have BK256 := Aside0.mk (hbox); have GW256 := ge hg (bl HB); have GE256 := ge hg (bl HB); replace HB := Aside0.mk (below_step (bl HB) hb); clear hb hbox hg; obtain ⟨hcz11_0, hcz11_1, hcz11_2, hcz11_3, hcz11_4⟩ := bk5 BK256.out; have hfz11_0 := bf BK256.out) | ((with_reducible refine gate_callee (f := 41) rfl ?_); refine goesL_ (some 10) rfl rfl Tryd.func41 (by kernel_rfl) rfl #[.agg #[.slice A0_0 l0_0.length c0_0, .slice A0_1 l0_1.length c0_1, .int .i64 a0_2, .int .i64 a0_3, .slice A0_4 l0_4.length c0_4], .int .i64 a1, .int .i64 a2] rfl (by (try simp only [List.map_toArray, List.map_cons, List.map_nil]); first | done | rfl) ?_; (with_reducible refine (live_there.calls _ _ l0_0 _ _ l0_1 a0_2 a0_3 _ _ l0_4 a1 a2 true _ ?side1 ?side2 ?side3 ?side4 ?side5 ?side6 A4.out).mono ?_); (case side1 => exact Kd.Cx (Kd.C_below HR0_0.out HB.out)); (case side2 => exact HC0_0.out); (case side3 => exact Kd.Cx (Kd.C_below HR0_1.out HB.out)); (case side4 => exact HC0_1.out); (case side5 => exact Kd.Cx (Kd.C_below HR0_4.out HB.out)); (case side6 => exact HC0_4.out); rintro e w12 ⟨rfl, hb⟩; refine ⟨_, rfl, ?_⟩; replace BK256 := Aside0.mk (blk_below (bx BK256.out) hb); replace HB := Aside0.mk (below_step (bl HB) hb); (try clear hb); (try clear hb2); (try clear hk); (try clear hi)))
    replace BK256 := Aside0.mk (blk_drew BK256.out); replace HB := Aside0.mk (below_drew1 HB.out)
    refine start_ (n := 11) (S := fun w' => w'.cell? ⟨gb256, 0, none⟩ = some (.slice A0_0 l0_0.length c0_0) ∧ w'.cell? ⟨gb256, 1, none⟩ = some (.slice A0_1 l0_1.length c0_1) ∧ w'.cell? ⟨gb256, 2, none⟩ = some (.int .i64 a0_2) ∧ w'.cell? ⟨gb256, 3, none⟩ = some (.int .i64 a0_3) ∧ w'.cell? ⟨gb256, 4, none⟩ = some (.slice A0_4 l0_4.length c0_4)) (ds := []) #[false, false, false, false, false, false, false, false, false, false, false] (by kernel_rfl) rfl rfl ⟨(blk_cell BK256.out 0).trans rfl, (blk_cell BK256.out 1).trans rfl, (blk_cell BK256.out 2).trans rfl, (blk_cell BK256.out 3).trans rfl, (blk_cell BK256.out 4).trans rfl⟩ (fun hHeld => ?_); refine with_tabW live_Behind.tab3 live_Behind.bits3 (fun HT_ HW_ => ?_)
    generalize w12.drew = w13 at BK256 HB hHeld ⊢
    refine pure_ (i := 1) (N := some 13) (v := ?_) (a' := ?_) #[false, true, false, false, false, false, false, false, false, false, false] rfl rfl (any_of HT_.out (by kernel_rfl)) (fun _ _ _ h => h) (Or.inl ⟨by rfl, ?_⟩) ?_ ?_
    rotate_left
    ·
     intro w'
     go_simp
     with_reducible rfl
    rotate_left
    ·
     simp only [Act.put, List.setIfInBounds_toArray, List.set_cons_zero, List.set_cons_succ, i64_w, i32_w]
     rfl
    refine pure_ (i := 2) (N := some 14) (v := ?_) (a' := ?_) #[false, true, true, false, false, false, false, false, false, false, false] rfl rfl (any_of HT_.out (by kernel_rfl)) (fun _ _ _ h => h) (Or.inl ⟨by rfl, ?_⟩) ?_ ?_
    rotate_left
    ·
     intro w'
     go_simp
     with_reducible rfl
    rotate_left
    ·
     simp only [Act.put, List.setIfInBounds_toArray, List.set_cons_zero, List.set_cons_succ, i64_w, i32_w]
     rfl
    refine pure_ (i := 3) (N := some 15) (v := ?_) (a' := ?_) #[false, true, true, true, false, false, false, false, false, false, false] rfl rfl (any_of HT_.out (by kernel_rfl)) (fun _ _ _ h => h) (Or.inl ⟨by rfl, ?_⟩) ?_ ?_
    rotate_left
    ·
     intro w'
     go_simp
     with_reducible rfl
    rotate_left
    ·
     simp only [Act.put, List.setIfInBounds_toArray, List.set_cons_zero, List.set_cons_succ, i64_w, i32_w]
     rfl
    refine pure_ (i := 6) (N := some 18) (v := ?_) (a' := ?_) #[false, true, true, true, false, false, true, false, false, false, false] rfl rfl (any_of HT_.out (by kernel_rfl)) (fun _ _ _ h => h) (Or.inl ⟨by rfl, ?_⟩) ?_ ?_
    rotate_left
    ·
     intro w'
     go_simp
     with_reducible rfl
    rotate_left
    ·
     simp only [Act.put, List.setIfInBounds_toArray, List.set_cons_zero, List.set_cons_succ, i64_w, i32_w]
     rfl
    refine take_ (i := 0) (N := some 12) (v := ?_) (a' := ?_) #[true, true, true, true, false, false, true, false, false, false, false] rfl rfl (take_ofW HT_.out HW_.out (by kernel_rfl)) (fun _ _ _ h => h) (Or.inl ⟨by rfl, ?_⟩) hHeld ?_ ?_
    rotate_left
    ·
     rintro w' ⟨s0, s1, s2, s3, s4⟩
     go_simp
     with_reducible rfl
    rotate_left
    ·
     simp only [Act.put, List.setIfInBounds_toArray, List.set_cons_zero, List.set_cons_succ, i64_w, i32_w]
     rfl
    refine take_ (i := 4) (N := some 16) (v := ?_) (a' := ?_) #[true, true, true, true, true, false, true, false, false, false, false] rfl rfl (take_ofW HT_.out HW_.out (by kernel_rfl)) (fun _ _ _ h => h) (Or.inl ⟨by rfl, ?_⟩) hHeld ?_ ?_
    rotate_left
    ·
     rintro w' ⟨s0, s1, s2, s3, s4⟩
     go_simp
     with_reducible rfl
    rotate_left
    ·
     simp only [Act.put, List.setIfInBounds_toArray, List.set_cons_zero, List.set_cons_succ, i64_w, i32_w]
     rfl
    refine one_ (i := 5) (N := some 17) #[true, true, true, true, true, true, true, false, false, false, false] rfl rfl (one_of HT_.out (by kernel_rfl)) (by decide) (fun K hK => ?_)
    refine goes_ Tryd.func39 (by kernel_rfl) rfl #[.agg #[.slice A0_0 l0_0.length c0_0, .slice A0_1 l0_1.length c0_1, .int .i64 a0_2, .int .i64 a0_3, .slice A0_4 l0_4.length c0_4]] (by rfl) rfl rfl (by (try simp only [List.map_toArray, List.map_cons, List.map_nil]); first | done | rfl) ?_
    with_reducible refine (live_outs.calls k _ _ l0_0 _ _ l0_1 a0_2 a0_3 _ _ l0_4 t258 _ ?side7 ?side1 ?side2 ?side3 ?side4 ?side5 ?side6 A6.out).mono ?_
    (case side1 => exact Kd.Cx (Kd.C_below HR0_0.out HB.out))
    (case side2 => exact HC0_0.out)
    (case side3 => exact Kd.Cx (Kd.C_below HR0_1.out HB.out))
    (case side4 => exact HC0_1.out)
    (case side5 => exact Kd.Cx (Kd.C_below HR0_4.out HB.out))
    (case side6 => exact HC0_4.out)
    (case side7 => exact GG_below HGG.out (bl HB))
    rintro e w14 ⟨v259, rfl, ho0, hb⟩
    refine ⟨_, rfl, ?_⟩
    have HO260 := Aside0.mk (Kd.N_lower (Kd.N_mono (ok' := fun k_ => (w.heap.size ≤ k_) ∧ k_ ≠ gb256) ho0 (fun k_ hk_ => ⟨(Nat.le_trans (below_size (bl HB)) hk_), (Kd.freshB (g := gb256) (o := .cells #[.slice A0_0 l0_0.length c0_0, .slice A0_1 l0_1.length c0_1, .int .i64 a0_2, .int .i64 a0_3, .slice A0_4 l0_4.length c0_4] 30 (0, 0)) (bx BK256.out) k_ hk_)⟩)) (below_size (bl HB))); replace BK256 := Aside0.mk (blk_below (bx BK256.out) hb); replace HB := Aside0.mk (below_step (bl HB) hb)
    (try clear hb)
    (try clear hb2)
    (try clear hk)
    (try clear hi)
    (try clear ho0)
    obtain ⟨Ao15, co15, eo15⟩ := Kd.N_slice HO260.out
    (first | subst eo15 | (injection eo15 with f1_ f2_ f3_; have f4_ := f1_.symm; have f5_ := f3_.symm; clear f1_ f2_ f3_; subst f4_; subst f5_))
    have p261 : 0 ≤ (a1 : Int) := of_decide_eq_true (by assumption)
    have q261 : a1 < (t258.length : Int) := of_decide_eq_true (by assumption)
    obtain ⟨ad261, A261_0, c261_0, e261, hx261_0, hl261_0, hi261_0⟩ := at_L1 (Kd.N_reads' HO260.out).2.2 a1 p261 q261
    cases e261
    obtain ⟨ce261, hce261, hMe261, hcc261⟩ := Kd.N_get HO260.out [] a1 p261 (by first | exact q261 | exact of_decide_eq_true (by assumption) | (have e_ := (Kd.N_reads' HO260.out).1; omega))
    obtain ⟨ua261_0, uc261_0, rfl, ul261_0, ge261_0⟩ := Kd.FK_slice_open hMe261
    have hv261_0 := hcc261 0 _ rfl
    rw [Nat.add_zero, show ((Kd.slice 67 (Kd.int .u64))).sz = 1 from rfl, Nat.mul_one] at hv261_0
    replace hv261_0 := Option.some.inj (hv261_0.symm.trans hx261_0)
    injection hv261_0 with hva_ hvn_ hvc_
    rw [hva_] at ge261_0
    rw [hvc_] at ul261_0
    have HL261_0 := Aside0.mk (show Kd.V (Kd.int .u64) 67 _ w.heap.size _ _ (rd_L1 t258 a1) from Kd.V_mk ul261_0 ge261_0)
    clear hva_ hvn_ hvc_ ge261_0 ul261_0
    clear hcc261 hce261
    have HR261_0 := Aside0.mk hi261_0
    have HC261_0 := Aside0.mk hl261_0
    clear hi261_0 hl261_0
    replace p261 := eq_true p261
    replace q261 := eq_true q261
    refine hK.out _ _ ⟨(blk_cell BK256.out 0).trans rfl, (blk_cell BK256.out 1).trans rfl, (blk_cell BK256.out 2).trans rfl, (blk_cell BK256.out 3).trans rfl, (blk_cell BK256.out 4).trans rfl⟩ (fun hHeld => ?_)
    clear hK K
    refine norm_ (a' := ?_) ?_ ?_
    rotate_left
    ·
     show Act.put _ (some 17) _ = _
     simp only [Act.put, List.setIfInBounds_toArray, List.set_cons_zero, List.set_cons_succ, i64_w, i32_w]
     rfl
    refine pure_ (i := 7) (N := some 19) (v := ?_) (a' := ?_) #[true, true, true, true, true, true, true, true, false, false, false] rfl rfl (any_of HT_.out (by kernel_rfl)) (fun _ _ _ h => h) (Or.inl ⟨by rfl, ?_⟩) ?_ ?_
    rotate_left
    ·
     intro w'
     go_simp
     with_reducible rfl
    rotate_left
    ·
     simp only [Act.put, List.setIfInBounds_toArray, List.set_cons_zero, List.set_cons_succ, i64_w, i32_w]
     rfl
    refine one_ (i := 8) (N := some 20) #[true, true, true, true, true, true, true, true, true, false, false] rfl rfl (one_of HT_.out (by kernel_rfl)) (by decide) (fun K hK => ?_)
    refine value_ (v := .slice A261_0 (rd_L1 t258 a1).length c261_0) (w1 := w14) (by rfl) rfl ?_ ?_
    ·
     go_simp
    refine hK.out _ _ ⟨(blk_cell BK256.out 0).trans rfl, (blk_cell BK256.out 1).trans rfl, (blk_cell BK256.out 2).trans rfl, (blk_cell BK256.out 3).trans rfl, (blk_cell BK256.out 4).trans rfl⟩ (fun hHeld => ?_)
    clear hK K
    refine norm_ (a' := ?_) ?_ ?_
    rotate_left
    ·
     show Act.put _ (some 20) _ = _
     simp only [Act.put, List.setIfInBounds_toArray, List.set_cons_zero, List.set_cons_succ, i64_w, i32_w]
     rfl
    refine one_ (i := 9) (N := some 21) #[true, true, true, true, true, true, true, true, true, true, false] rfl rfl (one_of HT_.out (by kernel_rfl)) (by decide) (fun K hK => ?_)
    refine goes_ Tryd.func42 (by kernel_rfl) rfl #[.agg #[.slice A0_0 l0_0.length c0_0, .slice A0_1 l0_1.length c0_1, .int .i64 a0_2, .int .i64 a0_3, .slice A0_4 l0_4.length c0_4], .int .i64 a1, .int .i64 (wrap64 (a2 + 1)), .slice A261_0 (rd_L1 t258 a1).length c261_0] (by rfl) rfl rfl (by (try simp only [List.map_toArray, List.map_cons, List.map_nil]); first | done | rfl) ?_
    with_reducible refine (live_through.calls k _ _ l0_0 _ _ l0_1 a0_2 a0_3 _ _ l0_4 a1 (wrap64 (a2 + 1)) (fun k_ => (((w.heap.size ≤ k_) ∧ k_ ≠ gb256) ∧ some k_ ≠ (.slice (some ad261) t258.length co15 : Value).ownBlock)) _ _ (rd_L1 t258 a1) t262 _ ?side8 ?side1 ?side2 ?side3 ?side4 ?side5 ?side6 ?side7 A9.out).mono ?_
    (case side1 => exact Kd.Cx (Kd.C_below HR0_0.out HB.out))
    (case side2 => exact HC0_0.out)
    (case side3 => exact Kd.Cx (Kd.C_below HR0_1.out HB.out))
    (case side4 => exact HC0_1.out)
    (case side5 => exact Kd.Cx (Kd.C_below HR0_4.out HB.out))
    (case side6 => exact HC0_4.out)
    (case side7 => exact HL261_0.out)
    (case side8 => exact GG_below HGG.out (bl HB))
    rintro e w16 ⟨v263, rfl, ho0, hb⟩
    refine ⟨_, rfl, ?_⟩
    replace HL261_0 := Aside0.mk (Kd.V_below (Kd.Vx HL261_0.out) hb); have HO264 := Aside0.mk (Kd.V_lower (Kd.V_mono (ok' := fun k_ => (w.heap.size ≤ k_) ∧ some k_ ≠ (.slice (some ad261) t258.length co15 : Value).ownBlock ∧ k_ ≠ gb256) ho0 (fun k_ hk_ => ⟨Or.elim hk_ (fun hs_ => hs_.1.1) (fun hn_ => (Nat.le_trans (below_size (bl HB)) hn_)), Or.elim hk_ (fun hs_ => hs_.2) (fun hn_ => (Kd.fresh' (Kd.N_lt (Kd.Nx HO260.out)) k_ hn_)), Or.elim hk_ (fun hs_ => hs_.1.2) (fun hn_ => (Kd.freshB (g := gb256) (o := .cells #[.slice A0_0 l0_0.length c0_0, .slice A0_1 l0_1.length c0_1, .int .i64 a0_2, .int .i64 a0_3, .slice A0_4 l0_4.length c0_4] 30 (0, 0)) (bx BK256.out) k_ hn_))⟩)) (below_size (bl HB))); replace HO260 := Aside0.mk (Kd.N_below (Kd.Nx HO260.out) hb); replace BK256 := Aside0.mk (blk_below (bx BK256.out) hb); replace HR261_0 := Aside0.mk (Kd.C_below (by repeat (first | (with_reducible exact HR261_0.out) | (with_reducible refine Kd.C_alloc ?_ _) | (with_reducible refine Kd.C_drewN ?_ _) | (with_reducible refine Kd.C_drew ?_) | exact HR261_0.out)) hb); replace HB := Aside0.mk (below_step (bl HB) hb)
    (try clear hb)
    (try clear hb2)
    (try clear hk)
    (try clear hi)
    (try clear ho0)
    refine hK.out _ _ ⟨(blk_cell BK256.out 0).trans rfl, (blk_cell BK256.out 1).trans rfl, (blk_cell BK256.out 2).trans rfl, (blk_cell BK256.out 3).trans rfl, (blk_cell BK256.out 4).trans rfl⟩ (fun hHeld => ?_)
    clear hK K
    refine norm_ (a' := ?_) ?_ ?_
    rotate_left
    ·
     show Act.put _ (some 21) _ = _
     simp only [Act.put, List.setIfInBounds_toArray, List.set_cons_zero, List.set_cons_succ, i64_w, i32_w]
     rfl
    refine pure_ (i := 10) (N := some 6) (v := ?_) (a' := ?_) #[true, true, true, true, true, true, true, true, true, true, true] rfl rfl (any_of HT_.out (by kernel_rfl)) (fun _ _ _ h => h) (Or.inl ⟨by rfl, ?_⟩) ?_ ?_
    rotate_left
    ·
     intro w'
     go_simp
     with_reducible rfl
    rotate_left
    ·
     simp only [Act.put, List.setIfInBounds_toArray, List.set_cons_zero, List.set_cons_succ, i64_w, i32_w]
     rfl
    refine done_ (done_of HT_.out (by kernel_rfl)) ?_
    try go_wp2
    go_ret
    exact ⟨_, by first | rfl | (simp [errW_none, errW_some] <;> rfl) | (simp [*, errW_none, errW_some] <;> rfl), by (with_reducible repeat (first | apply Kd.V_alloc | apply Kd.V_drewN | apply Kd.V_drew)); exact Kd.V_mono HO264.out (fun _ hk => hk.1), bl HB⟩
   rw [if_neg c8] at H
   exact absurd H (by simp)
  rw [if_neg c7] at H
  exact absurd H (by simp)
 replace c5 := Bool.eq_false_iff.mpr c5
 subst c5
 have H1 : (some ([] : List Int)) = some r := by rw [if_neg (show ¬ (false = true) by decide)] at H; exact H
 clear H
 have H := H1
 clear H1
 obtain rfl := Option.some.inj H
 go_enter Tryd.func15, Tryd.ntmps15
 go_wp2_with (first | ((with_reducible refine gate_dst (N := 3) rfl ?_); refine box_event ?hg (N := 3) ?hd (cs := #[.slice A0_0 l0_0.length c0_0, .slice A0_1 l0_1.length c0_1, .int .i64 a0_2, .int .i64 a0_3, .slice A0_4 l0_4.length c0_4]) (t := 30) ?hr ?_; (case hd => rfl); (case hg => rfl); (case hr => first | (go_simp; done) | (go_simp; rfl)); intro gb256 hg w17 hbox hb; have BK256 := Aside0.mk (hbox); have GW256 := ge hg (bl HB); have GE256 := ge hg (bl HB); replace HB := Aside0.mk (below_step (bl HB) hb); clear hb hbox hg; obtain ⟨hcz18_0, hcz18_1, hcz18_2, hcz18_3, hcz18_4⟩ := bk5 BK256.out; have hfz18_0 := bf BK256.out) | ((with_reducible refine gate_callee (f := 41) rfl ?_); refine goesL_ (some 10) rfl rfl Tryd.func41 (by kernel_rfl) rfl #[.agg #[.slice A0_0 l0_0.length c0_0, .slice A0_1 l0_1.length c0_1, .int .i64 a0_2, .int .i64 a0_3, .slice A0_4 l0_4.length c0_4], .int .i64 a1, .int .i64 a2] rfl (by (try simp only [List.map_toArray, List.map_cons, List.map_nil]); first | done | rfl) ?_; (with_reducible refine (live_there.calls _ _ l0_0 _ _ l0_1 a0_2 a0_3 _ _ l0_4 a1 a2 false _ ?side1 ?side2 ?side3 ?side4 ?side5 ?side6 A4.out).mono ?_); (case side1 => exact Kd.Cx (Kd.C_below HR0_0.out HB.out)); (case side2 => exact HC0_0.out); (case side3 => exact Kd.Cx (Kd.C_below HR0_1.out HB.out)); (case side4 => exact HC0_1.out); (case side5 => exact Kd.Cx (Kd.C_below HR0_4.out HB.out)); (case side6 => exact HC0_4.out); rintro e w19 ⟨rfl, hb⟩; refine ⟨_, rfl, ?_⟩; replace BK256 := Aside0.mk (blk_below (bx BK256.out) hb); replace HB := Aside0.mk (below_step (bl HB) hb); (try clear hb); (try clear hb2); (try clear hk); (try clear hi)))
 go_ret
 exact ⟨_, by first | rfl | (simp [errW_none, errW_some] <;> rfl) | (simp [*, errW_none, errW_some] <;> rfl), (Kd.V_nil _ _ _ _ _), bl HB⟩
def bitset_Of.f (k : Nat) (l0 : List Int) : Option (List Int) := (bitset_With.f k ([] : List Int) l0).bind fun t265 => (some t265)
theorem bitset_Of.mono : ∀ a0 k, LeO (bitset_Of.f k a0) (bitset_Of.f (k + 1) a0) := by
 intro a0 k
 unfold bitset_Of.f
 repeat' first
  | (with_reducible exact bitset_With.mono _ _ _)
  | (with_reducible exact LeO.refl _)
  | (with_reducible exact LeO.none _)
  | (with_reducible refine LeO.ite ?_ ?_)
  | (with_reducible refine LeO.bind ?_ (fun _ => ?_))
  | exact bitset_With.mono _ _ _
  | exact LeO.none _
  | refine LeO.ite ?_ ?_
  | refine LeO.bind ?_ (fun _ => ?_)
set_option maxHeartbeats 8000000 in
set_option maxRecDepth 100000 in
theorem bitset_Of.calls (k : Nat) (A0 : Option Addr) (c0 : Nat) (l0 : List Int) (r : List Int) (w : World) (hr0 : Kd.C (Kd.int .i64) w A0 l0.length l0) (hc0 : l0.length ≤ c0) (h : bitset_Of.f k l0 = some r) :
 Calls Tryd.prog 49 #[.slice A0 l0.length c0] w fun e w' => ∃ v0_ : Value, e = .returned (v0_) ∧ Kd.V (Kd.int .u64) 67 w' w.heap.size (fun k_ => (w.heap.size ≤ k_)) v0_ r ∧ Below w.heap.size w w' := by
 have HR0 := Aside0.mk hr0
 have HC0 := Aside0.mk hc0
 clear hr0 hc0
 have HB := Aside0.mk (Below.refl w.heap.size w)
 have H : ((bitset_With.f k ([] : List Int) l0).bind fun t265 => (some t265)) = some r := h
 clear h
 replace H := Option.bind_eq_some_iff.mp H
 obtain ⟨t265, A20, H⟩ := H
 replace H : (some t265) = some r := H
 have A2 := Aside0.mk A20
 clear A20
 obtain rfl := Option.some.inj H
 go_enter Tryd.func49, Tryd.ntmps49
 go_wp2_with (first | ((with_reducible refine gate_callee (f := 52) rfl ?_); refine goesL_ (some 4) rfl rfl Tryd.func52 (by kernel_rfl) rfl #[.slice none 0 0, .slice A0 l0.length c0] rfl (by (try simp only [List.map_toArray, List.map_cons, List.map_nil]); first | done | rfl) ?_; (refine (bitset_With.calls k _ _ ([] : List Int) _ _ l0 t265 _ ?side1 ?side2 ?side3 ?side4 A2.out).mono ?_); (case side1 => exact Kd.C_nil _ _); (case side2 => exact Nat.le_refl _); (case side3 => exact Kd.Cx HR0.out); (case side4 => exact HC0.out); rintro e w3 ⟨v266, rfl, ho0, hb⟩; refine ⟨_, rfl, ?_⟩; have HO267 := Aside0.mk (Kd.V_lower (Kd.V_mono (ok' := fun k_ => (w.heap.size ≤ k_)) ho0 (fun k_ hk_ => (Nat.le_trans (below_size (bl HB)) hk_))) (below_size (bl HB))); replace HB := Aside0.mk (below_step (bl HB) hb); (try clear hb); (try clear hb2); (try clear hk); (try clear hi); (try clear ho0)))
 go_ret
 exact ⟨_, by first | rfl | (simp [errW_none, errW_some] <;> rfl) | (simp [*, errW_none, errW_some] <;> rfl), Kd.Vx HO267.out, bl HB⟩
def keep_Close.l0 : Nat → List Int → List Int → Int → Int → List Int → List Int → Int → Int → List (S40) → Option (List Int)
 | 0, _, _, _, _, _, _, _, _, _ => none
 | k + 1, x5, x14, x15, x16, x269000, x269001, x269002, x269003, x269004 => if x16 < x15 then (if 0 ≤ x16 then (if x16 < (x14.length : Int) then (if 0 ≤ (rd x14 x16) then (if (rd x14 x16) < (x269001.length : Int) then ((bitset_With.f k x5 (([rd x269001 (rd x14 x16)] : List Int))).bind fun t283 => (keep_Close.l0 k t283 x14 x15 (wrap64 (x16 + 1)) x269000 x269001 x269002 x269003 x269004)) else (none)) else (none)) else (none)) else (none)) else (some x5)
def keep_Close.f (k : Nat) (l0_0 : List Int) (l0_1 : List Int) (a0_2 : Int) (a0_3 : Int) (l0_4 : List (S40)) (l1 : List Int) : Option (List Int) := (keep_some.f k l0_0 l0_1 a0_2 a0_3 l0_4 l1).bind fun t269 => ((bitset_Of.f k t269).bind fun t272 => ((keep_Ders.f k l0_0 l0_1 a0_2 a0_3 l0_4 l1).bind fun t275 => (keep_Close.l0 k t272 t275 (t275.length : Int) 0 l0_0 l0_1 a0_2 a0_3 l0_4)))
theorem keep_Close.mono_l : ∀ k, (∀ y0 y1 y2 y3 y4 y5 y6 y7 y8, LeO (keep_Close.l0 k y0 y1 y2 y3 y4 y5 y6 y7 y8) (keep_Close.l0 (k + 1) y0 y1 y2 y3 y4 y5 y6 y7 y8))
 | 0 => fun _ _ _ _ _ _ _ _ _ r h => by simp [keep_Close.l0] at h
 | k + 1 => by
  have ih0 := keep_Close.mono_l k
  intro y0 y1 y2 y3 y4 y5 y6 y7 y8
  unfold keep_Close.l0
  repeat' first
  | (with_reducible exact ih0 _ _ _ _ _ _ _ _ _)
  | (with_reducible exact bitset_Of.mono _ _)
  | (with_reducible exact bitset_With.mono _ _ _)
  | (with_reducible exact keep_Ders.mono _ _ _ _ _ _ _)
  | (with_reducible exact keep_some.mono _ _ _ _ _ _ _)
  | (with_reducible exact LeO.refl _)
  | (with_reducible exact LeO.none _)
  | (with_reducible refine LeO.ite ?_ ?_)
  | (with_reducible refine LeO.bind ?_ (fun _ => ?_))
  | exact ih0 _ _ _ _ _ _ _ _ _
  | exact bitset_Of.mono _ _
  | exact bitset_With.mono _ _ _
  | exact keep_Ders.mono _ _ _ _ _ _ _
  | exact keep_some.mono _ _ _ _ _ _ _
  | exact LeO.none _
  | refine LeO.ite ?_ ?_
  | refine LeO.bind ?_ (fun _ => ?_)
theorem keep_Close.mono : ∀ a0 a1 a2 a3 a4 a5 k, LeO (keep_Close.f k a0 a1 a2 a3 a4 a5) (keep_Close.f (k + 1) a0 a1 a2 a3 a4 a5) := by
 intro a0 a1 a2 a3 a4 a5 k
 have ih0 := keep_Close.mono_l k
 unfold keep_Close.f
 repeat' first
  | (with_reducible exact ih0 _ _ _ _ _ _ _ _ _)
  | (with_reducible exact bitset_Of.mono _ _)
  | (with_reducible exact bitset_With.mono _ _ _)
  | (with_reducible exact keep_Ders.mono _ _ _ _ _ _ _)
  | (with_reducible exact keep_some.mono _ _ _ _ _ _ _)
  | (with_reducible exact LeO.refl _)
  | (with_reducible exact LeO.none _)
  | (with_reducible refine LeO.ite ?_ ?_)
  | (with_reducible refine LeO.bind ?_ (fun _ => ?_))
  | exact ih0 _ _ _ _ _ _ _ _ _
  | exact bitset_Of.mono _ _
  | exact bitset_With.mono _ _ _
  | exact keep_Ders.mono _ _ _ _ _ _ _
  | exact keep_some.mono _ _ _ _ _ _ _
  | exact LeO.none _
  | refine LeO.ite ?_ ?_
  | refine LeO.bind ?_ (fun _ => ?_)
set_option maxHeartbeats 8000000 in
set_option maxRecDepth 100000 in
theorem keep_Close.calls (k : Nat) (A0_0 : Option Addr) (c0_0 : Nat) (l0_0 : List Int) (A0_1 : Option Addr) (c0_1 : Nat) (l0_1 : List Int) (a0_2 : Int) (a0_3 : Int) (A0_4 : Option Addr) (c0_4 : Nat) (l0_4 : List (S40)) (A1 : Option Addr) (c1 : Nat) (l1 : List Int) (r : List Int) (w : World) (hGB : GB w) (hr0_0 : Kd.C (Kd.int .i64) w A0_0 l0_0.length l0_0) (hc0_0 : l0_0.length ≤ c0_0) (hr0_1 : Kd.C (Kd.int .i64) w A0_1 l0_1.length l0_1) (hc0_1 : l0_1.length ≤ c0_1) (hr0_4 : Kd.C k40 w A0_4 l0_4.length l0_4) (hc0_4 : l0_4.length ≤ c0_4) (hr1 : Kd.C (Kd.int .u64) w A1 l1.length l1) (hc1 : l1.length ≤ c1) (h : keep_Close.f k l0_0 l0_1 a0_2 a0_3 l0_4 l1 = some r) :
 Calls Tryd.prog 23 #[.agg #[.slice A0_0 l0_0.length c0_0, .slice A0_1 l0_1.length c0_1, .int .i64 a0_2, .int .i64 a0_3, .slice A0_4 l0_4.length c0_4], .slice A1 l1.length c1] w fun e w' => ∃ v0_ : Value, e = .returned (v0_) ∧ Kd.V (Kd.int .u64) 67 w' w.heap.size (fun k_ => (w.heap.size ≤ k_)) v0_ r ∧ Below w.heap.size w w' := by
 have hu30 := Tryd.underlying30
 have HGB := Aside0.mk hGB
 clear hGB
 have HR0_0 := Aside0.mk hr0_0
 have HC0_0 := Aside0.mk hc0_0
 clear hr0_0 hc0_0
 have HR0_1 := Aside0.mk hr0_1
 have HC0_1 := Aside0.mk hc0_1
 clear hr0_1 hc0_1
 have HR0_4 := Aside0.mk hr0_4
 have HC0_4 := Aside0.mk hc0_4
 clear hr0_4 hc0_4
 have HR1 := Aside0.mk hr1
 have HC1 := Aside0.mk hc1
 clear hr1 hc1
 have HB := Aside0.mk (Below.refl w.heap.size w)
 have H : ((keep_some.f k l0_0 l0_1 a0_2 a0_3 l0_4 l1).bind fun t269 => ((bitset_Of.f k t269).bind fun t272 => ((keep_Ders.f k l0_0 l0_1 a0_2 a0_3 l0_4 l1).bind fun t275 => (keep_Close.l0 k t272 t275 (t275.length : Int) 0 l0_0 l0_1 a0_2 a0_3 l0_4)))) = some r := h
 clear h
 replace H := Option.bind_eq_some_iff.mp H
 obtain ⟨t269, A30, H⟩ := H
 replace H : ((bitset_Of.f k t269).bind fun t272 => ((keep_Ders.f k l0_0 l0_1 a0_2 a0_3 l0_4 l1).bind fun t275 => (keep_Close.l0 k t272 t275 (t275.length : Int) 0 l0_0 l0_1 a0_2 a0_3 l0_4))) = some r := H
 have A3 := Aside0.mk A30
 clear A30
 replace H := Option.bind_eq_some_iff.mp H
 obtain ⟨t272, A40, H⟩ := H
 replace H : ((keep_Ders.f k l0_0 l0_1 a0_2 a0_3 l0_4 l1).bind fun t275 => (keep_Close.l0 k t272 t275 (t275.length : Int) 0 l0_0 l0_1 a0_2 a0_3 l0_4)) = some r := H
 have A4 := Aside0.mk A40
 clear A40
 replace H := Option.bind_eq_some_iff.mp H
 obtain ⟨t275, A50, H⟩ := H
 replace H : (keep_Close.l0 k t272 t275 (t275.length : Int) 0 l0_0 l0_1 a0_2 a0_3 l0_4) = some r := H
 have A5 := Aside0.mk A50
 clear A50
 have H' := Aside0.mk H
 clear H
 go_enter Tryd.func23, Tryd.ntmps23
 go_wp2_with (first | ((with_reducible refine gate_dst (N := 2) rfl ?_); refine box_event ?hg (N := 2) ?hd (cs := #[.slice A0_0 l0_0.length c0_0, .slice A0_1 l0_1.length c0_1, .int .i64 a0_2, .int .i64 a0_3, .slice A0_4 l0_4.length c0_4]) (t := 30) ?hr ?_; (case hd => rfl); (case hg => rfl); (case hr => first | (go_simp; done) | (go_simp; rfl)); intro gb268 hg w6 hbox hb; have BK268 := Aside0.mk (hbox); have GW268 := ge hg (bl HB); have GE268 := ge hg (bl HB); replace HB := Aside0.mk (below_step (bl HB) hb); clear hb hbox hg; obtain ⟨hcz7_0, hcz7_1, hcz7_2, hcz7_3, hcz7_4⟩ := bk5 BK268.out; have hfz7_0 := bf BK268.out) | ((with_reducible refine gate_callee (f := 50) rfl ?_); refine goesL_ (some 10) rfl rfl Tryd.func50 (by kernel_rfl) rfl #[.agg #[.slice A0_0 l0_0.length c0_0, .slice A0_1 l0_1.length c0_1, .int .i64 a0_2, .int .i64 a0_3, .slice A0_4 l0_4.length c0_4], .slice A1 l1.length c1, .func (.func 51) #[] #[]] rfl (by (try simp only [List.map_toArray, List.map_cons, List.map_nil]); first | done | rfl) ?_; (with_reducible refine (keep_some.calls k _ _ l0_0 _ _ l0_1 a0_2 a0_3 _ _ l0_4 _ _ l1 t269 _ ?side9 ?side1 ?side2 ?side3 ?side4 ?side5 ?side6 ?side7 ?side8 A3.out).mono ?_); (case side1 => exact Kd.Cx (Kd.C_below HR0_0.out HB.out)); (case side2 => exact HC0_0.out); (case side3 => exact Kd.Cx (Kd.C_below HR0_1.out HB.out)); (case side4 => exact HC0_1.out); (case side5 => exact Kd.Cx (Kd.C_below HR0_4.out HB.out)); (case side6 => exact HC0_4.out); (case side7 => exact Kd.Cx (Kd.C_below HR1.out HB.out)); (case side8 => exact HC1.out); (case side9 => exact GB_below HGB.out (bl HB)); rintro e w8 ⟨v270, rfl, ho0, hb⟩; refine ⟨_, rfl, ?_⟩; have HO271 := Aside0.mk (Kd.R_lower (Kd.R_newM (M := fun k_ => (w.heap.size ≤ k_)) ho0 (below_size (bl HB)) (fun k_ h_ => h_)) (below_size (bl HB))); replace BK268 := Aside0.mk (blk_below (bx BK268.out) hb); replace HB := Aside0.mk (below_step (bl HB) hb); (try clear hb); (try clear hb2); (try clear hk); (try clear hi); (try clear ho0); obtain ⟨Ao9, co9, eo9⟩ := Kd.R_slice HO271.out; subst eo9) | ((with_reducible refine gate_callee (f := 49) rfl ?_); refine goesL_ (some 11) rfl rfl Tryd.func49 (by kernel_rfl) rfl #[.slice Ao9 t269.length co9] rfl (by (try simp only [List.map_toArray, List.map_cons, List.map_nil]); first | done | rfl) ?_; (with_reducible refine (bitset_Of.calls k _ _ t269 t272 _ ?side1 ?side2 A4.out).mono ?_); (case side1 => exact Kd.Cx ((Kd.R_reads' HO271.out).2.2)); (case side2 => exact (Kd.R_reads' HO271.out).2.1); rintro e w10 ⟨v273, rfl, ho0, hb⟩; refine ⟨_, rfl, ?_⟩; have HO274 := Aside0.mk (Kd.V_lower (Kd.V_mono (ok' := fun k_ => (w.heap.size ≤ k_) ∧ some k_ ≠ (.slice Ao9 t269.length co9 : Value).ownBlock ∧ k_ ≠ gb268) ho0 (fun k_ hk_ => ⟨(Nat.le_trans (below_size (bl HB)) hk_), (Kd.fresh' (Kd.R_lt (Kd.Rx HO271.out)) k_ hk_), (Kd.freshB (g := gb268) (o := .cells #[.slice A0_0 l0_0.length c0_0, .slice A0_1 l0_1.length c0_1, .int .i64 a0_2, .int .i64 a0_3, .slice A0_4 l0_4.length c0_4] 30 (0, 0)) (bx BK268.out) k_ hk_)⟩)) (below_size (bl HB))); replace HO271 := Aside0.mk (Kd.R_below (Kd.Rx HO271.out) hb); replace BK268 := Aside0.mk (blk_below (bx BK268.out) hb); replace HB := Aside0.mk (below_step (bl HB) hb); (try clear hb); (try clear hb2); (try clear hk); (try clear hi); (try clear ho0); obtain ⟨hcz11_0, hcz11_1, hcz11_2, hcz11_3, hcz11_4⟩ := bk5 BK268.out; have hfz11_0 := bf BK268.out) | ((with_reducible refine gate_callee (f := 28) rfl ?_); refine goesL_ (some 14) rfl rfl Tryd.func28 (by kernel_rfl) rfl #[.agg #[.slice A0_0 l0_0.length c0_0, .slice A0_1 l0_1.length c0_1, .int .i64 a0_2, .int .i64 a0_3, .slice A0_4 l0_4.length c0_4], .slice A1 l1.length c1] rfl (by (try simp only [List.map_toArray, List.map_cons, List.map_nil]); first | done | rfl) ?_; (with_reducible refine (keep_Ders.calls k _ _ l0_0 _ _ l0_1 a0_2 a0_3 _ _ l0_4 _ _ l1 t275 _ ?side9 ?side1 ?side2 ?side3 ?side4 ?side5 ?side6 ?side7 ?side8 A5.out).mono ?_); (case side1 => exact Kd.Cx (Kd.C_below HR0_0.out HB.out)); (case side2 => exact HC0_0.out); (case side3 => exact Kd.Cx (Kd.C_below HR0_1.out HB.out)); (case side4 => exact HC0_1.out); (case side5 => exact Kd.Cx (Kd.C_below HR0_4.out HB.out)); (case side6 => exact HC0_4.out); (case side7 => exact Kd.Cx (Kd.C_below HR1.out HB.out)); (case side8 => exact HC1.out); (case side9 => exact GB_below HGB.out (bl HB)); rintro e w12 ⟨v276, rfl, ho0, hb⟩; refine ⟨_, rfl, ?_⟩; replace HO274 := Aside0.mk (Kd.V_elder' (Kd.Vx HO274.out) (Kd.R_base ho0) hb); have HO277 := Aside0.mk (Kd.R_lower (Kd.R_new' (Kd.R_newM (M := fun k_ => (w.heap.size ≤ k_)) ho0 (below_size (bl HB)) (fun k_ h_ => h_)) (Kd.R_lt (Kd.Rx HO271.out))) (below_size (bl HB))); replace HO271 := Aside0.mk (Kd.R_elder' (Kd.Rx HO271.out) (Kd.R_base ho0) hb); replace BK268 := Aside0.mk (blk_below (bx BK268.out) hb); replace HB := Aside0.mk (below_step (bl HB) hb); (try clear hb); (try clear hb2); (try clear hk); (try clear hi); (try clear ho0); obtain ⟨Ao13, co13, eo13⟩ := Kd.R_slice HO277.out; subst eo13))
 go_loopg [5, 16] k (fun kq v5 v16 w' => ∃ (x5_1 : List Int) (x16_1 : Int), v16 = .int .i64 x16_1 ∧ Aside0 (keep_Close.l0 kq x5_1 t275 (t275.length : Int) x16_1 l0_0 l0_1 a0_2 a0_3 l0_4 = some r) ∧ Aside0 (kq ≤ k) ∧ Aside0 (Kd.V (Kd.int .u64) 67 w' w.heap.size (fun k_ => (w.heap.size ≤ k_) ∧ some k_ ≠ ((.slice Ao13 t275.length co13) : Value).ownBlock ∧ k_ ≠ gb268) v5 x5_1) ∧ Aside0 (Kd.R (Kd.int .i64) 3 w' w.heap.size (fun k_ => (w.heap.size ≤ k_)) (.slice Ao13 t275.length co13) t275) ∧ Aside0 (w'.heap[gb268]? = some (.cells #[(.slice A0_0 l0_0.length c0_0), (.slice A0_1 l0_1.length c0_1), .int .i64 a0_2, .int .i64 a0_3, (.slice A0_4 l0_4.length c0_4)] 30 (0, 0))) ∧ Aside0 (Below w.heap.size w w'))
 case atStart => exact ⟨(t272), (0), (by first | rfl | (simp; done) | (simp [*]; done)), H', ⟨Nat.le_refl _⟩, ⟨by (with_reducible repeat (first | apply Kd.V_alloc | apply Kd.V_drewN | apply Kd.V_drew)); exact Kd.V_mono HO274.out (fun _ hk => ⟨hk.1.1, ⟨hk.2, hk.1.2.2⟩⟩)⟩, ⟨by (with_reducible repeat (first | apply Kd.R_alloc | apply Kd.R_drewN | apply Kd.R_drew)); exact Kd.R_mono HO277.out (fun _ hk => hk.1.1)⟩, ⟨bx BK268.out⟩, ⟨bl HB⟩⟩
 case round =>
  clear H'
  try clear c1
  try clear c2
  try clear p2
  try clear c4
  try clear c5
  try clear hcz11_0 hcz11_1 hcz11_2 hcz11_3 hcz11_4
  try clear hcz7_0 hcz7_1 hcz7_2 hcz7_3 hcz7_4
  try clear hfz11_0
  try clear hfz7_0
  obtain ⟨x5_1, x16_1, rfl, HA, HK1, HO_5, HO_14, BK268, HB⟩ := hrel
  cases gk with
  | zero => exact absurd HA.out (by simp [keep_Close.l0])
  | succ k1 =>
   have H := HA.out
   clear HA
   simp only [keep_Close.l0] at H
   by_cases c14 : x16_1 < (t275.length : Int)
   ·
    rw [if_pos c14] at H
    have c14b0 : decide (x16_1 < (t275.length : Int)) = true := decide_eq_true c14
    clear c14
    by_cases c15 : 0 ≤ x16_1
    ·
     rw [if_pos c15] at H
     have c15b0 : decide (0 ≤ x16_1) = true := decide_eq_true c15
     clear c15
     by_cases c16 : x16_1 < (t275.length : Int)
     ·
      rw [if_pos c16] at H
      have c16b0 : decide (x16_1 < (t275.length : Int)) = true := decide_eq_true c16
      clear c16
      by_cases c17 : 0 ≤ (rd t275 x16_1)
      ·
       rw [if_pos c17] at H
       have c17b0 : decide (0 ≤ (rd t275 x16_1)) = true := decide_eq_true c17
       clear c17
       by_cases c18 : (rd t275 x16_1) < (l0_1.length : Int)
       ·
        rw [if_pos c18] at H
        have c18b0 : decide ((rd t275 x16_1) < (l0_1.length : Int)) = true := decide_eq_true c18
        clear c18
        obtain ⟨y280, hy280⟩ : ∃ y_ : List Int, y_ = (([rd l0_1 (rd t275 x16_1)] : List Int)) := ⟨_, rfl⟩
        replace H : ((bitset_With.f k1 x5_1 y280).bind fun t283 => (keep_Close.l0 k1 t283 t275 (t275.length : Int) (wrap64 (x16_1 + 1)) l0_0 l0_1 a0_2 a0_3 l0_4)) = some r := by first | (rw [hy280]; with_reducible exact H) | (have H2_ := (Option.bind_some _ _).symm.trans H; rw [hy280]; with_reducible exact H2_) | (have H2_ := (Option.bind_some _ _).symm.trans H; with_reducible exact H2_) | with_reducible exact H | (rw [hy280]; exact H) | exact H
        have Ny280 := Aside0.mk hy280
        clear hy280
        replace H := Option.bind_eq_some_iff.mp H
        obtain ⟨t283, A190, H⟩ := H
        replace H : (keep_Close.l0 k1 t283 t275 (t275.length : Int) (wrap64 (x16_1 + 1)) l0_0 l0_1 a0_2 a0_3 l0_4) = some r := H
        have A19 := Aside0.mk A190
        clear A190
        have H' := Aside0.mk H
        clear H
        have p278 : 0 ≤ (x16_1 : Int) := of_decide_eq_true (by assumption)
        have q278 : x16_1 < (t275.length : Int) := of_decide_eq_true (by assumption)
        obtain ⟨ad278, e278, hx278_0⟩ := Kd.at_int (Kd.R_reads' HO_14.out).2.2 x16_1 p278 q278
        cases e278
        replace p278 := eq_true p278
        replace q278 := eq_true q278
        obtain ⟨hcz20_0, hcz20_1, hcz20_2, hcz20_3, hcz20_4⟩ := bk5 BK268.out
        have hfz20_0 := bf BK268.out
        have p279 : 0 ≤ ((rd t275 x16_1) : Int) := of_decide_eq_true (by assumption)
        have q279 : (rd t275 x16_1) < (l0_1.length : Int) := of_decide_eq_true (by assumption)
        obtain ⟨ad279, e279, hx279_0⟩ := Kd.at_int HR0_1.out (rd t275 x16_1) p279 q279
        cases e279
        replace hx279_0 := (HB.out.cell (World.block_lt_of_cell? w _ hx279_0)).trans hx279_0
        replace p279 := eq_true p279
        replace q279 := eq_true q279
        go_wp2_with (first | ((with_reducible refine gate_dst (N := 26) rfl ?_); refine Kd.R_lit (Kd.int .i64) _ 3 ?hg (N := 26) ?hd (xs := ([rd l0_1 (rd t275 x16_1)] : List Int)) (inner := [.int .i64 (rd l0_1 (rd t275 x16_1))]) (ok := fun _ => True) (okp := fun _ => True) ?hr ?hp (fun _ hk => hk) trivial (Below.refl _ _) (Nat.le_refl _) (by simp) ?_; (case hd => rfl); (case hg => rfl); (case hr => first | (go_simp; done) | (go_simp; rfl)); (case hp => exact (Reps.one (show Kd.M (Kd.int .i64) _ _ _ (rd l0_1 (rd t275 x16_1)) [.int .i64 (rd l0_1 (rd t275 x16_1))] from rfl) (Reps.none _ _))); intro v281 w21 ho22 hb hg_ hnew_; clear hg_ hnew_; (first | rw [← Ny280.out] at ho22 | (simp only [Int.reduceToNat] at ho22; rw [← Ny280.out] at ho22)); replace HO_5 := Aside0.mk (Kd.V_elder' (Kd.Vx HO_5.out) (Kd.R_base ho22) hb); have HO282 := Aside0.mk (Kd.R_lower (Kd.R_new' (Kd.R_newM (M := fun k_ => (w.heap.size ≤ k_)) ho22 (below_size (bl HB)) (fun k_ h_ => h_)) (Kd.R_lt (Kd.Rx HO_14.out))) (below_size (bl HB))); replace HO_14 := Aside0.mk (Kd.R_elder' (Kd.Rx HO_14.out) (Kd.R_base ho22) hb); replace BK268 := Aside0.mk (blk_below (bx BK268.out) hb); replace HB := Aside0.mk (below_step (bl HB) hb); clear hb ho22; obtain ⟨Ao23, co23, eo23⟩ := Kd.V_slice HO_5.out; subst eo23; obtain ⟨Ao24, co24, eo24⟩ := Kd.R_slice HO282.out; subst eo24) | ((with_reducible refine gate_callee (f := 52) rfl ?_); refine goesL_ (some 27) rfl rfl Tryd.func52 (by kernel_rfl) rfl #[.slice Ao23 x5_1.length co23, .slice Ao24 y280.length co24] rfl (by (try simp only [List.map_toArray, List.map_cons, List.map_nil]); first | done | rfl) ?_; (with_reducible refine (bitset_With.calls k1 _ _ x5_1 _ _ y280 t283 _ ?side1 ?side2 ?side3 ?side4 A19.out).mono ?_); (case side1 => exact Kd.Cx ((Kd.V_reads' HO_5.out).2.2)); (case side2 => exact (Kd.V_reads' HO_5.out).2.1); (case side3 => exact Kd.Cx ((Kd.R_reads' HO282.out).2.2)); (case side4 => exact (Kd.R_reads' HO282.out).2.1); rintro e w25 ⟨v284, rfl, ho0, hb⟩; refine ⟨_, rfl, ?_⟩; replace HO_5 := Aside0.mk (Kd.V_below (Kd.Vx HO_5.out) hb); have HO285 := Aside0.mk (Kd.V_lower (Kd.V_mono (ok' := fun k_ => (w.heap.size ≤ k_) ∧ some k_ ≠ (.slice (some ad278) t275.length co13 : Value).ownBlock ∧ some k_ ≠ (.slice Ao24 y280.length co24 : Value).ownBlock ∧ k_ ≠ gb268) ho0 (fun k_ hk_ => ⟨(Nat.le_trans (below_size (bl HB)) hk_), (Kd.fresh' (Kd.R_lt (Kd.Rx HO_14.out)) k_ hk_), (Kd.fresh' (Kd.R_lt (Kd.Rx HO282.out)) k_ hk_), (Kd.freshB (g := gb268) (o := .cells #[.slice A0_0 l0_0.length c0_0, .slice (some ad279) l0_1.length c0_1, .int .i64 a0_2, .int .i64 a0_3, .slice A0_4 l0_4.length c0_4] 30 (0, 0)) (bx BK268.out) k_ hk_)⟩)) (below_size (bl HB))); replace HO_14 := Aside0.mk (Kd.R_below (Kd.Rx HO_14.out) hb); replace HO282 := Aside0.mk (Kd.R_below (Kd.Rx HO282.out) hb); replace BK268 := Aside0.mk (blk_below (bx BK268.out) hb); replace HB := Aside0.mk (below_step (bl HB) hb); (try clear hb); (try clear hb2); (try clear hk); (try clear hi); (try clear ho0)))
        go_roundg k1
        case measure => have := HK1.out; omega
        case rel => exact ⟨(t283), (wrap64 (x16_1 + 1)), (by first | rfl | (simp; done) | (simp [*]; done)), H', ⟨by have := HK1.out; omega⟩, ⟨by (with_reducible repeat (first | apply Kd.V_alloc | apply Kd.V_drewN | apply Kd.V_drew)); exact Kd.V_mono HO285.out (fun _ hk => ⟨hk.1, ⟨hk.2.1, hk.2.2.2⟩⟩)⟩, ⟨by (with_reducible repeat (first | apply Kd.R_alloc | apply Kd.R_drewN | apply Kd.R_drew)); exact Kd.R_mono HO_14.out (fun _ hk => hk.1)⟩, ⟨bx BK268.out⟩, ⟨bl HB⟩⟩
       rw [if_neg c18] at H
       exact absurd H (by simp)
      rw [if_neg c17] at H
      exact absurd H (by simp)
     rw [if_neg c16] at H
     exact absurd H (by simp)
    rw [if_neg c15] at H
    exact absurd H (by simp)
   rw [if_neg c14] at H
   have c14b0 : decide (x16_1 < (t275.length : Int)) = false := decide_eq_false c14
   clear c14
   obtain rfl := Option.some.inj H
   go_wp2
   go_ret
   exact ⟨_, by first | rfl | (simp [errW_none, errW_some] <;> rfl) | (simp [*, errW_none, errW_some] <;> rfl), by (with_reducible repeat (first | apply Kd.V_alloc | apply Kd.V_drewN | apply Kd.V_drew)); exact Kd.V_mono HO_5.out (fun _ hk => hk.1), bl HB⟩
def keep_Behind.f (k : Nat) (l0_0 : List Int) (l0_1 : List Int) (a0_2 : Int) (a0_3 : Int) (l0_4 : List (S40)) (a1 : Int) (a2 : Int) : Option (List Int) := (live_Behind.f k l0_0 l0_1 a0_2 a0_3 l0_4 a1 a2).bind fun t287 => ((keep_Close.f k l0_0 l0_1 a0_2 a0_3 l0_4 t287).bind fun t290 => (some t290))
theorem keep_Behind.mono : ∀ a0 a1 a2 a3 a4 a5 a6 k, LeO (keep_Behind.f k a0 a1 a2 a3 a4 a5 a6) (keep_Behind.f (k + 1) a0 a1 a2 a3 a4 a5 a6) := by
 intro a0 a1 a2 a3 a4 a5 a6 k
 unfold keep_Behind.f
 repeat' first
  | (with_reducible exact keep_Close.mono _ _ _ _ _ _ _)
  | (with_reducible exact live_Behind.mono _ _ _ _ _ _ _ _)
  | (with_reducible exact LeO.refl _)
  | (with_reducible exact LeO.none _)
  | (with_reducible refine LeO.ite ?_ ?_)
  | (with_reducible refine LeO.bind ?_ (fun _ => ?_))
  | exact keep_Close.mono _ _ _ _ _ _ _
  | exact live_Behind.mono _ _ _ _ _ _ _ _
  | exact LeO.none _
  | refine LeO.ite ?_ ?_
  | refine LeO.bind ?_ (fun _ => ?_)
set_option maxHeartbeats 8000000 in
set_option maxRecDepth 100000 in
theorem keep_Behind.calls (k : Nat) (A0_0 : Option Addr) (c0_0 : Nat) (l0_0 : List Int) (A0_1 : Option Addr) (c0_1 : Nat) (l0_1 : List Int) (a0_2 : Int) (a0_3 : Int) (A0_4 : Option Addr) (c0_4 : Nat) (l0_4 : List (S40)) (a1 : Int) (a2 : Int) (r : List Int) (w : World) (hGG : GG w) (hGB : GB w) (hr0_0 : Kd.C (Kd.int .i64) w A0_0 l0_0.length l0_0) (hc0_0 : l0_0.length ≤ c0_0) (hr0_1 : Kd.C (Kd.int .i64) w A0_1 l0_1.length l0_1) (hc0_1 : l0_1.length ≤ c0_1) (hr0_4 : Kd.C k40 w A0_4 l0_4.length l0_4) (hc0_4 : l0_4.length ≤ c0_4) (h : keep_Behind.f k l0_0 l0_1 a0_2 a0_3 l0_4 a1 a2 = some r) :
 Calls Tryd.prog 47 #[.agg #[.slice A0_0 l0_0.length c0_0, .slice A0_1 l0_1.length c0_1, .int .i64 a0_2, .int .i64 a0_3, .slice A0_4 l0_4.length c0_4], .int .i64 a1, .int .i64 a2] w fun e w' => ∃ v0_ : Value, e = .returned (v0_) ∧ Kd.V (Kd.int .u64) 67 w' w.heap.size (fun k_ => (w.heap.size ≤ k_)) v0_ r ∧ Below w.heap.size w w' := by
 have hu30 := Tryd.underlying30
 have HGG := Aside0.mk hGG
 clear hGG
 have HGB := Aside0.mk hGB
 clear hGB
 have HR0_0 := Aside0.mk hr0_0
 have HC0_0 := Aside0.mk hc0_0
 clear hr0_0 hc0_0
 have HR0_1 := Aside0.mk hr0_1
 have HC0_1 := Aside0.mk hc0_1
 clear hr0_1 hc0_1
 have HR0_4 := Aside0.mk hr0_4
 have HC0_4 := Aside0.mk hc0_4
 clear hr0_4 hc0_4
 have HB := Aside0.mk (Below.refl w.heap.size w)
 have H : ((live_Behind.f k l0_0 l0_1 a0_2 a0_3 l0_4 a1 a2).bind fun t287 => ((keep_Close.f k l0_0 l0_1 a0_2 a0_3 l0_4 t287).bind fun t290 => (some t290))) = some r := h
 clear h
 replace H := Option.bind_eq_some_iff.mp H
 obtain ⟨t287, A40, H⟩ := H
 replace H : ((keep_Close.f k l0_0 l0_1 a0_2 a0_3 l0_4 t287).bind fun t290 => (some t290)) = some r := H
 have A4 := Aside0.mk A40
 clear A40
 replace H := Option.bind_eq_some_iff.mp H
 obtain ⟨t290, A50, H⟩ := H
 replace H : (some t290) = some r := H
 have A5 := Aside0.mk A50
 clear A50
 obtain rfl := Option.some.inj H
 go_enter Tryd.func47, Tryd.ntmps47
 try go_wp2_with (first | ((with_reducible refine gate_dst (N := 3) rfl ?_); refine box_event ?hg (N := 3) ?hd (cs := #[.slice A0_0 l0_0.length c0_0, .slice A0_1 l0_1.length c0_1, .int .i64 a0_2, .int .i64 a0_3, .slice A0_4 l0_4.length c0_4]) (t := 30) ?hr ?_; (case hd => rfl); (case hg => rfl); (case hr => first | (go_simp; done) | (go_simp; rfl)); intro gb286 hg w6 hbox hb; have BK286 := Aside0.mk (hbox); have GW286 := ge hg (bl HB); have GE286 := ge hg (bl HB); replace HB := Aside0.mk (below_step (bl HB) hb); clear hb hbox hg))
 replace BK286 := Aside0.mk (blk_drew BK286.out); replace HB := Aside0.mk (below_drew1 HB.out)
 refine start_ (n := 7) (S := fun w' => w'.cell? ⟨gb286, 0, none⟩ = some (.slice A0_0 l0_0.length c0_0) ∧ w'.cell? ⟨gb286, 1, none⟩ = some (.slice A0_1 l0_1.length c0_1) ∧ w'.cell? ⟨gb286, 2, none⟩ = some (.int .i64 a0_2) ∧ w'.cell? ⟨gb286, 3, none⟩ = some (.int .i64 a0_3) ∧ w'.cell? ⟨gb286, 4, none⟩ = some (.slice A0_4 l0_4.length c0_4)) (ds := []) #[false, false, false, false, false, false, false] (by kernel_rfl) rfl rfl ⟨(blk_cell BK286.out 0).trans rfl, (blk_cell BK286.out 1).trans rfl, (blk_cell BK286.out 2).trans rfl, (blk_cell BK286.out 3).trans rfl, (blk_cell BK286.out 4).trans rfl⟩ (fun hHeld => ?_)
 generalize w6.drew = w7 at BK286 HB hHeld ⊢
 refine pure_ (i := 2) (N := some 9) (v := ?_) (a' := ?_) #[false, false, true, false, false, false, false] rfl rfl (by kernel_rfl) (fun _ _ _ h => h) (Or.inl ⟨by rfl, ?_⟩) ?_ ?_
 rotate_left
 ·
  intro w'
  go_simp
  with_reducible rfl
 rotate_left
 ·
  simp only [Act.put, List.setIfInBounds_toArray, List.set_cons_zero, List.set_cons_succ, i64_w, i32_w]
  rfl
 refine pure_ (i := 3) (N := some 10) (v := ?_) (a' := ?_) #[false, false, true, true, false, false, false] rfl rfl (by kernel_rfl) (fun _ _ _ h => h) (Or.inl ⟨by rfl, ?_⟩) ?_ ?_
 rotate_left
 ·
  intro w'
  go_simp
  with_reducible rfl
 rotate_left
 ·
  simp only [Act.put, List.setIfInBounds_toArray, List.set_cons_zero, List.set_cons_succ, i64_w, i32_w]
  rfl
 refine take_ (i := 0) (N := some 7) (v := ?_) (a' := ?_) #[true, false, true, true, false, false, false] rfl rfl (by kernel_rfl) (fun _ _ _ h => h) (Or.inl ⟨by rfl, ?_⟩) hHeld ?_ ?_
 rotate_left
 ·
  rintro w' ⟨s0, s1, s2, s3, s4⟩
  go_simp
  with_reducible rfl
 rotate_left
 ·
  simp only [Act.put, List.setIfInBounds_toArray, List.set_cons_zero, List.set_cons_succ, i64_w, i32_w]
  rfl
 refine take_ (i := 1) (N := some 8) (v := ?_) (a' := ?_) #[true, true, true, true, false, false, false] rfl rfl (by kernel_rfl) (fun _ _ _ h => h) (Or.inl ⟨by rfl, ?_⟩) hHeld ?_ ?_
 rotate_left
 ·
  rintro w' ⟨s0, s1, s2, s3, s4⟩
  go_simp
  with_reducible rfl
 rotate_left
 ·
  simp only [Act.put, List.setIfInBounds_toArray, List.set_cons_zero, List.set_cons_succ, i64_w, i32_w]
  rfl
 refine one_ (i := 4) (N := some 11) #[true, true, true, true, true, false, false] rfl rfl (by kernel_rfl) (by decide) (fun K hK => ?_)
 refine goes_ Tryd.func15 (by kernel_rfl) rfl #[.agg #[.slice A0_0 l0_0.length c0_0, .slice A0_1 l0_1.length c0_1, .int .i64 a0_2, .int .i64 a0_3, .slice A0_4 l0_4.length c0_4], .int .i64 a1, .int .i64 a2] (by rfl) rfl rfl (by (try simp only [List.map_toArray, List.map_cons, List.map_nil]); first | done | rfl) ?_
 with_reducible refine (live_Behind.calls k _ _ l0_0 _ _ l0_1 a0_2 a0_3 _ _ l0_4 a1 a2 t287 _ ?side7 ?side1 ?side2 ?side3 ?side4 ?side5 ?side6 A4.out).mono ?_
 (case side1 => exact Kd.Cx (Kd.C_below HR0_0.out HB.out))
 (case side2 => exact HC0_0.out)
 (case side3 => exact Kd.Cx (Kd.C_below HR0_1.out HB.out))
 (case side4 => exact HC0_1.out)
 (case side5 => exact Kd.Cx (Kd.C_below HR0_4.out HB.out))
 (case side6 => exact HC0_4.out)
 (case side7 => exact GG_below HGG.out (bl HB))
 rintro e w8 ⟨v288, rfl, ho0, hb⟩
 refine ⟨_, rfl, ?_⟩
 have HO289 := Aside0.mk (Kd.V_lower (Kd.V_mono (ok' := fun k_ => (w.heap.size ≤ k_) ∧ k_ ≠ gb286) ho0 (fun k_ hk_ => ⟨(Nat.le_trans (below_size (bl HB)) hk_), (Kd.freshB (g := gb286) (o := .cells #[.slice A0_0 l0_0.length c0_0, .slice A0_1 l0_1.length c0_1, .int .i64 a0_2, .int .i64 a0_3, .slice A0_4 l0_4.length c0_4] 30 (0, 0)) (bx BK286.out) k_ hk_)⟩)) (below_size (bl HB))); replace BK286 := Aside0.mk (blk_below (bx BK286.out) hb); replace HB := Aside0.mk (below_step (bl HB) hb)
 (try clear hb)
 (try clear hb2)
 (try clear hk)
 (try clear hi)
 (try clear ho0)
 obtain ⟨Ao9, co9, eo9⟩ := Kd.V_slice HO289.out
 (first | subst eo9 | (injection eo9 with f1_ f2_ f3_; have f4_ := f1_.symm; have f5_ := f3_.symm; clear f1_ f2_ f3_; subst f4_; subst f5_))
 refine hK.out _ _ ⟨(blk_cell BK286.out 0).trans rfl, (blk_cell BK286.out 1).trans rfl, (blk_cell BK286.out 2).trans rfl, (blk_cell BK286.out 3).trans rfl, (blk_cell BK286.out 4).trans rfl⟩ (fun hHeld => ?_)
 clear hK K
 refine norm_ (a' := ?_) ?_ ?_
 rotate_left
 ·
  show Act.put _ (some 11) _ = _
  simp only [Act.put, List.setIfInBounds_toArray, List.set_cons_zero, List.set_cons_succ, i64_w, i32_w]
  rfl
 refine one_ (i := 5) (N := some 12) #[true, true, true, true, true, true, false] rfl rfl (by kernel_rfl) (by decide) (fun K hK => ?_)
 refine goes_ Tryd.func23 (by kernel_rfl) rfl #[.agg #[.slice A0_0 l0_0.length c0_0, .slice A0_1 l0_1.length c0_1, .int .i64 a0_2, .int .i64 a0_3, .slice A0_4 l0_4.length c0_4], .slice Ao9 t287.length co9] (by rfl) rfl rfl (by (try simp only [List.map_toArray, List.map_cons, List.map_nil]); first | done | rfl) ?_
 with_reducible refine (keep_Close.calls k _ _ l0_0 _ _ l0_1 a0_2 a0_3 _ _ l0_4 _ _ t287 t290 _ ?side9 ?side1 ?side2 ?side3 ?side4 ?side5 ?side6 ?side7 ?side8 A5.out).mono ?_
 (case side1 => exact Kd.Cx (Kd.C_below HR0_0.out HB.out))
 (case side2 => exact HC0_0.out)
 (case side3 => exact Kd.Cx (Kd.C_below HR0_1.out HB.out))
 (case side4 => exact HC0_1.out)
 (case side5 => exact Kd.Cx (Kd.C_below HR0_4.out HB.out))
 (case side6 => exact HC0_4.out)
 (case side7 => exact Kd.Cx ((Kd.V_reads' HO289.out).2.2))
 (case side8 => exact (Kd.V_reads' HO289.out).2.1)
 (case side9 => exact GB_below HGB.out (bl HB))
 rintro e w10 ⟨v291, rfl, ho0, hb⟩
 refine ⟨_, rfl, ?_⟩
 replace HO289 := Aside0.mk (Kd.V_below (Kd.Vx HO289.out) hb); have HO292 := Aside0.mk (Kd.V_lower (Kd.V_mono (ok' := fun k_ => (w.heap.size ≤ k_) ∧ k_ ≠ gb286) ho0 (fun k_ hk_ => ⟨(Nat.le_trans (below_size (bl HB)) hk_), (Kd.freshB (g := gb286) (o := .cells #[.slice A0_0 l0_0.length c0_0, .slice A0_1 l0_1.length c0_1, .int .i64 a0_2, .int .i64 a0_3, .slice A0_4 l0_4.length c0_4] 30 (0, 0)) (bx BK286.out) k_ hk_)⟩)) (below_size (bl HB))); replace BK286 := Aside0.mk (blk_below (bx BK286.out) hb); replace HB := Aside0.mk (below_step (bl HB) hb)
 (try clear hb)
 (try clear hb2)
 (try clear hk)
 (try clear hi)
 (try clear ho0)
 refine hK.out _ _ ⟨(blk_cell BK286.out 0).trans rfl, (blk_cell BK286.out 1).trans rfl, (blk_cell BK286.out 2).trans rfl, (blk_cell BK286.out 3).trans rfl, (blk_cell BK286.out 4).trans rfl⟩ (fun hHeld => ?_)
 clear hK K
 refine norm_ (a' := ?_) ?_ ?_
 rotate_left
 ·
  show Act.put _ (some 12) _ = _
  simp only [Act.put, List.setIfInBounds_toArray, List.set_cons_zero, List.set_cons_succ, i64_w, i32_w]
  rfl
 refine pure_ (i := 6) (N := some 6) (v := ?_) (a' := ?_) #[true, true, true, true, true, true, true] rfl rfl (by kernel_rfl) (fun _ _ _ h => h) (Or.inl ⟨by rfl, ?_⟩) ?_ ?_
 rotate_left
 ·
  intro w'
  go_simp
  with_reducible rfl
 rotate_left
 ·
  simp only [Act.put, List.setIfInBounds_toArray, List.set_cons_zero, List.set_cons_succ, i64_w, i32_w]
  rfl
 refine done_ (by kernel_rfl) ?_
 try go_wp2
 go_ret
 exact ⟨_, by first | rfl | (simp [errW_none, errW_some] <;> rfl) | (simp [*, errW_none, errW_some] <;> rfl), by (with_reducible repeat (first | apply Kd.V_alloc | apply Kd.V_drewN | apply Kd.V_drew)); exact Kd.V_mono HO292.out (fun _ hk => hk.1), bl HB⟩
def keep_Across.f (k : Nat) (l0_0 : List Int) (l0_1 : List Int) (a0_2 : Int) (a0_3 : Int) (l0_4 : List (S40)) (a1 : Int) (a2 : Int) : Option (List Int) := (keep_Behind.f k l0_0 l0_1 a0_2 a0_3 l0_4 a1 a2).bind fun t294 => (if (t294.length : Int) = 0 then (some t294) else (if 0 ≤ a1 then (if a1 < (l0_4.length : Int) then (if 0 ≤ a2 then (if a2 < (((rd_T40 l0_4 a1).f0).length : Int) then ((shape_Sets.f ((rd_T44 ((rd_T40 l0_4 a1).f0) a2).f0) ((rd_T44 ((rd_T40 l0_4 a1).f0) a2).f1) ((rd_T44 ((rd_T40 l0_4 a1).f0) a2).f2) ((rd_T44 ((rd_T40 l0_4 a1).f0) a2).f3) ((rd_T44 ((rd_T40 l0_4 a1).f0) a2).f4) ((rd_T44 ((rd_T40 l0_4 a1).f0) a2).f5) ((rd_T44 ((rd_T40 l0_4 a1).f0) a2).f6)).bind fun bt299 => (if bt299.2 = true then ((bitset_Without.f k t294 (([bt299.1] : List Int))).bind fun t304 => (some t304)) else (some t294))) else (none)) else (none)) else (none)) else (none)))
theorem keep_Across.mono : ∀ a0 a1 a2 a3 a4 a5 a6 k, LeO (keep_Across.f k a0 a1 a2 a3 a4 a5 a6) (keep_Across.f (k + 1) a0 a1 a2 a3 a4 a5 a6) := by
 intro a0 a1 a2 a3 a4 a5 a6 k
 unfold keep_Across.f
 repeat' first
  | (with_reducible exact bitset_Without.mono _ _ _)
  | (with_reducible exact keep_Behind.mono _ _ _ _ _ _ _ _)
  | (with_reducible exact LeO.refl _)
  | (with_reducible exact LeO.none _)
  | (with_reducible refine LeO.ite ?_ ?_)
  | (with_reducible refine LeO.bind ?_ (fun _ => ?_))
  | exact bitset_Without.mono _ _ _
  | exact keep_Behind.mono _ _ _ _ _ _ _ _
  | exact LeO.none _
  | refine LeO.ite ?_ ?_
  | refine LeO.bind ?_ (fun _ => ?_)
set_option maxHeartbeats 8000000 in
set_option maxRecDepth 100000 in
theorem keep_Across.calls (k : Nat) (A0_0 : Option Addr) (c0_0 : Nat) (l0_0 : List Int) (A0_1 : Option Addr) (c0_1 : Nat) (l0_1 : List Int) (a0_2 : Int) (a0_3 : Int) (A0_4 : Option Addr) (c0_4 : Nat) (l0_4 : List (S40)) (a1 : Int) (a2 : Int) (r : List Int) (w : World) (hGG : GG w) (hGB : GB w) (hr0_0 : Kd.C (Kd.int .i64) w A0_0 l0_0.length l0_0) (hc0_0 : l0_0.length ≤ c0_0) (hr0_1 : Kd.C (Kd.int .i64) w A0_1 l0_1.length l0_1) (hc0_1 : l0_1.length ≤ c0_1) (hr0_4 : Kd.C k40 w A0_4 l0_4.length l0_4) (hc0_4 : l0_4.length ≤ c0_4) (h : keep_Across.f k l0_0 l0_1 a0_2 a0_3 l0_4 a1 a2 = some r) :
 Calls Tryd.prog 48 #[.agg #[.slice A0_0 l0_0.length c0_0, .slice A0_1 l0_1.length c0_1, .int .i64 a0_2, .int .i64 a0_3, .slice A0_4 l0_4.length c0_4], .int .i64 a1, .int .i64 a2] w fun e w' => ∃ v0_ : Value, e = .returned (v0_) ∧ Kd.V (Kd.int .u64) 67 w' w.heap.size (fun k_ => (w.heap.size ≤ k_)) v0_ r ∧ Below w.heap.size w w' := by
 have hu30 := Tryd.underlying30
 have hu44 := Tryd.underlying44
 have HGG := Aside0.mk hGG
 clear hGG
 have HGB := Aside0.mk hGB
 clear hGB
 have HR0_0 := Aside0.mk hr0_0
 have HC0_0 := Aside0.mk hc0_0
 clear hr0_0 hc0_0
 have HR0_1 := Aside0.mk hr0_1
 have HC0_1 := Aside0.mk hc0_1
 clear hr0_1 hc0_1
 have HR0_4 := Aside0.mk hr0_4
 have HC0_4 := Aside0.mk hc0_4
 clear hr0_4 hc0_4
 have HB := Aside0.mk (Below.refl w.heap.size w)
 have H : ((keep_Behind.f k l0_0 l0_1 a0_2 a0_3 l0_4 a1 a2).bind fun t294 => (if (t294.length : Int) = 0 then (some t294) else (if 0 ≤ a1 then (if a1 < (l0_4.length : Int) then (if 0 ≤ a2 then (if a2 < (((rd_T40 l0_4 a1).f0).length : Int) then ((shape_Sets.f ((rd_T44 ((rd_T40 l0_4 a1).f0) a2).f0) ((rd_T44 ((rd_T40 l0_4 a1).f0) a2).f1) ((rd_T44 ((rd_T40 l0_4 a1).f0) a2).f2) ((rd_T44 ((rd_T40 l0_4 a1).f0) a2).f3) ((rd_T44 ((rd_T40 l0_4 a1).f0) a2).f4) ((rd_T44 ((rd_T40 l0_4 a1).f0) a2).f5) ((rd_T44 ((rd_T40 l0_4 a1).f0) a2).f6)).bind fun bt299 => (if bt299.2 = true then ((bitset_Without.f k t294 (([bt299.1] : List Int))).bind fun t304 => (some t304)) else (some t294))) else (none)) else (none)) else (none)) else (none)))) = some r := h
 clear h
 replace H := Option.bind_eq_some_iff.mp H
 obtain ⟨t294, A40, H⟩ := H
 replace H : (if (t294.length : Int) = 0 then (some t294) else (if 0 ≤ a1 then (if a1 < (l0_4.length : Int) then (if 0 ≤ a2 then (if a2 < (((rd_T40 l0_4 a1).f0).length : Int) then ((shape_Sets.f ((rd_T44 ((rd_T40 l0_4 a1).f0) a2).f0) ((rd_T44 ((rd_T40 l0_4 a1).f0) a2).f1) ((rd_T44 ((rd_T40 l0_4 a1).f0) a2).f2) ((rd_T44 ((rd_T40 l0_4 a1).f0) a2).f3) ((rd_T44 ((rd_T40 l0_4 a1).f0) a2).f4) ((rd_T44 ((rd_T40 l0_4 a1).f0) a2).f5) ((rd_T44 ((rd_T40 l0_4 a1).f0) a2).f6)).bind fun bt299 => (if bt299.2 = true then ((bitset_Without.f k t294 (([bt299.1] : List Int))).bind fun t304 => (some t304)) else (some t294))) else (none)) else (none)) else (none)) else (none))) = some r := H
 have A4 := Aside0.mk A40
 clear A40
 by_cases c5 : (t294.length : Int) = 0
 ·
  rw [if_pos c5] at H
  have c5b0 : ((t294.length : Int) == 0) = true := beq_iff_eq.mpr c5
  have c5b1 : ((t294.length : Int) != 0) = false := bne_eq_false_iff_eq.mpr c5
  clear c5
  obtain rfl := Option.some.inj H
  go_enter Tryd.func48, Tryd.ntmps48
  go_wp2_with (first | ((with_reducible refine gate_dst (N := 3) rfl ?_); refine box_event ?hg (N := 3) ?hd (cs := #[.slice A0_0 l0_0.length c0_0, .slice A0_1 l0_1.length c0_1, .int .i64 a0_2, .int .i64 a0_3, .slice A0_4 l0_4.length c0_4]) (t := 30) ?hr ?_; (case hd => rfl); (case hg => rfl); (case hr => first | (go_simp; done) | (go_simp; rfl)); intro gb293 hg w6 hbox hb; have BK293 := Aside0.mk (hbox); have GW293 := ge hg (bl HB); have GE293 := ge hg (bl HB); replace HB := Aside0.mk (below_step (bl HB) hb); clear hb hbox hg; obtain ⟨hcz7_0, hcz7_1, hcz7_2, hcz7_3, hcz7_4⟩ := bk5 BK293.out; have hfz7_0 := bf BK293.out) | ((with_reducible refine gate_callee (f := 47) rfl ?_); refine goesL_ (some 13) rfl rfl Tryd.func47 (by kernel_rfl) rfl #[.agg #[.slice A0_0 l0_0.length c0_0, .slice A0_1 l0_1.length c0_1, .int .i64 a0_2, .int .i64 a0_3, .slice A0_4 l0_4.length c0_4], .int .i64 a1, .int .i64 a2] rfl (by (try simp only [List.map_toArray, List.map_cons, List.map_nil]); first | done | rfl) ?_; (with_reducible refine (keep_Behind.calls k _ _ l0_0 _ _ l0_1 a0_2 a0_3 _ _ l0_4 a1 a2 t294 _ ?side7 ?side8 ?side1 ?side2 ?side3 ?side4 ?side5 ?side6 A4.out).mono ?_); (case side1 => exact Kd.Cx (Kd.C_below HR0_0.out HB.out)); (case side2 => exact HC0_0.out); (case side3 => exact Kd.Cx (Kd.C_below HR0_1.out HB.out)); (case side4 => exact HC0_1.out); (case side5 => exact Kd.Cx (Kd.C_below HR0_4.out HB.out)); (case side6 => exact HC0_4.out); (case side7 => exact GG_below HGG.out (bl HB)); (case side8 => exact GB_below HGB.out (bl HB)); rintro e w8 ⟨v295, rfl, ho0, hb⟩; refine ⟨_, rfl, ?_⟩; have HO296 := Aside0.mk (Kd.V_lower (Kd.V_mono (ok' := fun k_ => (w.heap.size ≤ k_) ∧ k_ ≠ gb293) ho0 (fun k_ hk_ => ⟨(Nat.le_trans (below_size (bl HB)) hk_), (Kd.freshB (g := gb293) (o := .cells #[.slice A0_0 l0_0.length c0_0, .slice A0_1 l0_1.length c0_1, .int .i64 a0_2, .int .i64 a0_3, .slice A0_4 l0_4.length c0_4] 30 (0, 0)) (bx BK293.out) k_ hk_)⟩)) (below_size (bl HB))); replace BK293 := Aside0.mk (blk_below (bx BK293.out) hb); replace HB := Aside0.mk (below_step (bl HB) hb); (try clear hb); (try clear hb2); (try clear hk); (try clear hi); (try clear ho0); obtain ⟨Ao9, co9, eo9⟩ := Kd.V_slice HO296.out; subst eo9))
  go_ret
  exact ⟨_, by first | rfl | (simp [errW_none, errW_some] <;> rfl) | (simp [*, errW_none, errW_some] <;> rfl), by (with_reducible repeat (first | apply Kd.V_alloc | apply Kd.V_drewN | apply Kd.V_drew)); exact Kd.V_mono HO296.out (fun _ hk => hk.1), bl HB⟩
 rw [if_neg c5] at H
 have c5b0 : ((t294.length : Int) == 0) = false := beq_eq_false_iff_ne.mpr c5
 have c5b1 : ((t294.length : Int) != 0) = true := bne_iff_ne.mpr c5
 have c5b2 : ¬ (t294 = []) := fun h_ => c5 (by rw [h_]; rfl)
 by_cases c10 : 0 ≤ a1
 ·
  rw [if_pos c10] at H
  have c10b0 : decide (0 ≤ a1) = true := decide_eq_true c10
  clear c10
  by_cases c11 : a1 < (l0_4.length : Int)
  ·
   rw [if_pos c11] at H
   have c11b0 : decide (a1 < (l0_4.length : Int)) = true := decide_eq_true c11
   clear c11
   by_cases c12 : 0 ≤ a2
   ·
    rw [if_pos c12] at H
    have c12b0 : decide (0 ≤ a2) = true := decide_eq_true c12
    clear c12
    by_cases c13 : a2 < (((rd_T40 l0_4 a1).f0).length : Int)
    ·
     rw [if_pos c13] at H
     have c13b0 : decide (a2 < (((rd_T40 l0_4 a1).f0).length : Int)) = true := decide_eq_true c13
     clear c13
     replace H := Option.bind_eq_some_iff.mp H
     obtain ⟨⟨t299, t300⟩, A140, H⟩ := H
     replace H : (if t300 = true then ((bitset_Without.f k t294 (([t299] : List Int))).bind fun t304 => (some t304)) else (some t294)) = some r := H
     have A14 := Aside0.mk A140
     clear A140
     by_cases c15 : t300 = true
     ·
      subst c15
      have H1 : ((bitset_Without.f k t294 (([t299] : List Int))).bind fun t304 => (some t304)) = some r := by rw [if_pos rfl] at H; exact H
      clear H
      have H := H1
      clear H1
      obtain ⟨y301, hy301⟩ : ∃ y_ : List Int, y_ = (([t299] : List Int)) := ⟨_, rfl⟩
      replace H : ((bitset_Without.f k t294 y301).bind fun t304 => (some t304)) = some r := by first | (rw [hy301]; with_reducible exact H) | (have H2_ := (Option.bind_some _ _).symm.trans H; rw [hy301]; with_reducible exact H2_) | (have H2_ := (Option.bind_some _ _).symm.trans H; with_reducible exact H2_) | with_reducible exact H | (rw [hy301]; exact H) | exact H
      have Ny301 := Aside0.mk hy301
      clear hy301
      replace H := Option.bind_eq_some_iff.mp H
      obtain ⟨t304, A160, H⟩ := H
      replace H : (some t304) = some r := H
      have A16 := Aside0.mk A160
      clear A160
      obtain rfl := Option.some.inj H
      go_enter Tryd.func48, Tryd.ntmps48
      go_wp2_with (first | ((with_reducible refine gate_dst (N := 3) rfl ?_); refine box_event ?hg (N := 3) ?hd (cs := #[.slice A0_0 l0_0.length c0_0, .slice A0_1 l0_1.length c0_1, .int .i64 a0_2, .int .i64 a0_3, .slice A0_4 l0_4.length c0_4]) (t := 30) ?hr ?_; (case hd => rfl); (case hg => rfl); (case hr => first | (go_simp; done) | (go_simp; rfl)); intro gb293 hg w17 hbox hb; have BK293 := Aside0.mk (hbox); have GW293 := ge hg (bl HB); have GE293 := ge hg (bl HB); replace HB := Aside0.mk (below_step (bl HB) hb); clear hb hbox hg; obtain ⟨hcz18_0, hcz18_1, hcz18_2, hcz18_3, hcz18_4⟩ := bk5 BK293.out; have hfz18_0 := bf BK293.out) | ((with_reducible refine gate_callee (f := 47) rfl ?_); refine goesL_ (some 13) rfl rfl Tryd.func47 (by kernel_rfl) rfl #[.agg #[.slice A0_0 l0_0.length c0_0, .slice A0_1 l0_1.length c0_1, .int .i64 a0_2, .int .i64 a0_3, .slice A0_4 l0_4.length c0_4], .int .i64 a1, .int .i64 a2] rfl (by (try simp only [List.map_toArray, List.map_cons, List.map_nil]); first | done | rfl) ?_; (with_reducible refine (keep_Behind.calls k _ _ l0_0 _ _ l0_1 a0_2 a0_3 _ _ l0_4 a1 a2 t294 _ ?side7 ?side8 ?side1 ?side2 ?side3 ?side4 ?side5 ?side6 A4.out).mono ?_); (case side1 => exact Kd.Cx (Kd.C_below HR0_0.out HB.out)); (case side2 => exact HC0_0.out); (case side3 => exact Kd.Cx (Kd.C_below HR0_1.out HB.out)); (case side4 => exact HC0_1.out); (case side5 => exact Kd.Cx (Kd.C_below HR0_4.out HB.out)); (case side6 => exact HC0_4.out); (case side7 => exact GG_below HGG.out (bl HB)); (case side8 => exact GB_below HGB.out (bl HB)); rintro e w19 ⟨v295, rfl, ho0, hb⟩; refine ⟨_, rfl, ?_⟩; have HO296 := Aside0.mk (Kd.V_lower (Kd.V_mono (ok' := fun k_ => (w.heap.size ≤ k_) ∧ k_ ≠ gb293) ho0 (fun k_ hk_ => ⟨(Nat.le_trans (below_size (bl HB)) hk_), (Kd.freshB (g := gb293) (o := .cells #[.slice A0_0 l0_0.length c0_0, .slice A0_1 l0_1.length c0_1, .int .i64 a0_2, .int .i64 a0_3, .slice A0_4 l0_4.length c0_4] 30 (0, 0)) (bx BK293.out) k_ hk_)⟩)) (below_size (bl HB))); replace BK293 := Aside0.mk (blk_below (bx BK293.out) hb); replace HB := Aside0.mk (below_step (bl HB) hb); (try clear hb); (try clear hb2); (try clear hk); (try clear hi); (try clear ho0); obtain ⟨Ao20, co20, eo20⟩ := Kd.V_slice HO296.out; subst eo20; obtain ⟨hcz21_0, hcz21_1, hcz21_2, hcz21_3, hcz21_4⟩ := bk5 BK293.out; have hfz21_0 := bf BK293.out; have p297 : 0 ≤ (a1 : Int) := of_decide_eq_true (by assumption); have q297 : a1 < (l0_4.length : Int) := of_decide_eq_true (by assumption); obtain ⟨ad297, A297_0, c297_0, e297, hx297_0, hl297_0, hi297_0⟩ := at_T40 HR0_4.out a1 p297 q297; cases e297; replace hx297_0 := (HB.out.cell (World.block_lt_of_cell? w _ hx297_0)).trans hx297_0; have HR297_0 := Aside0.mk hi297_0; have HC297_0 := Aside0.mk hl297_0; clear hi297_0 hl297_0; replace p297 := eq_true p297; replace q297 := eq_true q297; have p298 : 0 ≤ (a2 : Int) := of_decide_eq_true (by assumption); have q298 : a2 < (((rd_T40 l0_4 a1).f0).length : Int) := of_decide_eq_true (by assumption); obtain ⟨ad298, A298_6, c298_6, e298, hx298_0, hx298_1, hx298_2, hx298_3, hx298_4, hx298_5, hx298_6, hl298_6, hi298_6⟩ := at_T44 HR297_0.out a2 p298 q298; cases e298; replace hx298_0 := (HB.out.cell (World.block_lt_of_cell? w _ hx298_0)).trans hx298_0; replace hx298_1 := (HB.out.cell (World.block_lt_of_cell? w _ hx298_1)).trans hx298_1; replace hx298_2 := (HB.out.cell (World.block_lt_of_cell? w _ hx298_2)).trans hx298_2; replace hx298_3 := (HB.out.cell (World.block_lt_of_cell? w _ hx298_3)).trans hx298_3; replace hx298_4 := (HB.out.cell (World.block_lt_of_cell? w _ hx298_4)).trans hx298_4; replace hx298_5 := (HB.out.cell (World.block_lt_of_cell? w _ hx298_5)).trans hx298_5; replace hx298_6 := (HB.out.cell (World.block_lt_of_cell? w _ hx298_6)).trans hx298_6; have HR298_6 := Aside0.mk hi298_6; have HC298_6 := Aside0.mk hl298_6; clear hi298_6 hl298_6; replace p298 := eq_true p298; replace q298 := eq_true q298) | ((with_reducible refine gate_callee (f := 68) rfl ?_); refine goesL_ (some 28) rfl rfl Tryd.func68 (by kernel_rfl) rfl #[.agg #[.int .i64 ((rd_T44 ((rd_T40 l0_4 a1).f0) a2).f0), .int .i64 ((rd_T44 ((rd_T40 l0_4 a1).f0) a2).f1), .int .i64 ((rd_T44 ((rd_T40 l0_4 a1).f0) a2).f2), .int .i64 ((rd_T44 ((rd_T40 l0_4 a1).f0) a2).f3), .int .i64 ((rd_T44 ((rd_T40 l0_4 a1).f0) a2).f4), .int .i64 ((rd_T44 ((rd_T40 l0_4 a1).f0) a2).f5), .slice A298_6 ((rd_T44 ((rd_T40 l0_4 a1).f0) a2).f6).length c298_6]] rfl (by (try simp only [List.map_toArray, List.map_cons, List.map_nil]); first | done | rfl) ?_; (with_reducible refine (shape_Sets.calls ((rd_T44 ((rd_T40 l0_4 a1).f0) a2).f0) ((rd_T44 ((rd_T40 l0_4 a1).f0) a2).f1) ((rd_T44 ((rd_T40 l0_4 a1).f0) a2).f2) ((rd_T44 ((rd_T40 l0_4 a1).f0) a2).f3) ((rd_T44 ((rd_T40 l0_4 a1).f0) a2).f4) ((rd_T44 ((rd_T40 l0_4 a1).f0) a2).f5) _ _ ((rd_T44 ((rd_T40 l0_4 a1).f0) a2).f6) t299 true _ ?side3 ?side1 ?side2 A14.out).mono ?_); (case side1 => exact Kd.Cx (Kd.C_below HR298_6.out HB.out)); (case side2 => exact HC298_6.out); (case side3 => exact GG_below HGG.out (bl HB)); rintro e w22 ⟨rfl, hb⟩; refine ⟨_, rfl, ?_⟩; replace HO296 := Aside0.mk (Kd.V_below (Kd.Vx HO296.out) hb); replace BK293 := Aside0.mk (blk_below (bx BK293.out) hb); replace HB := Aside0.mk (below_step (bl HB) hb); (try clear hb); (try clear hb2); (try clear hk); (try clear hi)) | ((with_reducible refine gate_dst (N := 34) rfl ?_); refine Kd.R_lit (Kd.int .i64) _ 3 ?hg (N := 34) ?hd (xs := ([t299] : List Int)) (inner := [.int .i64 t299]) (ok := fun _ => True) (okp := fun _ => True) ?hr ?hp (fun _ hk => hk) trivial (Below.refl _ _) (Nat.le_refl _) (by simp) ?_; (case hd => rfl); (case hg => rfl); (case hr => first | (go_simp; done) | (go_simp; rfl)); (case hp => exact (Reps.one (show Kd.M (Kd.int .i64) _ _ _ t299 [.int .i64 t299] from rfl) (Reps.none _ _))); intro v302 w23 ho24 hb hg_ hnew_; clear hg_ hnew_; (first | rw [← Ny301.out] at ho24 | (simp only [Int.reduceToNat] at ho24; rw [← Ny301.out] at ho24)); replace HO296 := Aside0.mk (Kd.V_elder' (Kd.Vx HO296.out) (Kd.R_base ho24) hb); have HO303 := Aside0.mk (Kd.R_lower (Kd.R_newM (M := fun k_ => (w.heap.size ≤ k_)) ho24 (below_size (bl HB)) (fun k_ h_ => h_)) (below_size (bl HB))); replace BK293 := Aside0.mk (blk_below (bx BK293.out) hb); replace HB := Aside0.mk (below_step (bl HB) hb); clear hb ho24; obtain ⟨Ao25, co25, eo25⟩ := Kd.R_slice HO303.out; subst eo25) | ((with_reducible refine gate_callee (f := 69) rfl ?_); refine goesL_ (some 35) rfl rfl Tryd.func69 (by kernel_rfl) rfl #[.slice Ao20 t294.length co20, .slice Ao25 y301.length co25] rfl (by (try simp only [List.map_toArray, List.map_cons, List.map_nil]); first | done | rfl) ?_; (with_reducible refine (bitset_Without.calls k _ _ t294 _ _ y301 t304 _ ?side1 ?side2 ?side3 ?side4 A16.out).mono ?_); (case side1 => exact Kd.Cx ((Kd.V_reads' HO296.out).2.2)); (case side2 => exact (Kd.V_reads' HO296.out).2.1); (case side3 => exact Kd.Cx ((Kd.R_reads' HO303.out).2.2)); (case side4 => exact (Kd.R_reads' HO303.out).2.1); rintro e w26 ⟨v305, rfl, ho0, hb⟩; refine ⟨_, rfl, ?_⟩; replace HO296 := Aside0.mk (Kd.V_below (Kd.Vx HO296.out) hb); have HO306 := Aside0.mk (Kd.V_lower (Kd.V_mono (ok' := fun k_ => (w.heap.size ≤ k_) ∧ some k_ ≠ (.slice Ao25 y301.length co25 : Value).ownBlock ∧ k_ ≠ gb293) ho0 (fun k_ hk_ => ⟨(Nat.le_trans (below_size (bl HB)) hk_), (Kd.fresh' (Kd.R_lt (Kd.Rx HO303.out)) k_ hk_), (Kd.freshB (g := gb293) (o := .cells #[.slice A0_0 l0_0.length c0_0, .slice A0_1 l0_1.length c0_1, .int .i64 a0_2, .int .i64 a0_3, .slice (some ad297) l0_4.length c0_4] 30 (0, 0)) (bx BK293.out) k_ hk_)⟩)) (below_size (bl HB))); replace HO303 := Aside0.mk (Kd.R_below (Kd.Rx HO303.out) hb); replace BK293 := Aside0.mk (blk_below (bx BK293.out) hb); replace HB := Aside0.mk (below_step (bl HB) hb); (try clear hb); (try clear hb2); (try clear hk); (try clear hi); (try clear ho0)))
      go_ret
      exact ⟨_, by first | rfl | (simp [errW_none, errW_some] <;> rfl) | (simp [*, errW_none, errW_some] <;> rfl), by (with_reducible repeat (first | apply Kd.V_alloc | apply Kd.V_drewN | apply Kd.V_drew)); exact Kd.V_mono HO306.out (fun _ hk => hk.1), bl HB⟩
     replace c15 := Bool.eq_false_iff.mpr c15
     subst c15
     have H1 : (some t294) = some r := by rw [if_neg (show ¬ (false = true) by decide)] at H; exact H
     clear H
     have H := H1
     clear H1
     obtain rfl := Option.some.inj H
     go_enter Tryd.func48, Tryd.ntmps48
     go_wp2_with (first | ((with_reducible refine gate_dst (N := 3) rfl ?_); refine box_event ?hg (N := 3) ?hd (cs := #[.slice A0_0 l0_0.length c0_0, .slice A0_1 l0_1.length c0_1, .int .i64 a0_2, .int .i64 a0_3, .slice A0_4 l0_4.length c0_4]) (t := 30) ?hr ?_; (case hd => rfl); (case hg => rfl); (case hr => first | (go_simp; done) | (go_simp; rfl)); intro gb293 hg w27 hbox hb; have BK293 := Aside0.mk (hbox); have GW293 := ge hg (bl HB); have GE293 := ge hg (bl HB); replace HB := Aside0.mk (below_step (bl HB) hb); clear hb hbox hg; obtain ⟨hcz28_0, hcz28_1, hcz28_2, hcz28_3, hcz28_4⟩ := bk5 BK293.out; have hfz28_0 := bf BK293.out) | ((with_reducible refine gate_callee (f := 47) rfl ?_); refine goesL_ (some 13) rfl rfl Tryd.func47 (by kernel_rfl) rfl #[.agg #[.slice A0_0 l0_0.length c0_0, .slice A0_1 l0_1.length c0_1, .int .i64 a0_2, .int .i64 a0_3, .slice A0_4 l0_4.length c0_4], .int .i64 a1, .int .i64 a2] rfl (by (try simp only [List.map_toArray, List.map_cons, List.map_nil]); first | done | rfl) ?_; (with_reducible refine (keep_Behind.calls k _ _ l0_0 _ _ l0_1 a0_2 a0_3 _ _ l0_4 a1 a2 t294 _ ?side7 ?side8 ?side1 ?side2 ?side3 ?side4 ?side5 ?side6 A4.out).mono ?_); (case side1 => exact Kd.Cx (Kd.C_below HR0_0.out HB.out)); (case side2 => exact HC0_0.out); (case side3 => exact Kd.Cx (Kd.C_below HR0_1.out HB.out)); (case side4 => exact HC0_1.out); (case side5 => exact Kd.Cx (Kd.C_below HR0_4.out HB.out)); (case side6 => exact HC0_4.out); (case side7 => exact GG_below HGG.out (bl HB)); (case side8 => exact GB_below HGB.out (bl HB)); rintro e w29 ⟨v295, rfl, ho0, hb⟩; refine ⟨_, rfl, ?_⟩; have HO296 := Aside0.mk (Kd.V_lower (Kd.V_mono (ok' := fun k_ => (w.heap.size ≤ k_) ∧ k_ ≠ gb293) ho0 (fun k_ hk_ => ⟨(Nat.le_trans (below_size (bl HB)) hk_), (Kd.freshB (g := gb293) (o := .cells #[.slice A0_0 l0_0.length c0_0, .slice A0_1 l0_1.length c0_1, .int .i64 a0_2, .int .i64 a0_3, .slice A0_4 l0_4.length c0_4] 30 (0, 0)) (bx BK293.out) k_ hk_)⟩)) (below_size (bl HB))); replace BK293 := Aside0.mk (blk_below (bx BK293.out) hb); replace HB := Aside0.mk (below_step (bl HB) hb); (try clear hb); (try clear hb2); (try clear hk); (try clear hi); (try clear ho0); obtain ⟨Ao30, co30, eo30⟩ := Kd.V_slice HO296.out; subst eo30; obtain ⟨hcz31_0, hcz31_1, hcz31_2, hcz31_3, hcz31_4⟩ := bk5 BK293.out; have hfz31_0 := bf BK293.out; have p297 : 0 ≤ (a1 : Int) := of_decide_eq_true (by assumption); have q297 : a1 < (l0_4.length : Int) := of_decide_eq_true (by assumption); obtain ⟨ad297, A297_0, c297_0, e297, hx297_0, hl297_0, hi297_0⟩ := at_T40 HR0_4.out a1 p297 q297; cases e297; replace hx297_0 := (HB.out.cell (World.block_lt_of_cell? w _ hx297_0)).trans hx297_0; have HR297_0 := Aside0.mk hi297_0; have HC297_0 := Aside0.mk hl297_0; clear hi297_0 hl297_0; replace p297 := eq_true p297; replace q297 := eq_true q297; have p298 : 0 ≤ (a2 : Int) := of_decide_eq_true (by assumption); have q298 : a2 < (((rd_T40 l0_4 a1).f0).length : Int) := of_decide_eq_true (by assumption); obtain ⟨ad298, A298_6, c298_6, e298, hx298_0, hx298_1, hx298_2, hx298_3, hx298_4, hx298_5, hx298_6, hl298_6, hi298_6⟩ := at_T44 HR297_0.out a2 p298 q298; cases e298; replace hx298_0 := (HB.out.cell (World.block_lt_of_cell? w _ hx298_0)).trans hx298_0; replace hx298_1 := (HB.out.cell (World.block_lt_of_cell? w _ hx298_1)).trans hx298_1; replace hx298_2 := (HB.out.cell (World.block_lt_of_cell? w _ hx298_2)).trans hx298_2; replace hx298_3 := (HB.out.cell (World.block_lt_of_cell? w _ hx298_3)).trans hx298_3; replace hx298_4 := (HB.out.cell (World.block_lt_of_cell? w _ hx298_4)).trans hx298_4; replace hx298_5 := (HB.out.cell (World.block_lt_of_cell? w _ hx298_5)).trans hx298_5; replace hx298_6 := (HB.out.cell (World.block_lt_of_cell? w _ hx298_6)).trans hx298_6; have HR298_6 := Aside0.mk hi298_6; have HC298_6 := Aside0.mk hl298_6; clear hi298_6 hl298_6; replace p298 := eq_true p298; replace q298 := eq_true q298) | ((with_reducible refine gate_callee (f := 68) rfl ?_); refine goesL_ (some 28) rfl rfl Tryd.func68 (by kernel_rfl) rfl #[.agg #[.int .i64 ((rd_T44 ((rd_T40 l0_4 a1).f0) a2).f0), .int .i64 ((rd_T44 ((rd_T40 l0_4 a1).f0) a2).f1), .int .i64 ((rd_T44 ((rd_T40 l0_4 a1).f0) a2).f2), .int .i64 ((rd_T44 ((rd_T40 l0_4 a1).f0) a2).f3), .int .i64 ((rd_T44 ((rd_T40 l0_4 a1).f0) a2).f4), .int .i64 ((rd_T44 ((rd_T40 l0_4 a1).f0) a2).f5), .slice A298_6 ((rd_T44 ((rd_T40 l0_4 a1).f0) a2).f6).length c298_6]] rfl (by (try simp only [List.map_toArray, List.map_cons, List.map_nil]); first | done | rfl) ?_; (with_reducible refine (shape_Sets.calls ((rd_T44 ((rd_T40 l0_4 a1).f0) a2).f0) ((rd_T44 ((rd_T40 l0_4 a1).f0) a2).f1) ((rd_T44 ((rd_T40 l0_4 a1).f0) a2).f2) ((rd_T44 ((rd_T40 l0_4 a1).f0) a2).f3) ((rd_T44 ((rd_T40 l0_4 a1).f0) a2).f4) ((rd_T44 ((rd_T40 l0_4 a1).f0) a2).f5) _ _ ((rd_T44 ((rd_T40 l0_4 a1).f0) a2).f6) t299 false _ ?side3 ?side1 ?side2 A14.out).mono ?_); (case side1 => exact Kd.Cx (Kd.C_below HR298_6.out HB.out)); (case side2 => exact HC298_6.out); (case side3 => exact GG_below HGG.out (bl HB)); rintro e w32 ⟨rfl, hb⟩; refine ⟨_, rfl, ?_⟩; replace HO296 := Aside0.mk (Kd.V_below (Kd.Vx HO296.out) hb); replace BK293 := Aside0.mk (blk_below (bx BK293.out) hb); replace HB := Aside0.mk (below_step (bl HB) hb); (try clear hb); (try clear hb2); (try clear hk); (try clear hi)))
     go_ret
     exact ⟨_, by first | rfl | (simp [errW_none, errW_some] <;> rfl) | (simp [*, errW_none, errW_some] <;> rfl), by (with_reducible repeat (first | apply Kd.V_alloc | apply Kd.V_drewN | apply Kd.V_drew)); exact Kd.V_mono HO296.out (fun _ hk => hk.1), bl HB⟩
    rw [if_neg c13] at H
    exact absurd H (by simp)
   rw [if_neg c12] at H
   exact absurd H (by simp)
  rw [if_neg c11] at H
  exact absurd H (by simp)
 rw [if_neg c10] at H
 exact absurd H (by simp)
end Go.Proofs.YtdmimhjmbdkhmaaDoor.X
