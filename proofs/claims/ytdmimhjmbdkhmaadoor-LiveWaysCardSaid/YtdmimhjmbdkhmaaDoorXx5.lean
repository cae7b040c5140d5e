/- Part of a proof about the Go function named in the last text of this claim. -/
import Derived.Test.YtdmimhjmbdkhmaaDoorZw
import Derived.Test.YtdmimhjmbdkhmaaDoorXx0
import Derived.Test.YtdmimhjmbdkhmaaDoorXx1
import Derived.Test.YtdmimhjmbdkhmaaDoorXx2
import Derived.Test.YtdmimhjmbdkhmaaDoorXx4
import Derived.Test.YtdmimhjmbdkhmaaDoorZg
set_option linter.unusedVariables false
set_option linter.unusedSimpArgs false
namespace Go.Proofs.YtdmimhjmbdkhmaaDoor.X
open Go.RowKit Go.Proofs.YtdmimhjmbdkhmaaDoorW.PrintWords Go.Proofs.YtdmimhjmbdkhmaaDoorW.PrintLast Go.Proofs.YtdmimhjmbdkhmaaDoorW.PrintMore
attribute [local go_sem] max2_int min2_int max_two min_two max_three min_three max_four min_four
set_option linter.unusedVariables false
set_option linter.unusedSimpArgs false
def live_Behind.f (k : Nat) (l0_0 : List Int) (l0_1 : List Int) (a0_2 : Int) (a0_3 : Int) (l0_4 : List (S40)) (a1 : Int) (a2 : Int) : Option (List Int) := (live_there.f l0_0 l0_1 a0_2 a0_3 l0_4 a1 a2).bind fun t251 => (if t251 = true then ((live_outs.f k l0_0 l0_1 a0_2 a0_3 l0_4).bind fun t252 => (if 0 ≤ a1 then (if a1 < (t252.length : Int) then ((live_through.f k l0_0 l0_1 a0_2 a0_3 l0_4 a1 (wrap64 (a2 + 1)) (rd_L1 t252 a1)).bind fun t256 => (some t256)) else (none)) else (none))) else (some ([] : List Int)))
theorem live_Behind.mono : ∀ a0 a1 a2 a3 a4 a5 a6 k, LeO (live_Behind.f k a0 a1 a2 a3 a4 a5 a6) (live_Behind.f (k + 1) a0 a1 a2 a3 a4 a5 a6) := by
 intro a0 a1 a2 a3 a4 a5 a6 k
 unfold live_Behind.f
 repeat' first
  | (with_reducible exact live_outs.mono _ _ _ _ _ _)
  | (with_reducible exact live_through.mono _ _ _ _ _ _ _ _ _)
  | (with_reducible exact LeO.refl _)
  | (with_reducible exact LeO.none _)
  | (with_reducible refine LeO.ite ?_ ?_)
  | (with_reducible refine LeO.bind ?_ (fun _ => ?_))
  | exact live_outs.mono _ _ _ _ _ _
  | exact live_through.mono _ _ _ _ _ _ _ _ _
  | exact LeO.none _
  | refine LeO.ite ?_ ?_
  | refine LeO.bind ?_ (fun _ => ?_)
def live_Behind.T3 : Bool × List (List Nat × List Nat) := (true, [([], []), ([], []), ([], []), ([2], [2]), ([], []), ([4], [4]), ([], []), ([5, 6], [5, 6]), ([7], [7]), ([0, 1, 3, 8, 5], [0, 1, 3, 8]), ([9, 9, 0, 1, 2, 3, 4, 5, 6, 7, 8, 9], [9])])
def live_Behind.B3 : List Nat := [0, 0, 0, 4, 0, 16, 0, 112, 240, 511, 1023]
theorem live_Behind.tab3 : rtab .any (opsOf Tryd.f15 3) = live_Behind.T3 := by kernel_rfl
theorem live_Behind.bits3 : waitsOk live_Behind.T3.2 live_Behind.B3 = true := by kernel_rfl
set_option maxHeartbeats 8000000 in
set_option maxRecDepth 100000 in
theorem live_Behind.calls (k : Nat) (A0_0 : Option Addr) (c0_0 : Nat) (l0_0 : List Int) (A0_1 : Option Addr) (c0_1 : Nat) (l0_1 : List Int) (a0_2 : Int) (a0_3 : Int) (A0_4 : Option Addr) (c0_4 : Nat) (l0_4 : List (S40)) (a1 : Int) (a2 : Int) (r : List Int) (w : World) (hGG : GG w) (hr0_0 : Kd.C (Kd.int .i64) w A0_0 l0_0.length l0_0) (hc0_0 : l0_0.length ≤ c0_0) (hr0_1 : Kd.C (Kd.int .i64) w A0_1 l0_1.length l0_1) (hc0_1 : l0_1.length ≤ c0_1) (hr0_4 : Kd.C k40 w A0_4 l0_4.length l0_4) (hc0_4 : l0_4.length ≤ c0_4) (h : live_Behind.f k l0_0 l0_1 a0_2 a0_3 l0_4 a1 a2 = some r) :
 Calls Tryd.prog 15 #[.agg #[.slice A0_0 l0_0.length c0_0, .slice A0_1 l0_1.length c0_1, .int .i64 a0_2, .int .i64 a0_3, .slice A0_4 l0_4.length c0_4], .int .i64 a1, .int .i64 a2] w fun e w' => ∃ v0_ : Value, e = .returned (v0_) ∧ Kd.V (Kd.int .u64) 67 w' w.heap.size (fun k_ => (w.heap.size ≤ k_)) v0_ r ∧ Below w.heap.size w w' := by
 have hu30 := Tryd.underlying30
 have HGG := Aside0.mk hGG
 clear hGG
 have HR0_0 := Aside0.mk hr0_0
 have HC0_0 := Aside0.mk hc0_0
 clear hr0_0 hc0_0
 have HR0_1 := Aside0.mk hr0_1
 have HC0_1 := Aside0.mk hc0_1
 clear hr0_1 hc0_1
 have HR0_4 := Aside0.mk hr0_4
 have HC0_4 := Aside0.mk hc0_4
 clear hr0_4 hc0_4
 have HB := Aside0.mk (Below.refl w.heap.size w)
 have H : ((live_there.f l0_0 l0_1 a0_2 a0_3 l0_4 a1 a2).bind fun t251 => (if t251 = true then ((live_outs.f k l0_0 l0_1 a0_2 a0_3 l0_4).bind fun t252 => (if 0 ≤ a1 then (if a1 < (t252.length : Int) then ((live_through.f k l0_0 l0_1 a0_2 a0_3 l0_4 a1 (wrap64 (a2 + 1)) (rd_L1 t252 a1)).bind fun t256 => (some t256)) else (none)) else (none))) else (some ([] : List Int)))) = some r := h
 clear h
 replace H := Option.bind_eq_some_iff.mp H
 obtain ⟨t251, A40, H⟩ := H
 replace H : (if t251 = true then ((live_outs.f k l0_0 l0_1 a0_2 a0_3 l0_4).bind fun t252 => (if 0 ≤ a1 then (if a1 < (t252.length : Int) then ((live_through.f k l0_0 l0_1 a0_2 a0_3 l0_4 a1 (wrap64 (a2 + 1)) (rd_L1 t252 a1)).bind fun t256 => (some t256)) else (none)) else (none))) else (some ([] : List Int))) = some r := H
 have A4 := Aside0.mk A40
 clear A40
 by_cases c5 : t251 = true
 ·
  subst c5
  have H1 : ((live_outs.f k l0_0 l0_1 a0_2 a0_3 l0_4).bind fun t252 => (if 0 ≤ a1 then (if a1 < (t252.length : Int) then ((live_through.f k l0_0 l0_1 a0_2 a0_3 l0_4 a1 (wrap64 (a2 + 1)) (rd_L1 t252 a1)).bind fun t256 => (some t256)) else (none)) else (none))) = some r := by rw [if_pos rfl] at H; exact H
  clear H
  have H := H1
  clear H1
  replace H := Option.bind_eq_some_iff.mp H
  obtain ⟨t252, A60, H⟩ := H
  replace H : (if 0 ≤ a1 then (if a1 < (t252.length : Int) then ((live_through.f k l0_0 l0_1 a0_2 a0_3 l0_4 a1 (wrap64 (a2 + 1)) (rd_L1 t252 a1)).bind fun t256 => (some t256)) else (none)) else (none)) = some r := H
  have A6 := Aside0.mk A60
  clear A60
  by_cases c7 : 0 ≤ a1
  ·
   rw [if_pos c7] at H
   have c7b0 : decide (0 ≤ a1) = true := decide_eq_true c7
   clear c7
   by_cases c8 : a1 < (t252.length : Int)
   ·
    rw [if_pos c8] at H
    have c8b0 : decide (a1 < (t252.length : Int)) = true := decide_eq_true c8
    clear c8
    replace H := Option.bind_eq_some_iff.mp H
    obtain ⟨t256, A90, H⟩ := H
    replace H : (some t256) = some r := H
    have A9 := Aside0.mk A90
    clear A90
    obtain rfl := Option.some.inj H
    go_enter Tryd.func15, Tryd.ntmps15
    try go_wp2_with (first | ((with_reducible refine gate_dst (N := 3) rfl ?_); refine box_event ?hg (N := 3) ?hd (cs := #[.slice A0_0 l0_0.length c0_0, .slice A0_1 l0_1.length c0_1, .int .i64 a0_2, .int .i64 a0_3, .slice A0_4 l0_4.length c0_4]) (t := 30) ?hr ?_; (case hd => rfl); (case hg => rfl); (case hr => first | (go_simp; done) | (go_simp; rfl)); intro gb250 hg w10 hbox hb; have BK250 := Aside0.mk (hbox); have GW250 := ge hg (bl HB); have GE250 := ge hg (bl HB); replace HB := Aside0.mk (below_step (bl HB) hb); clear hb hbox hg; obtain ⟨hcz11_0, hcz11_1, hcz11_2, hcz11_3, hcz11_4⟩ := bk5 BK250.out; have hfz11_0 := bf BK250.out) | ((with_reducible refine gate_callee (f := 41) rfl ?_); refine goesL_ (some 10) rfl rfl Tryd.func41 (by kernel_rfl) rfl #[.agg #[.slice A0_0 l0_0.length c0_0, .slice A0_1 l0_1.length c0_1, .int .i64 a0_2, .int .i64 a0_3, .slice A0_4 l0_4.length c0_4], .int .i64 a1, .int .i64 a2] rfl (by (try simp only [List.map_toArray, List.map_cons, List.map_nil]); first | done | rfl) ?_; (with_reducible refine (live_there.calls _ _ l0_0 _ _ l0_1 a0_2 a0_3 _ _ l0_4 a1 a2 true _ ?side1 ?side2 ?side3 ?side4 ?side5 ?side6 A4.out).mono ?_); (case side1 => exact Kd.Cx (Kd.C_below HR0_0.out HB.out)); (case side2 => exact HC0_0.out); (case side3 => exact Kd.Cx (Kd.C_below HR0_1.out HB.out)); (case side4 => exact HC0_1.out); (case side5 => exact Kd.Cx (Kd.C_below HR0_4.out HB.out)); (case side6 => exact HC0_4.out); rintro e w12 ⟨rfl, hb⟩; refine ⟨_, rfl, ?_⟩; replace BK250 := Aside0.mk (blk_below (bx BK250.out) hb); replace HB := Aside0.mk (below_step (bl HB) hb); (try clear hb); (try clear hb2); (try clear hk); (try clear hi)))
    replace BK250 := Aside0.mk (blk_drew BK250.out); replace HB := Aside0.mk (below_drew1 HB.out)
    refine start_ (n := 11) (S := fun w' => w'.cell? ⟨gb250, 0, none⟩ = some (.slice A0_0 l0_0.length c0_0) ∧ w'.cell? ⟨gb250, 1, none⟩ = some (.slice A0_1 l0_1.length c0_1) ∧ w'.cell? ⟨gb250, 2, none⟩ = some (.int .i64 a0_2) ∧ w'.cell? ⟨gb250, 3, none⟩ = some (.int .i64 a0_3) ∧ w'.cell? ⟨gb250, 4, none⟩ = some (.slice A0_4 l0_4.length c0_4)) (ds := []) #[false, false, false, false, false, false, false, false, false, false, false] (by kernel_rfl) rfl rfl ⟨(blk_cell BK250.out 0).trans rfl, (blk_cell BK250.out 1).trans rfl, (blk_cell BK250.out 2).trans rfl, (blk_cell BK250.out 3).trans rfl, (blk_cell BK250.out 4).trans rfl⟩ (fun hHeld => ?_); refine with_tabW live_Behind.tab3 live_Behind.bits3 (fun HT_ HW_ => ?_)
    generalize w12.drew = w13 at BK250 HB hHeld ⊢
    refine pure_ (i := 1) (N := some 13) (v := ?_) (a' := ?_) #[false, true, false, false, false, false, false, false, false, false, false] rfl rfl (any_of HT_.out (by kernel_rfl)) (fun _ _ _ h => h) (Or.inl ⟨by rfl, ?_⟩) ?_ ?_
    rotate_left
    ·
     intro w'
     go_simp
     with_reducible rfl
    rotate_left
    ·
     simp only [Act.put, List.setIfInBounds_toArray, List.set_cons_zero, List.set_cons_succ, i64_w, i32_w]
     rfl
    refine pure_ (i := 2) (N := some 14) (v := ?_) (a' := ?_) #[false, true, true, false, false, false, false, false, false, false, false] rfl rfl (any_of HT_.out (by kernel_rfl)) (fun _ _ _ h => h) (Or.inl ⟨by rfl, ?_⟩) ?_ ?_
    rotate_left
    ·
     intro w'
     go_simp
     with_reducible rfl
    rotate_left
    ·
     simp only [Act.put, List.setIfInBounds_toArray, List.set_cons_zero, List.set_cons_succ, i64_w, i32_w]
     rfl
    refine pure_ (i := 3) (N := some 15) (v := ?_) (a' := ?_) #[false, true, true, true, false, false, false, false, false, false, false] rfl rfl (any_of HT_.out (by kernel_rfl)) (fun _ _ _ h => h) (Or.inl ⟨by rfl, ?_⟩) ?_ ?_
    rotate_left
    ·
     intro w'
     go_simp
     with_reducible rfl
    rotate_left
    ·
     simp only [Act.put, List.setIfInBounds_toArray, List.set_cons_zero, List.set_cons_succ, i64_w, i32_w]
     rfl
    refine pure_ (i := 6) (N := some 18) (v := ?_) (a' := ?_) #[false, true, true, true, false, false, true, false, false, false, false] rfl rfl (any_of HT_.out (by kernel_rfl)) (fun _ _ _ h => h) (Or.inl ⟨by rfl, ?_⟩) ?_ ?_
    rotate_left
    ·
     intro w'
     go_simp
     with_reducible rfl
    rotate_left
    ·
     simp only [Act.put, List.setIfInBounds_toArray, List.set_cons_zero, List.set_cons_succ, i64_w, i32_w]
     rfl
    refine take_ (i := 0) (N := some 12) (v := ?_) (a' := ?_) #[true, true, true, true, false, false, true, false, false, false, false] rfl rfl (take_ofW HT_.out HW_.out (by kernel_rfl)) (fun _ _ _ h => h) (Or.inl ⟨by rfl, ?_⟩) hHeld ?_ ?_
    rotate_left
    ·
     rintro w' ⟨s0, s1, s2, s3, s4⟩
     go_simp
     with_reducible rfl
    rotate_left
    ·
     simp only [Act.put, List.setIfInBounds_toArray, List.set_cons_zero, List.set_cons_succ, i64_w, i32_w]
     rfl
    refine take_ (i := 4) (N := some 16) (v := ?_) (a' := ?_) #[true, true, true, true, true, false, true, false, false, false, false] rfl rfl (take_ofW HT_.out HW_.out (by kernel_rfl)) (fun _ _ _ h => h) (Or.inl ⟨by rfl, ?_⟩) hHeld ?_ ?_
    rotate_left
    ·
     rintro w' ⟨s0, s1, s2, s3, s4⟩
     go_simp
     with_reducible rfl
    rotate_left
    ·
     simp only [Act.put, List.setIfInBounds_toArray, List.set_cons_zero, List.set_cons_succ, i64_w, i32_w]
     rfl
    refine one_ (i := 5) (N := some 17) #[true, true, true, true, true, true, true, false, false, false, false] rfl rfl (one_of HT_.out (by kernel_rfl)) (by decide) (fun K hK => ?_)
    refine goes_ Tryd.func39 (by kernel_rfl) rfl #[.agg #[.slice A0_0 l0_0.length c0_0, .slice A0_1 l0_1.length c0_1, .int .i64 a0_2, .int .i64 a0_3, .slice A0_4 l0_4.length c0_4]] (by rfl) rfl rfl (by (try simp only [List.map_toArray, List.map_cons, List.map_nil]); first | done | rfl) ?_
    with_reducible refine (live_outs.calls k _ _ l0_0 _ _ l0_1 a0_2 a0_3 _ _ l0_4 t252 _ ?side7 ?side1 ?side2 ?side3 ?side4 ?side5 ?side6 A6.out).mono ?_
    (case side1 => exact Kd.Cx (Kd.C_below HR0_0.out HB.out))
    (case side2 => exact HC0_0.out)
    (case side3 => exact Kd.Cx (Kd.C_below HR0_1.out HB.out))
    (case side4 => exact HC0_1.out)
    (case side5 => exact Kd.Cx (Kd.C_below HR0_4.out HB.out))
    (case side6 => exact HC0_4.out)
    (case side7 => exact GG_below HGG.out (bl HB))
    rintro e w14 ⟨v253, rfl, ho0, hb⟩
    refine ⟨_, rfl, ?_⟩
    have HO254 := Aside0.mk (Kd.N_lower (Kd.N_mono (ok' := fun k_ => (w.heap.size ≤ k_) ∧ k_ ≠ gb250) ho0 (fun k_ hk_ => ⟨(Nat.le_trans (below_size (bl HB)) hk_), (Kd.freshB (g := gb250) (o := .cells #[.slice A0_0 l0_0.length c0_0, .slice A0_1 l0_1.length c0_1, .int .i64 a0_2, .int .i64 a0_3, .slice A0_4 l0_4.length c0_4] 30 (0, 0)) (bx BK250.out) k_ hk_)⟩)) (below_size (bl HB))); replace BK250 := Aside0.mk (blk_below (bx BK250.out) hb); replace HB := Aside0.mk (below_step (bl HB) hb)
    (try clear hb)
    (try clear hb2)
    (try clear hk)
    (try clear hi)
    (try clear ho0)
    obtain ⟨Ao15, co15, eo15⟩ := Kd.N_slice HO254.out
    (first | subst eo15 | (injection eo15 with f1_ f2_ f3_; have f4_ := f1_.symm; have f5_ := f3_.symm; clear f1_ f2_ f3_; subst f4_; subst f5_))
    have p255 : 0 ≤ (a1 : Int) := of_decide_eq_true (by assumption)
    have q255 : a1 < (t252.length : Int) := of_decide_eq_true (by assumption)
    obtain ⟨ad255, A255_0, c255_0, e255, hx255_0, hl255_0, hi255_0⟩ := at_L1 (Kd.N_reads' HO254.out).2.2 a1 p255 q255
    cases e255
    obtain ⟨ce255, hce255, hMe255, hcc255⟩ := Kd.N_get HO254.out [] a1 p255 (by first | exact q255 | exact of_decide_eq_true (by assumption) | (have e_ := (Kd.N_reads' HO254.out).1; omega))
    obtain ⟨ua255_0, uc255_0, rfl, ul255_0, ge255_0⟩ := Kd.FK_slice_open hMe255
    have hv255_0 := hcc255 0 _ rfl
    rw [Nat.add_zero, show ((Kd.slice 67 (Kd.int .u64))).sz = 1 from rfl, Nat.mul_one] at hv255_0
    replace hv255_0 := Option.some.inj (hv255_0.symm.trans hx255_0)
    injection hv255_0 with hva_ hvn_ hvc_
    rw [hva_] at ge255_0
    rw [hvc_] at ul255_0
    have HL255_0 := Aside0.mk (show Kd.V (Kd.int .u64) 67 _ w.heap.size _ _ (rd_L1 t252 a1) from Kd.V_mk ul255_0 ge255_0)
    clear hva_ hvn_ hvc_ ge255_0 ul255_0
    clear hcc255 hce255
    have HR255_0 := Aside0.mk hi255_0
    have HC255_0 := Aside0.mk hl255_0
    clear hi255_0 hl255_0
    replace p255 := eq_true p255
    replace q255 := eq_true q255
    refine hK.out _ _ ⟨(blk_cell BK250.out 0).trans rfl, (blk_cell BK250.out 1).trans rfl, (blk_cell BK250.out 2).trans rfl, (blk_cell BK250.out 3).trans rfl, (blk_cell BK250.out 4).trans rfl⟩ (fun hHeld => ?_)
    clear hK K
    refine norm_ (a' := ?_) ?_ ?_
    rotate_left
    ·
     show Act.put _ (some 17) _ = _
     simp only [Act.put, List.setIfInBounds_toArray, List.set_cons_zero, List.set_cons_succ, i64_w, i32_w]
     rfl
    refine pure_ (i := 7) (N := some 19) (v := ?_) (a' := ?_) #[true, true, true, true, true, true, true, true, false, false, false] rfl rfl (any_of HT_.out (by kernel_rfl)) (fun _ _ _ h => h) (Or.inl ⟨by rfl, ?_⟩) ?_ ?_
    rotate_left
    ·
     intro w'
     go_simp
     with_reducible rfl
    rotate_left
    ·
     simp only [Act.put, List.setIfInBounds_toArray, List.set_cons_zero, List.set_cons_succ, i64_w, i32_w]
     rfl
    refine one_ (i := 8) (N := some 20) #[true, true, true, true, true, true, true, true, true, false, false] rfl rfl (one_of HT_.out (by kernel_rfl)) (by decide) (fun K hK => ?_)
    refine value_ (v := .slice A255_0 (rd_L1 t252 a1).length c255_0) (w1 := w14) (by rfl) rfl ?_ ?_
    ·
     go_simp
    refine hK.out _ _ ⟨(blk_cell BK250.out 0).trans rfl, (blk_cell BK250.out 1).trans rfl, (blk_cell BK250.out 2).trans rfl, (blk_cell BK250.out 3).trans rfl, (blk_cell BK250.out 4).trans rfl⟩ (fun hHeld => ?_)
    clear hK K
    refine norm_ (a' := ?_) ?_ ?_
    rotate_left
    ·
     show Act.put _ (some 20) _ = _
     simp only [Act.put, List.setIfInBounds_toArray, List.set_cons_zero, List.set_cons_succ, i64_w, i32_w]
     rfl
    refine one_ (i := 9) (N := some 21) #[true, true, true, true, true, true, true, true, true, true, false] rfl rfl (one_of HT_.out (by kernel_rfl)) (by decide) (fun K hK => ?_)
    refine goes_ Tryd.func42 (by kernel_rfl) rfl #[.agg #[.slice A0_0 l0_0.length c0_0, .slice A0_1 l0_1.length c0_1, .int .i64 a0_2, .int .i64 a0_3, .slice A0_4 l0_4.length c0_4], .int .i64 a1, .int .i64 (wrap64 (a2 + 1)), .slice A255_0 (rd_L1 t252 a1).length c255_0] (by rfl) rfl rfl (by (try simp only [List.map_toArray, List.map_cons, List.map_nil]); first | done | rfl) ?_
    with_reducible refine (live_through.calls k _ _ l0_0 _ _ l0_1 a0_2 a0_3 _ _ l0_4 a1 (wrap64 (a2 + 1)) (fun k_ => (((w.heap.size ≤ k_) ∧ k_ ≠ gb250) ∧ some k_ ≠ (.slice (some ad255) t252.length co15 : Value).ownBlock)) _ _ (rd_L1 t252 a1) t256 _ ?side8 ?side1 ?side2 ?side3 ?side4 ?side5 ?side6 ?side7 A9.out).mono ?_
    (case side1 => exact Kd.Cx (Kd.C_below HR0_0.out HB.out))
    (case side2 => exact HC0_0.out)
    (case side3 => exact Kd.Cx (Kd.C_below HR0_1.out HB.out))
    (case side4 => exact HC0_1.out)
    (case side5 => exact Kd.Cx (Kd.C_below HR0_4.out HB.out))
    (case side6 => exact HC0_4.out)
    (case side7 => exact HL255_0.out)
    (case side8 => exact GG_below HGG.out (bl HB))
    rintro e w16 ⟨v257, rfl, ho0, hb⟩
    refine ⟨_, rfl, ?_⟩
    replace HL255_0 := Aside0.mk (Kd.V_below (Kd.Vx HL255_0.out) hb); have HO258 := Aside0.mk (Kd.V_lower (Kd.V_mono (ok' := fun k_ => (w.heap.size ≤ k_) ∧ some k_ ≠ (.slice (some ad255) t252.length co15 : Value).ownBlock ∧ k_ ≠ gb250) ho0 (fun k_ hk_ => ⟨Or.elim hk_ (fun hs_ => hs_.1.1) (fun hn_ => (Nat.le_trans (below_size (bl HB)) hn_)), Or.elim hk_ (fun hs_ => hs_.2) (fun hn_ => (Kd.fresh' (Kd.N_lt (Kd.Nx HO254.out)) k_ hn_)), Or.elim hk_ (fun hs_ => hs_.1.2) (fun hn_ => (Kd.freshB (g := gb250) (o := .cells #[.slice A0_0 l0_0.length c0_0, .slice A0_1 l0_1.length c0_1, .int .i64 a0_2, .int .i64 a0_3, .slice A0_4 l0_4.length c0_4] 30 (0, 0)) (bx BK250.out) k_ hn_))⟩)) (below_size (bl HB))); replace HO254 := Aside0.mk (Kd.N_below (Kd.Nx HO254.out) hb); replace BK250 := Aside0.mk (blk_below (bx BK250.out) hb); replace HR255_0 := Aside0.mk (Kd.C_below (by repeat (first | (with_reducible exact HR255_0.out) | (with_reducible refine Kd.C_alloc ?_ _) | (with_reducible refine Kd.C_drewN ?_ _) | (with_reducible refine Kd.C_drew ?_) | exact HR255_0.out)) hb); replace HB := Aside0.mk (below_step (bl HB) hb)
    (try clear hb)
    (try clear hb2)
    (try clear hk)
    (try clear hi)
    (try clear ho0)
    refine hK.out _ _ ⟨(blk_cell BK250.out 0).trans rfl, (blk_cell BK250.out 1).trans rfl, (blk_cell BK250.out 2).trans rfl, (blk_cell BK250.out 3).trans rfl, (blk_cell BK250.out 4).trans rfl⟩ (fun hHeld => ?_)
    clear hK K
    refine norm_ (a' := ?_) ?_ ?_
    rotate_left
    ·
     show Act.put _ (some 21) _ = _
     simp only [Act.put, List.setIfInBounds_toArray, List.set_cons_zero, List.set_cons_succ, i64_w, i32_w]
     rfl
    refine pure_ (i := 10) (N := some 6) (v := ?_) (a' := ?_) #[true, true, true, true, true, true, true, true, true, true, true] rfl rfl (any_of HT_.out (by kernel_rfl)) (fun _ _ _ h => h) (Or.inl ⟨by rfl, ?_⟩) ?_ ?_
    rotate_left
    ·
     intro w'
     go_simp
     with_reducible rfl
    rotate_left
    ·
     simp only [Act.put, List.setIfInBounds_toArray, List.set_cons_zero, List.set_cons_succ, i64_w, i32_w]
     rfl
    refine done_ (done_of HT_.out (by kernel_rfl)) ?_
    try go_wp2
    go_ret
    exact ⟨_, by first | rfl | (simp [errW_none, errW_some] <;> rfl) | (simp [*, errW_none, errW_some] <;> rfl), by (with_reducible repeat (first | apply Kd.V_alloc | apply Kd.V_drewN | apply Kd.V_drew)); exact Kd.V_mono HO258.out (fun _ hk => hk.1), bl HB⟩
   rw [if_neg c8] at H
   exact absurd H (by simp)
  rw [if_neg c7] at H
  exact absurd H (by simp)
 replace c5 := Bool.eq_false_iff.mpr c5
 subst c5
 have H1 : (some ([] : List Int)) = some r := by rw [if_neg (show ¬ (false = true) by decide)] at H; exact H
 clear H
 have H := H1
 clear H1
 obtain rfl := Option.some.inj H
 go_enter Tryd.func15, Tryd.ntmps15
 go_wp2_with (first | ((with_reducible refine gate_dst (N := 3) rfl ?_); refine box_event ?hg (N := 3) ?hd (cs := #[.slice A0_0 l0_0.length c0_0, .slice A0_1 l0_1.length c0_1, .int .i64 a0_2, .int .i64 a0_3, .slice A0_4 l0_4.length c0_4]) (t := 30) ?hr ?_; (case hd => rfl); (case hg => rfl); (case hr => first | (go_simp; done) | (go_simp; rfl)); intro gb250 hg w17 hbox hb; have BK250 := Aside0.mk (hbox); have GW250 := ge hg (bl HB); have GE250 := ge hg (bl HB); replace HB := Aside0.mk (below_step (bl HB) hb); clear hb hbox hg; obtain ⟨hcz18_0, hcz18_1, hcz18_2, hcz18_3, hcz18_4⟩ := bk5 BK250.out; have hfz18_0 := bf BK250.out) | ((with_reducible refine gate_callee (f := 41) rfl ?_); refine goesL_ (some 10) rfl rfl Tryd.func41 (by kernel_rfl) rfl #[.agg #[.slice A0_0 l0_0.length c0_0, .slice A0_1 l0_1.length c0_1, .int .i64 a0_2, .int .i64 a0_3, .slice A0_4 l0_4.length c0_4], .int .i64 a1, .int .i64 a2] rfl (by (try simp only [List.map_toArray, List.map_cons, List.map_nil]); first | done | rfl) ?_; (with_reducible refine (live_there.calls _ _ l0_0 _ _ l0_1 a0_2 a0_3 _ _ l0_4 a1 a2 false _ ?side1 ?side2 ?side3 ?side4 ?side5 ?side6 A4.out).mono ?_); (case side1 => exact Kd.Cx (Kd.C_below HR0_0.out HB.out)); (case side2 => exact HC0_0.out); (case side3 => exact Kd.Cx (Kd.C_below HR0_1.out HB.out)); (case side4 => exact HC0_1.out); (case side5 => exact Kd.Cx (Kd.C_below HR0_4.out HB.out)); (case side6 => exact HC0_4.out); rintro e w19 ⟨rfl, hb⟩; refine ⟨_, rfl, ?_⟩; replace BK250 := Aside0.mk (blk_below (bx BK250.out) hb); replace HB := Aside0.mk (below_step (bl HB) hb); (try clear hb); (try clear hb2); (try clear hk); (try clear hi)))
 go_ret
 exact ⟨_, by first | rfl | (simp [errW_none, errW_some] <;> rfl) | (simp [*, errW_none, errW_some] <;> rfl), (Kd.V_nil _ _ _ _ _), bl HB⟩
def live_Ahead.f (k : Nat) (l0_0 : List Int) (l0_1 : List Int) (a0_2 : Int) (a0_3 : Int) (l0_4 : List (S40)) (a1 : Int) (a2 : Int) : Option (List Int) := (live_there.f l0_0 l0_1 a0_2 a0_3 l0_4 a1 a2).bind fun t260 => (if t260 = true then ((live_outs.f k l0_0 l0_1 a0_2 a0_3 l0_4).bind fun t261 => (if 0 ≤ a1 then (if a1 < (t261.length : Int) then ((live_through.f k l0_0 l0_1 a0_2 a0_3 l0_4 a1 a2 (rd_L1 t261 a1)).bind fun t265 => (some t265)) else (none)) else (none))) else (some ([] : List Int)))
theorem live_Ahead.mono : ∀ a0 a1 a2 a3 a4 a5 a6 k, LeO (live_Ahead.f k a0 a1 a2 a3 a4 a5 a6) (live_Ahead.f (k + 1) a0 a1 a2 a3 a4 a5 a6) := by
 intro a0 a1 a2 a3 a4 a5 a6 k
 unfold live_Ahead.f
 repeat' first
  | (with_reducible exact live_outs.mono _ _ _ _ _ _)
  | (with_reducible exact live_through.mono _ _ _ _ _ _ _ _ _)
  | (with_reducible exact LeO.refl _)
  | (with_reducible exact LeO.none _)
  | (with_reducible refine LeO.ite ?_ ?_)
  | (with_reducible refine LeO.bind ?_ (fun _ => ?_))
  | exact live_outs.mono _ _ _ _ _ _
  | exact live_through.mono _ _ _ _ _ _ _ _ _
  | exact LeO.none _
  | refine LeO.ite ?_ ?_
  | refine LeO.bind ?_ (fun _ => ?_)
def live_Ahead.T3 : Bool × List (List Nat × List Nat) := (true, [([], []), ([], []), ([], []), ([], []), ([3], [3]), ([], []), ([4, 5], [4, 5]), ([6], [6]), ([0, 1, 2, 7, 4], [0, 1, 2, 7]), ([8, 8, 0, 1, 2, 3, 4, 5, 6, 7, 8], [8])])
def live_Ahead.B3 : List Nat := [0, 0, 0, 0, 8, 0, 56, 120, 255, 511]
theorem live_Ahead.tab3 : rtab .any (opsOf Tryd.f20 3) = live_Ahead.T3 := by kernel_rfl
theorem live_Ahead.bits3 : waitsOk live_Ahead.T3.2 live_Ahead.B3 = true := by kernel_rfl
set_option maxHeartbeats 8000000 in
set_option maxRecDepth 100000 in
theorem live_Ahead.calls (k : Nat) (A0_0 : Option Addr) (c0_0 : Nat) (l0_0 : List Int) (A0_1 : Option Addr) (c0_1 : Nat) (l0_1 : List Int) (a0_2 : Int) (a0_3 : Int) (A0_4 : Option Addr) (c0_4 : Nat) (l0_4 : List (S40)) (a1 : Int) (a2 : Int) (r : List Int) (w : World) (hGG : GG w) (hr0_0 : Kd.C (Kd.int .i64) w A0_0 l0_0.length l0_0) (hc0_0 : l0_0.length ≤ c0_0) (hr0_1 : Kd.C (Kd.int .i64) w A0_1 l0_1.length l0_1) (hc0_1 : l0_1.length ≤ c0_1) (hr0_4 : Kd.C k40 w A0_4 l0_4.length l0_4) (hc0_4 : l0_4.length ≤ c0_4) (h : live_Ahead.f k l0_0 l0_1 a0_2 a0_3 l0_4 a1 a2 = some r) :
 Calls Tryd.prog 20 #[.agg #[.slice A0_0 l0_0.length c0_0, .slice A0_1 l0_1.length c0_1, .int .i64 a0_2, .int .i64 a0_3, .slice A0_4 l0_4.length c0_4], .int .i64 a1, .int .i64 a2] w fun e w' => ∃ v0_ : Value, e = .returned (v0_) ∧ Kd.V (Kd.int .u64) 67 w' w.heap.size (fun k_ => (w.heap.size ≤ k_)) v0_ r ∧ Below w.heap.size w w' := by
 have hu30 := Tryd.underlying30
 have HGG := Aside0.mk hGG
 clear hGG
 have HR0_0 := Aside0.mk hr0_0
 have HC0_0 := Aside0.mk hc0_0
 clear hr0_0 hc0_0
 have HR0_1 := Aside0.mk hr0_1
 have HC0_1 := Aside0.mk hc0_1
 clear hr0_1 hc0_1
 have HR0_4 := Aside0.mk hr0_4
 have HC0_4 := Aside0.mk hc0_4
 clear hr0_4 hc0_4
 have HB := Aside0.mk (Below.refl w.heap.size w)
 have H : ((live_there.f l0_0 l0_1 a0_2 a0_3 l0_4 a1 a2).bind fun t260 => (if t260 = true then ((live_outs.f k l0_0 l0_1 a0_2 a0_3 l0_4).bind fun t261 => (if 0 ≤ a1 then (if a1 < (t261.length : Int) then ((live_through.f k l0_0 l0_1 a0_2 a0_3 l0_4 a1 a2 (rd_L1 t261 a1)).bind fun t265 => (some t265)) else (none)) else (none))) else (some ([] : List Int)))) = some r := h
 clear h
 replace H := Option.bind_eq_some_iff.mp H
 obtain ⟨t260, A40, H⟩ := H
 replace H : (if t260 = true then ((live_outs.f k l0_0 l0_1 a0_2 a0_3 l0_4).bind fun t261 => (if 0 ≤ a1 then (if a1 < (t261.length : Int) then ((live_through.f k l0_0 l0_1 a0_2 a0_3 l0_4 a1 a2 (rd_L1 t261 a1)).bind fun t265 => (some t265)) else (none)) else (none))) else (some ([] : List Int))) = some r := H
 have A4 := Aside0.mk A40
 clear A40
 by_cases c5 : t260 = true
 ·
  subst c5
  have H1 : ((live_outs.f k l0_0 l0_1 a0_2 a0_3 l0_4).bind fun t261 => (if 0 ≤ a1 then (if a1 < (t261.length : Int) then ((live_through.f k l0_0 l0_1 a0_2 a0_3 l0_4 a1 a2 (rd_L1 t261 a1)).bind fun t265 => (some t265)) else (none)) else (none))) = some r := by rw [if_pos rfl] at H; exact H
  clear H
  have H := H1
  clear H1
  replace H := Option.bind_eq_some_iff.mp H
  obtain ⟨t261, A60, H⟩ := H
  replace H : (if 0 ≤ a1 then (if a1 < (t261.length : Int) then ((live_through.f k l0_0 l0_1 a0_2 a0_3 l0_4 a1 a2 (rd_L1 t261 a1)).bind fun t265 => (some t265)) else (none)) else (none)) = some r := H
  have A6 := Aside0.mk A60
  clear A60
  by_cases c7 : 0 ≤ a1
  ·
   rw [if_pos c7] at H
   have c7b0 : decide (0 ≤ a1) = true := decide_eq_true c7
   clear c7
   by_cases c8 : a1 < (t261.length : Int)
   ·
    rw [if_pos c8] at H
    have c8b0 : decide (a1 < (t261.length : Int)) = true := decide_eq_true c8
    clear c8
    replace H := Option.bind_eq_some_iff.mp H
    obtain ⟨t265, A90, H⟩ := H
    replace H : (some t265) = some r := H
    have A9 := Aside0.mk A90
    clear A90
    obtain rfl := Option.some.inj H
    go_enter Tryd.func20, Tryd.ntmps20
    try go_wp2_with (first | ((with_reducible refine gate_dst (N := 3) rfl ?_); refine box_event ?hg (N := 3) ?hd (cs := #[.slice A0_0 l0_0.length c0_0, .slice A0_1 l0_1.length c0_1, .int .i64 a0_2, .int .i64 a0_3, .slice A0_4 l0_4.length c0_4]) (t := 30) ?hr ?_; (case hd => rfl); (case hg => rfl); (case hr => first | (go_simp; done) | (go_simp; rfl)); intro gb259 hg w10 hbox hb; have BK259 := Aside0.mk (hbox); have GW259 := ge hg (bl HB); have GE259 := ge hg (bl HB); replace HB := Aside0.mk (below_step (bl HB) hb); clear hb hbox hg; obtain ⟨hcz11_0, hcz11_1, hcz11_2, hcz11_3, hcz11_4⟩ := bk5 BK259.out; have hfz11_0 := bf BK259.out) | ((with_reducible refine gate_callee (f := 41) rfl ?_); refine goesL_ (some 10) rfl rfl Tryd.func41 (by kernel_rfl) rfl #[.agg #[.slice A0_0 l0_0.length c0_0, .slice A0_1 l0_1.length c0_1, .int .i64 a0_2, .int .i64 a0_3, .slice A0_4 l0_4.length c0_4], .int .i64 a1, .int .i64 a2] rfl (by (try simp only [List.map_toArray, List.map_cons, List.map_nil]); first | done | rfl) ?_; (with_reducible refine (live_there.calls _ _ l0_0 _ _ l0_1 a0_2 a0_3 _ _ l0_4 a1 a2 true _ ?side1 ?side2 ?side3 ?side4 ?side5 ?side6 A4.out).mono ?_); (case side1 => exact Kd.Cx (Kd.C_below HR0_0.out HB.out)); (case side2 => exact HC0_0.out); (case side3 => exact Kd.Cx (Kd.C_below HR0_1.out HB.out)); (case side4 => exact HC0_1.out); (case side5 => exact Kd.Cx (Kd.C_below HR0_4.out HB.out)); (case side6 => exact HC0_4.out); rintro e w12 ⟨rfl, hb⟩; refine ⟨_, rfl, ?_⟩; replace BK259 := Aside0.mk (blk_below (bx BK259.out) hb); replace HB := Aside0.mk (below_step (bl HB) hb); (try clear hb); (try clear hb2); (try clear hk); (try clear hi)))
    replace BK259 := Aside0.mk (blk_drew BK259.out); replace HB := Aside0.mk (below_drew1 HB.out)
    refine start_ (n := 10) (S := fun w' => w'.cell? ⟨gb259, 0, none⟩ = some (.slice A0_0 l0_0.length c0_0) ∧ w'.cell? ⟨gb259, 1, none⟩ = some (.slice A0_1 l0_1.length c0_1) ∧ w'.cell? ⟨gb259, 2, none⟩ = some (.int .i64 a0_2) ∧ w'.cell? ⟨gb259, 3, none⟩ = some (.int .i64 a0_3) ∧ w'.cell? ⟨gb259, 4, none⟩ = some (.slice A0_4 l0_4.length c0_4)) (ds := []) #[false, false, false, false, false, false, false, false, false, false] (by kernel_rfl) rfl rfl ⟨(blk_cell BK259.out 0).trans rfl, (blk_cell BK259.out 1).trans rfl, (blk_cell BK259.out 2).trans rfl, (blk_cell BK259.out 3).trans rfl, (blk_cell BK259.out 4).trans rfl⟩ (fun hHeld => ?_); refine with_tabW live_Ahead.tab3 live_Ahead.bits3 (fun HT_ HW_ => ?_)
    generalize w12.drew = w13 at BK259 HB hHeld ⊢
    refine pure_ (i := 1) (N := some 13) (v := ?_) (a' := ?_) #[false, true, false, false, false, false, false, false, false, false] rfl rfl (any_of HT_.out (by kernel_rfl)) (fun _ _ _ h => h) (Or.inl ⟨by rfl, ?_⟩) ?_ ?_
    rotate_left
    ·
     intro w'
     go_simp
     with_reducible rfl
    rotate_left
    ·
     simp only [Act.put, List.setIfInBounds_toArray, List.set_cons_zero, List.set_cons_succ, i64_w, i32_w]
     rfl
    refine pure_ (i := 2) (N := some 14) (v := ?_) (a' := ?_) #[false, true, true, false, false, false, false, false, false, false] rfl rfl (any_of HT_.out (by kernel_rfl)) (fun _ _ _ h => h) (Or.inl ⟨by rfl, ?_⟩) ?_ ?_
    rotate_left
    ·
     intro w'
     go_simp
     with_reducible rfl
    rotate_left
    ·
     simp only [Act.put, List.setIfInBounds_toArray, List.set_cons_zero, List.set_cons_succ, i64_w, i32_w]
     rfl
    refine pure_ (i := 5) (N := some 17) (v := ?_) (a' := ?_) #[false, true, true, false, false, true, false, false, false, false] rfl rfl (any_of HT_.out (by kernel_rfl)) (fun _ _ _ h => h) (Or.inl ⟨by rfl, ?_⟩) ?_ ?_
    rotate_left
    ·
     intro w'
     go_simp
     with_reducible rfl
    rotate_left
    ·
     simp only [Act.put, List.setIfInBounds_toArray, List.set_cons_zero, List.set_cons_succ, i64_w, i32_w]
     rfl
    refine take_ (i := 0) (N := some 12) (v := ?_) (a' := ?_) #[true, true, true, false, false, true, false, false, false, false] rfl rfl (take_ofW HT_.out HW_.out (by kernel_rfl)) (fun _ _ _ h => h) (Or.inl ⟨by rfl, ?_⟩) hHeld ?_ ?_
    rotate_left
    ·
     rintro w' ⟨s0, s1, s2, s3, s4⟩
     go_simp
     with_reducible rfl
    rotate_left
    ·
     simp only [Act.put, List.setIfInBounds_toArray, List.set_cons_zero, List.set_cons_succ, i64_w, i32_w]
     rfl
    refine take_ (i := 3) (N := some 15) (v := ?_) (a' := ?_) #[true, true, true, true, false, true, false, false, false, false] rfl rfl (take_ofW HT_.out HW_.out (by kernel_rfl)) (fun _ _ _ h => h) (Or.inl ⟨by rfl, ?_⟩) hHeld ?_ ?_
    rotate_left
    ·
     rintro w' ⟨s0, s1, s2, s3, s4⟩
     go_simp
     with_reducible rfl
    rotate_left
    ·
     simp only [Act.put, List.setIfInBounds_toArray, List.set_cons_zero, List.set_cons_succ, i64_w, i32_w]
     rfl
    refine one_ (i := 4) (N := some 16) #[true, true, true, true, true, true, false, false, false, false] rfl rfl (one_of HT_.out (by kernel_rfl)) (by decide) (fun K hK => ?_)
    refine goes_ Tryd.func39 (by kernel_rfl) rfl #[.agg #[.slice A0_0 l0_0.length c0_0, .slice A0_1 l0_1.length c0_1, .int .i64 a0_2, .int .i64 a0_3, .slice A0_4 l0_4.length c0_4]] (by rfl) rfl rfl (by (try simp only [List.map_toArray, List.map_cons, List.map_nil]); first | done | rfl) ?_
    with_reducible refine (live_outs.calls k _ _ l0_0 _ _ l0_1 a0_2 a0_3 _ _ l0_4 t261 _ ?side7 ?side1 ?side2 ?side3 ?side4 ?side5 ?side6 A6.out).mono ?_
    (case side1 => exact Kd.Cx (Kd.C_below HR0_0.out HB.out))
    (case side2 => exact HC0_0.out)
    (case side3 => exact Kd.Cx (Kd.C_below HR0_1.out HB.out))
    (case side4 => exact HC0_1.out)
    (case side5 => exact Kd.Cx (Kd.C_below HR0_4.out HB.out))
    (case side6 => exact HC0_4.out)
    (case side7 => exact GG_below HGG.out (bl HB))
    rintro e w14 ⟨v262, rfl, ho0, hb⟩
    refine ⟨_, rfl, ?_⟩
    have HO263 := Aside0.mk (Kd.N_lower (Kd.N_mono (ok' := fun k_ => (w.heap.size ≤ k_) ∧ k_ ≠ gb259) ho0 (fun k_ hk_ => ⟨(Nat.le_trans (below_size (bl HB)) hk_), (Kd.freshB (g := gb259) (o := .cells #[.slice A0_0 l0_0.length c0_0, .slice A0_1 l0_1.length c0_1, .int .i64 a0_2, .int .i64 a0_3, .slice A0_4 l0_4.length c0_4] 30 (0, 0)) (bx BK259.out) k_ hk_)⟩)) (below_size (bl HB))); replace BK259 := Aside0.mk (blk_below (bx BK259.out) hb); replace HB := Aside0.mk (below_step (bl HB) hb)
    (try clear hb)
    (try clear hb2)
    (try clear hk)
    (try clear hi)
    (try clear ho0)
    obtain ⟨Ao15, co15, eo15⟩ := Kd.N_slice HO263.out
    (first | subst eo15 | (injection eo15 with f1_ f2_ f3_; have f4_ := f1_.symm; have f5_ := f3_.symm; clear f1_ f2_ f3_; subst f4_; subst f5_))
    have p264 : 0 ≤ (a1 : Int) := of_decide_eq_true (by assumption)
    have q264 : a1 < (t261.length : Int) := of_decide_eq_true (by assumption)
    obtain ⟨ad264, A264_0, c264_0, e264, hx264_0, hl264_0, hi264_0⟩ := at_L1 (Kd.N_reads' HO263.out).2.2 a1 p264 q264
    cases e264
    obtain ⟨ce264, hce264, hMe264, hcc264⟩ := Kd.N_get HO263.out [] a1 p264 (by first | exact q264 | exact of_decide_eq_true (by assumption) | (have e_ := (Kd.N_reads' HO263.out).1; omega))
    obtain ⟨ua264_0, uc264_0, rfl, ul264_0, ge264_0⟩ := Kd.FK_slice_open hMe264
    have hv264_0 := hcc264 0 _ rfl
    rw [Nat.add_zero, show ((Kd.slice 67 (Kd.int .u64))).sz = 1 from rfl, Nat.mul_one] at hv264_0
    replace hv264_0 := Option.some.inj (hv264_0.symm.trans hx264_0)
    injection hv264_0 with hva_ hvn_ hvc_
    rw [hva_] at ge264_0
    rw [hvc_] at ul264_0
    have HL264_0 := Aside0.mk (show Kd.V (Kd.int .u64) 67 _ w.heap.size _ _ (rd_L1 t261 a1) from Kd.V_mk ul264_0 ge264_0)
    clear hva_ hvn_ hvc_ ge264_0 ul264_0
    clear hcc264 hce264
    have HR264_0 := Aside0.mk hi264_0
    have HC264_0 := Aside0.mk hl264_0
    clear hi264_0 hl264_0
    replace p264 := eq_true p264
    replace q264 := eq_true q264
    refine hK.out _ _ ⟨(blk_cell BK259.out 0).trans rfl, (blk_cell BK259.out 1).trans rfl, (blk_cell BK259.out 2).trans rfl, (blk_cell BK259.out 3).trans rfl, (blk_cell BK259.out 4).trans rfl⟩ (fun hHeld => ?_)
    clear hK K
    refine norm_ (a' := ?_) ?_ ?_
    rotate_left
    ·
     show Act.put _ (some 16) _ = _
     simp only [Act.put, List.setIfInBounds_toArray, List.set_cons_zero, List.set_cons_succ, i64_w, i32_w]
     rfl
    refine pure_ (i := 6) (N := some 18) (v := ?_) (a' := ?_) #[true, true, true, true, true, true, true, false, false, false] rfl rfl (any_of HT_.out (by kernel_rfl)) (fun _ _ _ h => h) (Or.inl ⟨by rfl, ?_⟩) ?_ ?_
    rotate_left
    ·
     intro w'
     go_simp
     with_reducible rfl
    rotate_left
    ·
     simp only [Act.put, List.setIfInBounds_toArray, List.set_cons_zero, List.set_cons_succ, i64_w, i32_w]
     rfl
    refine one_ (i := 7) (N := some 19) #[true, true, true, true, true, true, true, true, false, false] rfl rfl (one_of HT_.out (by kernel_rfl)) (by decide) (fun K hK => ?_)
    refine value_ (v := .slice A264_0 (rd_L1 t261 a1).length c264_0) (w1 := w14) (by rfl) rfl ?_ ?_
    ·
     go_simp
    refine hK.out _ _ ⟨(blk_cell BK259.out 0).trans rfl, (blk_cell BK259.out 1).trans rfl, (blk_cell BK259.out 2).trans rfl, (blk_cell BK259.out 3).trans rfl, (blk_cell BK259.out 4).trans rfl⟩ (fun hHeld => ?_)
    clear hK K
    refine norm_ (a' := ?_) ?_ ?_
    rotate_left
    ·
     show Act.put _ (some 19) _ = _
     simp only [Act.put, List.setIfInBounds_toArray, List.set_cons_zero, List.set_cons_succ, i64_w, i32_w]
     rfl
    refine one_ (i := 8) (N := some 20) #[true, true, true, true, true, true, true, true, true, false] rfl rfl (one_of HT_.out (by kernel_rfl)) (by decide) (fun K hK => ?_)
    refine goes_ Tryd.func42 (by kernel_rfl) rfl #[.agg #[.slice A0_0 l0_0.length c0_0, .slice A0_1 l0_1.length c0_1, .int .i64 a0_2, .int .i64 a0_3, .slice A0_4 l0_4.length c0_4], .int .i64 a1, .int .i64 a2, .slice A264_0 (rd_L1 t261 a1).length c264_0] (by rfl) rfl rfl (by (try simp only [List.map_toArray, List.map_cons, List.map_nil]); first | done | rfl) ?_
    with_reducible refine (live_through.calls k _ _ l0_0 _ _ l0_1 a0_2 a0_3 _ _ l0_4 a1 a2 (fun k_ => (((w.heap.size ≤ k_) ∧ k_ ≠ gb259) ∧ some k_ ≠ (.slice (some ad264) t261.length co15 : Value).ownBlock)) _ _ (rd_L1 t261 a1) t265 _ ?side8 ?side1 ?side2 ?side3 ?side4 ?side5 ?side6 ?side7 A9.out).mono ?_
    (case side1 => exact Kd.Cx (Kd.C_below HR0_0.out HB.out))
    (case side2 => exact HC0_0.out)
    (case side3 => exact Kd.Cx (Kd.C_below HR0_1.out HB.out))
    (case side4 => exact HC0_1.out)
    (case side5 => exact Kd.Cx (Kd.C_below HR0_4.out HB.out))
    (case side6 => exact HC0_4.out)
    (case side7 => exact HL264_0.out)
    (case side8 => exact GG_below HGG.out (bl HB))
    rintro e w16 ⟨v266, rfl, ho0, hb⟩
    refine ⟨_, rfl, ?_⟩
    replace HL264_0 := Aside0.mk (Kd.V_below (Kd.Vx HL264_0.out) hb); have HO267 := Aside0.mk (Kd.V_lower (Kd.V_mono (ok' := fun k_ => (w.heap.size ≤ k_) ∧ some k_ ≠ (.slice (some ad264) t261.length co15 : Value).ownBlock ∧ k_ ≠ gb259) ho0 (fun k_ hk_ => ⟨Or.elim hk_ (fun hs_ => hs_.1.1) (fun hn_ => (Nat.le_trans (below_size (bl HB)) hn_)), Or.elim hk_ (fun hs_ => hs_.2) (fun hn_ => (Kd.fresh' (Kd.N_lt (Kd.Nx HO263.out)) k_ hn_)), Or.elim hk_ (fun hs_ => hs_.1.2) (fun hn_ => (Kd.freshB (g := gb259) (o := .cells #[.slice A0_0 l0_0.length c0_0, .slice A0_1 l0_1.length c0_1, .int .i64 a0_2, .int .i64 a0_3, .slice A0_4 l0_4.length c0_4] 30 (0, 0)) (bx BK259.out) k_ hn_))⟩)) (below_size (bl HB))); replace HO263 := Aside0.mk (Kd.N_below (Kd.Nx HO263.out) hb); replace BK259 := Aside0.mk (blk_below (bx BK259.out) hb); replace HR264_0 := Aside0.mk (Kd.C_below (by repeat (first | (with_reducible exact HR264_0.out) | (with_reducible refine Kd.C_alloc ?_ _) | (with_reducible refine Kd.C_drewN ?_ _) | (with_reducible refine Kd.C_drew ?_) | exact HR264_0.out)) hb); replace HB := Aside0.mk (below_step (bl HB) hb)
    (try clear hb)
    (try clear hb2)
    (try clear hk)
    (try clear hi)
    (try clear ho0)
    refine hK.out _ _ ⟨(blk_cell BK259.out 0).trans rfl, (blk_cell BK259.out 1).trans rfl, (blk_cell BK259.out 2).trans rfl, (blk_cell BK259.out 3).trans rfl, (blk_cell BK259.out 4).trans rfl⟩ (fun hHeld => ?_)
    clear hK K
    refine norm_ (a' := ?_) ?_ ?_
    rotate_left
    ·
     show Act.put _ (some 20) _ = _
     simp only [Act.put, List.setIfInBounds_toArray, List.set_cons_zero, List.set_cons_succ, i64_w, i32_w]
     rfl
    refine pure_ (i := 9) (N := some 6) (v := ?_) (a' := ?_) #[true, true, true, true, true, true, true, true, true, true] rfl rfl (any_of HT_.out (by kernel_rfl)) (fun _ _ _ h => h) (Or.inl ⟨by rfl, ?_⟩) ?_ ?_
    rotate_left
    ·
     intro w'
     go_simp
     with_reducible rfl
    rotate_left
    ·
     simp only [Act.put, List.setIfInBounds_toArray, List.set_cons_zero, List.set_cons_succ, i64_w, i32_w]
     rfl
    refine done_ (done_of HT_.out (by kernel_rfl)) ?_
    try go_wp2
    go_ret
    exact ⟨_, by first | rfl | (simp [errW_none, errW_some] <;> rfl) | (simp [*, errW_none, errW_some] <;> rfl), by (with_reducible repeat (first | apply Kd.V_alloc | apply Kd.V_drewN | apply Kd.V_drew)); exact Kd.V_mono HO267.out (fun _ hk => hk.1), bl HB⟩
   rw [if_neg c8] at H
   exact absurd H (by simp)
  rw [if_neg c7] at H
  exact absurd H (by simp)
 replace c5 := Bool.eq_false_iff.mpr c5
 subst c5
 have H1 : (some ([] : List Int)) = some r := by rw [if_neg (show ¬ (false = true) by decide)] at H; exact H
 clear H
 have H := H1
 clear H1
 obtain rfl := Option.some.inj H
 go_enter Tryd.func20, Tryd.ntmps20
 go_wp2_with (first | ((with_reducible refine gate_dst (N := 3) rfl ?_); refine box_event ?hg (N := 3) ?hd (cs := #[.slice A0_0 l0_0.length c0_0, .slice A0_1 l0_1.length c0_1, .int .i64 a0_2, .int .i64 a0_3, .slice A0_4 l0_4.length c0_4]) (t := 30) ?hr ?_; (case hd => rfl); (case hg => rfl); (case hr => first | (go_simp; done) | (go_simp; rfl)); intro gb259 hg w17 hbox hb; have BK259 := Aside0.mk (hbox); have GW259 := ge hg (bl HB); have GE259 := ge hg (bl HB); replace HB := Aside0.mk (below_step (bl HB) hb); clear hb hbox hg; obtain ⟨hcz18_0, hcz18_1, hcz18_2, hcz18_3, hcz18_4⟩ := bk5 BK259.out; have hfz18_0 := bf BK259.out) | ((with_reducible refine gate_callee (f := 41) rfl ?_); refine goesL_ (some 10) rfl rfl Tryd.func41 (by kernel_rfl) rfl #[.agg #[.slice A0_0 l0_0.length c0_0, .slice A0_1 l0_1.length c0_1, .int .i64 a0_2, .int .i64 a0_3, .slice A0_4 l0_4.length c0_4], .int .i64 a1, .int .i64 a2] rfl (by (try simp only [List.map_toArray, List.map_cons, List.map_nil]); first | done | rfl) ?_; (with_reducible refine (live_there.calls _ _ l0_0 _ _ l0_1 a0_2 a0_3 _ _ l0_4 a1 a2 false _ ?side1 ?side2 ?side3 ?side4 ?side5 ?side6 A4.out).mono ?_); (case side1 => exact Kd.Cx (Kd.C_below HR0_0.out HB.out)); (case side2 => exact HC0_0.out); (case side3 => exact Kd.Cx (Kd.C_below HR0_1.out HB.out)); (case side4 => exact HC0_1.out); (case side5 => exact Kd.Cx (Kd.C_below HR0_4.out HB.out)); (case side6 => exact HC0_4.out); rintro e w19 ⟨rfl, hb⟩; refine ⟨_, rfl, ?_⟩; replace BK259 := Aside0.mk (blk_below (bx BK259.out) hb); replace HB := Aside0.mk (below_step (bl HB) hb); (try clear hb); (try clear hb2); (try clear hk); (try clear hi)))
 go_ret
 exact ⟨_, by first | rfl | (simp [errW_none, errW_some] <;> rfl) | (simp [*, errW_none, errW_some] <;> rfl), (Kd.V_nil _ _ _ _ _), bl HB⟩
def live_Is.f (k : Nat) (l0_0 : List Int) (l0_1 : List Int) (a0_2 : Int) (a0_3 : Int) (l0_4 : List (S40)) (a1 : Int) (a2 : Int) (a3 : Int) : Option (Bool) := (live_Ahead.f k l0_0 l0_1 a0_2 a0_3 l0_4 a1 a2).bind fun t269 => ((bitset_Has.f t269 a3).bind fun t272 => (some t272))
theorem live_Is.mono : ∀ a0 a1 a2 a3 a4 a5 a6 a7 k, LeO (live_Is.f k a0 a1 a2 a3 a4 a5 a6 a7) (live_Is.f (k + 1) a0 a1 a2 a3 a4 a5 a6 a7) := by
 intro a0 a1 a2 a3 a4 a5 a6 a7 k
 unfold live_Is.f
 repeat' first
  | (with_reducible exact live_Ahead.mono _ _ _ _ _ _ _ _)
  | (with_reducible exact LeO.refl _)
  | (with_reducible exact LeO.none _)
  | (with_reducible refine LeO.ite ?_ ?_)
  | (with_reducible refine LeO.bind ?_ (fun _ => ?_))
  | exact live_Ahead.mono _ _ _ _ _ _ _ _
  | exact LeO.none _
  | refine LeO.ite ?_ ?_
  | refine LeO.bind ?_ (fun _ => ?_)
set_option maxHeartbeats 8000000 in
set_option maxRecDepth 100000 in
theorem live_Is.calls (k : Nat) (A0_0 : Option Addr) (c0_0 : Nat) (l0_0 : List Int) (A0_1 : Option Addr) (c0_1 : Nat) (l0_1 : List Int) (a0_2 : Int) (a0_3 : Int) (A0_4 : Option Addr) (c0_4 : Nat) (l0_4 : List (S40)) (a1 : Int) (a2 : Int) (a3 : Int) (r : Bool) (w : World) (hGG : GG w) (hr0_0 : Kd.C (Kd.int .i64) w A0_0 l0_0.length l0_0) (hc0_0 : l0_0.length ≤ c0_0) (hr0_1 : Kd.C (Kd.int .i64) w A0_1 l0_1.length l0_1) (hc0_1 : l0_1.length ≤ c0_1) (hr0_4 : Kd.C k40 w A0_4 l0_4.length l0_4) (hc0_4 : l0_4.length ≤ c0_4) (h : live_Is.f k l0_0 l0_1 a0_2 a0_3 l0_4 a1 a2 a3 = some r) :
 Calls Tryd.prog 32 #[.agg #[.slice A0_0 l0_0.length c0_0, .slice A0_1 l0_1.length c0_1, .int .i64 a0_2, .int .i64 a0_3, .slice A0_4 l0_4.length c0_4], .int .i64 a1, .int .i64 a2, .int .i64 a3] w fun e w' => e = .returned (.bool r) ∧ Below w.heap.size w w' := by
 have hu30 := Tryd.underlying30
 have HGG := Aside0.mk hGG
 clear hGG
 have HR0_0 := Aside0.mk hr0_0
 have HC0_0 := Aside0.mk hc0_0
 clear hr0_0 hc0_0
 have HR0_1 := Aside0.mk hr0_1
 have HC0_1 := Aside0.mk hc0_1
 clear hr0_1 hc0_1
 have HR0_4 := Aside0.mk hr0_4
 have HC0_4 := Aside0.mk hc0_4
 clear hr0_4 hc0_4
 have HB := Aside0.mk (Below.refl w.heap.size w)
 have H : ((live_Ahead.f k l0_0 l0_1 a0_2 a0_3 l0_4 a1 a2).bind fun t269 => ((bitset_Has.f t269 a3).bind fun t272 => (some t272))) = some r := h
 clear h
 replace H := Option.bind_eq_some_iff.mp H
 obtain ⟨t269, A50, H⟩ := H
 replace H : ((bitset_Has.f t269 a3).bind fun t272 => (some t272)) = some r := H
 have A5 := Aside0.mk A50
 clear A50
 replace H := Option.bind_eq_some_iff.mp H
 obtain ⟨t272, A60, H⟩ := H
 replace H : (some t272) = some r := H
 have A6 := Aside0.mk A60
 clear A60
 obtain rfl := Option.some.inj H
 go_enter Tryd.func32, Tryd.ntmps32
 go_wp2_with (first | ((with_reducible refine gate_dst (N := 4) rfl ?_); refine box_event ?hg (N := 4) ?hd (cs := #[.slice A0_0 l0_0.length c0_0, .slice A0_1 l0_1.length c0_1, .int .i64 a0_2, .int .i64 a0_3, .slice A0_4 l0_4.length c0_4]) (t := 30) ?hr ?_; (case hd => rfl); (case hg => rfl); (case hr => first | (go_simp; done) | (go_simp; rfl)); intro gb268 hg w7 hbox hb; have BK268 := Aside0.mk (hbox); have GW268 := ge hg (bl HB); have GE268 := ge hg (bl HB); replace HB := Aside0.mk (below_step (bl HB) hb); clear hb hbox hg; obtain ⟨hcz8_0, hcz8_1, hcz8_2, hcz8_3, hcz8_4⟩ := bk5 BK268.out; have hfz8_0 := bf BK268.out) | ((with_reducible refine gate_callee (f := 20) rfl ?_); refine goesL_ (some 12) rfl rfl Tryd.func20 (by kernel_rfl) rfl #[.agg #[.slice A0_0 l0_0.length c0_0, .slice A0_1 l0_1.length c0_1, .int .i64 a0_2, .int .i64 a0_3, .slice A0_4 l0_4.length c0_4], .int .i64 a1, .int .i64 a2] rfl (by (try simp only [List.map_toArray, List.map_cons, List.map_nil]); first | done | rfl) ?_; (with_reducible refine (live_Ahead.calls k _ _ l0_0 _ _ l0_1 a0_2 a0_3 _ _ l0_4 a1 a2 t269 _ ?side7 ?side1 ?side2 ?side3 ?side4 ?side5 ?side6 A5.out).mono ?_); (case side1 => exact Kd.Cx (Kd.C_below HR0_0.out HB.out)); (case side2 => exact HC0_0.out); (case side3 => exact Kd.Cx (Kd.C_below HR0_1.out HB.out)); (case side4 => exact HC0_1.out); (case side5 => exact Kd.Cx (Kd.C_below HR0_4.out HB.out)); (case side6 => exact HC0_4.out); (case side7 => exact GG_below HGG.out (bl HB)); rintro e w9 ⟨v270, rfl, ho0, hb⟩; refine ⟨_, rfl, ?_⟩; have HO271 := Aside0.mk (Kd.V_lower (Kd.V_mono (ok' := fun k_ => k_ ≠ gb268) ho0 (fun k_ hk_ => (Kd.freshB (g := gb268) (o := .cells #[.slice A0_0 l0_0.length c0_0, .slice A0_1 l0_1.length c0_1, .int .i64 a0_2, .int .i64 a0_3, .slice A0_4 l0_4.length c0_4] 30 (0, 0)) (bx BK268.out) k_ hk_))) (below_size (bl HB))); replace BK268 := Aside0.mk (blk_below (bx BK268.out) hb); replace HB := Aside0.mk (below_step (bl HB) hb); (try clear hb); (try clear hb2); (try clear hk); (try clear hi); (try clear ho0); obtain ⟨Ao10, co10, eo10⟩ := Kd.V_slice HO271.out; subst eo10) | ((with_reducible refine gate_callee (f := 33) rfl ?_); refine goesL_ (some 14) rfl rfl Tryd.func33 (by kernel_rfl) rfl #[.slice Ao10 t269.length co10, .int .i64 a3] rfl (by (try simp only [List.map_toArray, List.map_cons, List.map_nil]); first | done | rfl) ?_; (with_reducible refine (bitset_Has.calls _ _ t269 a3 t272 _ ?side1 ?side2 A6.out).mono ?_); (case side1 => exact Kd.Cx ((Kd.V_reads' HO271.out).2.2)); (case side2 => exact (Kd.V_reads' HO271.out).2.1); rintro e w' ⟨rfl, ⟨nd, rfl⟩⟩; refine ⟨_, rfl, ?_⟩))
 go_ret
 exact ⟨by first | rfl | (simp [errW_none, errW_some] <;> rfl) | (simp [*, errW_none, errW_some] <;> rfl), bl HB⟩
def portolanlaw11_alive.f (k : Nat)  : Option (Bool) := (some (([0] : List Int) : List Int)).bind fun y273 => ((some (([(-1)] : List Int) : List Int)).bind fun y276 => ((some (([(⟨(([(⟨1, 0, 0, 0, 0, 0, ([] : List Int)⟩ : S44), (⟨23, 0, 0, 0, 0, 0, ([] : List Int)⟩ : S44)] : List (S44)))⟩ : S40)] : List (S40)) : List (S40))).bind fun y282 => ((live_Ahead.f k y273 y276 0 0 y282 0 0).bind fun t286 => (if (t286.length : Int) = 0 then ((live_Is.f k y273 y276 0 0 y282 0 1 0).bind fun t289 => (if t289 = true then ((live_Behind.f k y273 y276 0 0 y282 0 0).bind fun t290 => ((bitset_Has.f t290 0).bind fun t293 => (if t293 = true then ((live_Out.f k y273 y276 0 0 y282 0).bind fun t294 => (some ((t294.length : Int) == 0))) else (some false)))) else (some false))) else (some false)))))
theorem portolanlaw11_alive.mono : ∀ k, LeO (portolanlaw11_alive.f k ) (portolanlaw11_alive.f (k + 1) ) := by
 intro  k
 unfold portolanlaw11_alive.f
 repeat' first
  | (with_reducible exact live_Ahead.mono _ _ _ _ _ _ _ _)
  | (with_reducible exact live_Behind.mono _ _ _ _ _ _ _ _)
  | (with_reducible exact live_Is.mono _ _ _ _ _ _ _ _ _)
  | (with_reducible exact live_Out.mono _ _ _ _ _ _ _)
  | (with_reducible exact LeO.refl _)
  | (with_reducible exact LeO.none _)
  | (with_reducible refine LeO.ite ?_ ?_)
  | (with_reducible refine LeO.bind ?_ (fun _ => ?_))
  | exact live_Ahead.mono _ _ _ _ _ _ _ _
  | exact live_Behind.mono _ _ _ _ _ _ _ _
  | exact live_Is.mono _ _ _ _ _ _ _ _ _
  | exact live_Out.mono _ _ _ _ _ _ _
  | exact LeO.none _
  | refine LeO.ite ?_ ?_
  | refine LeO.bind ?_ (fun _ => ?_)
theorem alive_up (k n : Nat) (h : k ≤ n) : LeO (portolanlaw11_alive.f k) (portolanlaw11_alive.f n) := by
 obtain ⟨d, rfl⟩ := Nat.le.dest h
 induction d with
 | zero => exact LeO.refl _
 | succ d ih => exact LeO.trans (ih (by omega)) (portolanlaw11_alive.mono _)
set_option maxHeartbeats 8000000 in
set_option maxRecDepth 100000 in
theorem portolanlaw11_alive.calls (k : Nat)  (r : Bool) (w : World) (hGG : GG w) (h : portolanlaw11_alive.f k  = some r) :
 Calls Tryd.prog 7 #[] w fun e w' => e = .returned (.bool r) ∧ Below w.heap.size w w' := by
 have hu44 := Tryd.underlying44
 have hu40 := Tryd.underlying40
 have hu30 := Tryd.underlying30
 have HGG := Aside0.mk hGG
 clear hGG
 have HB := Aside0.mk (Below.refl w.heap.size w)
 have H : ((some (([0] : List Int) : List Int)).bind fun y273 => ((some (([(-1)] : List Int) : List Int)).bind fun y276 => ((some (([(⟨(([(⟨1, 0, 0, 0, 0, 0, ([] : List Int)⟩ : S44), (⟨23, 0, 0, 0, 0, 0, ([] : List Int)⟩ : S44)] : List (S44)))⟩ : S40)] : List (S40)) : List (S40))).bind fun y282 => ((live_Ahead.f k y273 y276 0 0 y282 0 0).bind fun t286 => (if (t286.length : Int) = 0 then ((live_Is.f k y273 y276 0 0 y282 0 1 0).bind fun t289 => (if t289 = true then ((live_Behind.f k y273 y276 0 0 y282 0 0).bind fun t290 => ((bitset_Has.f t290 0).bind fun t293 => (if t293 = true then ((live_Out.f k y273 y276 0 0 y282 0).bind fun t294 => (some ((t294.length : Int) == 0))) else (some false)))) else (some false))) else (some false)))))) = some r := h
 have hr : Aside0 (r = true) := ⟨by
  have h1 := alive_up k _ (Nat.le_max_left k 60) r h
  have h2 := alive_up 60 _ (Nat.le_max_right k 60) true (by decide +kernel)
  exact Option.some.inj (h1.symm.trans h2)⟩
 clear h
 obtain ⟨y273, hy273⟩ : ∃ y_ : List Int, y_ = (([0] : List Int)) := ⟨_, rfl⟩
 replace H : ((some (([(-1)] : List Int) : List Int)).bind fun y276 => ((some (([(⟨(([(⟨1, 0, 0, 0, 0, 0, ([] : List Int)⟩ : S44), (⟨23, 0, 0, 0, 0, 0, ([] : List Int)⟩ : S44)] : List (S44)))⟩ : S40)] : List (S40)) : List (S40))).bind fun y282 => ((live_Ahead.f k y273 y276 0 0 y282 0 0).bind fun t286 => (if (t286.length : Int) = 0 then ((live_Is.f k y273 y276 0 0 y282 0 1 0).bind fun t289 => (if t289 = true then ((live_Behind.f k y273 y276 0 0 y282 0 0).bind fun t290 => ((bitset_Has.f t290 0).bind fun t293 => (if t293 = true then ((live_Out.f k y273 y276 0 0 y282 0).bind fun t294 => (some ((t294.length : Int) == 0))) else (some false)))) else (some false))) else (some false))))) = some r := by first | (rw [hy273]; with_reducible exact H) | (have H2_ := (Option.bind_some _ _).symm.trans H; rw [hy273]; with_reducible exact H2_) | (have H2_ := (Option.bind_some _ _).symm.trans H; with_reducible exact H2_) | with_reducible exact H | (rw [hy273]; exact H) | exact H
 have Ny273 := Aside0.mk hy273
 clear hy273
 obtain ⟨y276, hy276⟩ : ∃ y_ : List Int, y_ = (([(-1)] : List Int)) := ⟨_, rfl⟩
 replace H : ((some (([(⟨(([(⟨1, 0, 0, 0, 0, 0, ([] : List Int)⟩ : S44), (⟨23, 0, 0, 0, 0, 0, ([] : List Int)⟩ : S44)] : List (S44)))⟩ : S40)] : List (S40)) : List (S40))).bind fun y282 => ((live_Ahead.f k y273 y276 0 0 y282 0 0).bind fun t286 => (if (t286.length : Int) = 0 then ((live_Is.f k y273 y276 0 0 y282 0 1 0).bind fun t289 => (if t289 = true then ((live_Behind.f k y273 y276 0 0 y282 0 0).bind fun t290 => ((bitset_Has.f t290 0).bind fun t293 => (if t293 = true then ((live_Out.f k y273 y276 0 0 y282 0).bind fun t294 => (some ((t294.length : Int) == 0))) else (some false)))) else (some false))) else (some false)))) = some r := by first | (rw [hy276]; with_reducible exact H) | (have H2_ := (Option.bind_some _ _).symm.trans H; rw [hy276]; with_reducible exact H2_) | (have H2_ := (Option.bind_some _ _).symm.trans H; with_reducible exact H2_) | with_reducible exact H | (rw [hy276]; exact H) | exact H
 have Ny276 := Aside0.mk hy276
 clear hy276
 obtain ⟨y279, hy279⟩ : ∃ y_ : List (S44), y_ = (([(⟨1, 0, 0, 0, 0, 0, ([] : List Int)⟩ : S44), (⟨23, 0, 0, 0, 0, 0, ([] : List Int)⟩ : S44)] : List (S44))) := ⟨_, rfl⟩
 replace H : ((some (([(⟨y279⟩ : S40)] : List (S40)) : List (S40))).bind fun y282 => ((live_Ahead.f k y273 y276 0 0 y282 0 0).bind fun t286 => (if (t286.length : Int) = 0 then ((live_Is.f k y273 y276 0 0 y282 0 1 0).bind fun t289 => (if t289 = true then ((live_Behind.f k y273 y276 0 0 y282 0 0).bind fun t290 => ((bitset_Has.f t290 0).bind fun t293 => (if t293 = true then ((live_Out.f k y273 y276 0 0 y282 0).bind fun t294 => (some ((t294.length : Int) == 0))) else (some false)))) else (some false))) else (some false)))) = some r := by first | (rw [hy279]; with_reducible exact H) | (have H2_ := (Option.bind_some _ _).symm.trans H; rw [hy279]; with_reducible exact H2_) | (have H2_ := (Option.bind_some _ _).symm.trans H; with_reducible exact H2_) | with_reducible exact H | (rw [hy279]; exact H) | exact H
 have Ny279 := Aside0.mk hy279
 clear hy279
 obtain ⟨y282, hy282⟩ : ∃ y_ : List (S40), y_ = (([(⟨y279⟩ : S40)] : List (S40))) := ⟨_, rfl⟩
 replace H : ((live_Ahead.f k y273 y276 0 0 y282 0 0).bind fun t286 => (if (t286.length : Int) = 0 then ((live_Is.f k y273 y276 0 0 y282 0 1 0).bind fun t289 => (if t289 = true then ((live_Behind.f k y273 y276 0 0 y282 0 0).bind fun t290 => ((bitset_Has.f t290 0).bind fun t293 => (if t293 = true then ((live_Out.f k y273 y276 0 0 y282 0).bind fun t294 => (some ((t294.length : Int) == 0))) else (some false)))) else (some false))) else (some false))) = some r := by first | (rw [hy282]; with_reducible exact H) | (have H2_ := (Option.bind_some _ _).symm.trans H; rw [hy282]; with_reducible exact H2_) | (have H2_ := (Option.bind_some _ _).symm.trans H; with_reducible exact H2_) | with_reducible exact H | (rw [hy282]; exact H) | exact H
 have Ny282 := Aside0.mk hy282
 clear hy282
 replace H := Option.bind_eq_some_iff.mp H
 obtain ⟨t286, A10, H⟩ := H
 replace H : (if (t286.length : Int) = 0 then ((live_Is.f k y273 y276 0 0 y282 0 1 0).bind fun t289 => (if t289 = true then ((live_Behind.f k y273 y276 0 0 y282 0 0).bind fun t290 => ((bitset_Has.f t290 0).bind fun t293 => (if t293 = true then ((live_Out.f k y273 y276 0 0 y282 0).bind fun t294 => (some ((t294.length : Int) == 0))) else (some false)))) else (some false))) else (some false)) = some r := H
 have A1 := Aside0.mk A10
 clear A10
 by_cases c2 : (t286.length : Int) = 0
 ·
  rw [if_pos c2] at H
  have c2b0 : ((t286.length : Int) == 0) = true := beq_iff_eq.mpr c2
  have c2b1 : ((t286.length : Int) != 0) = false := bne_eq_false_iff_eq.mpr c2
  clear c2
  replace H := Option.bind_eq_some_iff.mp H
  obtain ⟨t289, A30, H⟩ := H
  replace H : (if t289 = true then ((live_Behind.f k y273 y276 0 0 y282 0 0).bind fun t290 => ((bitset_Has.f t290 0).bind fun t293 => (if t293 = true then ((live_Out.f k y273 y276 0 0 y282 0).bind fun t294 => (some ((t294.length : Int) == 0))) else (some false)))) else (some false)) = some r := H
  have A3 := Aside0.mk A30
  clear A30
  by_cases c4 : t289 = true
  ·
   subst c4
   have H1 : ((live_Behind.f k y273 y276 0 0 y282 0 0).bind fun t290 => ((bitset_Has.f t290 0).bind fun t293 => (if t293 = true then ((live_Out.f k y273 y276 0 0 y282 0).bind fun t294 => (some ((t294.length : Int) == 0))) else (some false)))) = some r := by rw [if_pos rfl] at H; exact H
   clear H
   have H := H1
   clear H1
   replace H := Option.bind_eq_some_iff.mp H
   obtain ⟨t290, A50, H⟩ := H
   replace H : ((bitset_Has.f t290 0).bind fun t293 => (if t293 = true then ((live_Out.f k y273 y276 0 0 y282 0).bind fun t294 => (some ((t294.length : Int) == 0))) else (some false))) = some r := H
   have A5 := Aside0.mk A50
   clear A50
   replace H := Option.bind_eq_some_iff.mp H
   obtain ⟨t293, A60, H⟩ := H
   replace H : (if t293 = true then ((live_Out.f k y273 y276 0 0 y282 0).bind fun t294 => (some ((t294.length : Int) == 0))) else (some false)) = some r := H
   have A6 := Aside0.mk A60
   clear A60
   by_cases c7 : t293 = true
   ·
    subst c7
    have H1 : ((live_Out.f k y273 y276 0 0 y282 0).bind fun t294 => (some ((t294.length : Int) == 0))) = some r := by rw [if_pos rfl] at H; exact H
    clear H
    have H := H1
    clear H1
    replace H := Option.bind_eq_some_iff.mp H
    obtain ⟨t294, A80, H⟩ := H
    replace H : (some ((t294.length : Int) == 0)) = some r := H
    have A8 := Aside0.mk A80
    clear A80
    obtain rfl := Option.some.inj H
    go_enter Tryd.func7, Tryd.ntmps7
    go_wp2_with (first | ((with_reducible refine gate_dst (N := 2) rfl ?_); (try (refine gate_guard (by rfl) ?_; dsimp only)); refine Kd.R_lit (Kd.int .i64) _ 3 ?hg (N := 2) ?hd (xs := ([0] : List Int)) (inner := [.int .i64 0]) (ok := fun _ => True) (okp := fun _ => True) ?hr ?hp (fun _ hk => hk) trivial (Below.refl _ _) (Nat.le_refl _) (by simp) ?_; (case hd => rfl); (case hg => rfl); (case hr => first | (go_simp; done) | (go_simp; rfl)); (case hp => exact (Reps.one (show Kd.M (Kd.int .i64) _ _ _ 0 [.int .i64 0] from rfl) (Reps.none _ _))); intro v274 w9 ho10 hb hg_ hnew_; clear hg_ hnew_; (first | rw [← Ny273.out] at ho10 | (simp only [Int.reduceToNat] at ho10; rw [← Ny273.out] at ho10)); have HO275 := Aside0.mk (Kd.R_lower ho10 (below_size (bl HB))); replace HB := Aside0.mk (below_step (bl HB) hb); clear hb ho10) | ((with_reducible refine gate_dst (N := 3) rfl ?_); (try (refine gate_guard (by rfl) ?_; dsimp only)); refine Kd.R_lit (Kd.int .i64) _ 3 ?hg (N := 3) ?hd (xs := ([(-1)] : List Int)) (inner := [.int .i64 (-1)]) (ok := fun _ => True) (okp := fun _ => True) ?hr ?hp (fun _ hk => hk) trivial (Below.refl _ _) (Nat.le_refl _) (by simp) ?_; (case hd => rfl); (case hg => rfl); (case hr => first | (go_simp; done) | (go_simp; rfl)); (case hp => exact (Reps.one (show Kd.M (Kd.int .i64) _ _ _ (-1) [.int .i64 (-1)] from rfl) (Reps.none _ _))); intro v277 w11 ho12 hb hg_ hnew_; clear hg_ hnew_; (first | rw [← Ny276.out] at ho12 | (simp only [Int.reduceToNat] at ho12; rw [← Ny276.out] at ho12)); have HO278 := Aside0.mk (Kd.R_lower (Kd.R_new' ho12 (Kd.R_lt (Kd.Rx HO275.out))) (below_size (bl HB))); replace HO275 := Aside0.mk (Kd.R_elder' (Kd.Rx HO275.out) (Kd.R_base ho12) hb); replace HB := Aside0.mk (below_step (bl HB) hb); clear hb ho12) | ((with_reducible refine gate_dst (N := 6) rfl ?_); (try (refine gate_guard (by rfl) ?_; dsimp only)); refine Kd.N_lit k44 _ 44 ?hg (N' := 6) ?hd (xs := ([(⟨1, 0, 0, 0, 0, 0, ([] : List Int)⟩ : S44), (⟨23, 0, 0, 0, 0, 0, ([] : List Int)⟩ : S44)] : List (S44))) (inner := [.int .i64 1, .int .i64 0, .int .i64 0, .int .i64 0, .int .i64 0, .int .i64 0, .slice none 0 0, .int .i64 23, .int .i64 0, .int .i64 0, .int .i64 0, .int .i64 0, .int .i64 0, .slice none 0 0]) (ok := (fun k_ => some k_ ≠ (v274 : Value).ownBlock ∧ some k_ ≠ (v277 : Value).ownBlock)) (okp := (fun k_ => some k_ ≠ (v274 : Value).ownBlock ∧ some k_ ≠ (v277 : Value).ownBlock)) ?hr ?hp (fun _ hk => hk) ((show ∀ k_, w11.heap.size ≤ k_ → (fun k_ => some k_ ≠ (v274 : Value).ownBlock ∧ some k_ ≠ (v277 : Value).ownBlock) k_ from fun k_ hk => ⟨Kd.fresh' (Kd.R_lt (Kd.Rx HO275.out)) k_ hk, Kd.fresh' (Kd.R_lt (Kd.Rx HO278.out)) k_ hk⟩) _ (Nat.le_refl _)) (Below.refl _ _) (Nat.le_refl _) (by simp) ?_; (case hd => rfl); (case hg => rfl); (case hr => first | (go_simp; done) | (go_simp; rfl)); (case hp => exact (Reps.c7 (show Kd.FK k44 _ _ (⟨1, 0, 0, 0, 0, 0, ([] : List Int)⟩ : S44) [.int .i64 1, .int .i64 0, .int .i64 0, .int .i64 0, .int .i64 0, .int .i64 0, .slice none 0 0] from (k44_mkF _ _ (⟨1, 0, 0, 0, 0, 0, ([] : List Int)⟩ : S44) (Nat.le_refl _) (Kd.F_nil _ _ _))) (Reps.c7 (show Kd.FK k44 _ _ (⟨23, 0, 0, 0, 0, 0, ([] : List Int)⟩ : S44) [.int .i64 23, .int .i64 0, .int .i64 0, .int .i64 0, .int .i64 0, .int .i64 0, .slice none 0 0] from (k44_mkF _ _ (⟨23, 0, 0, 0, 0, 0, ([] : List Int)⟩ : S44) (Nat.le_refl _) (Kd.F_nil _ _ _))) (Reps.none _ _)))); intro v280 w13 ho14 hb hg_ hnew_; clear hg_ hnew_; (first | rw [← Ny279.out] at ho14 | (simp only [Int.reduceToNat] at ho14; rw [← Ny279.out] at ho14)); replace HO275 := Aside0.mk (Kd.R_below (Kd.Rx HO275.out) hb); replace HO278 := Aside0.mk (Kd.R_below (Kd.Rx HO278.out) hb); have HO281 := Aside0.mk (Kd.N_lower ho14 (below_size (bl HB))); replace HB := Aside0.mk (below_step (bl HB) hb); clear hb ho14; obtain ⟨Ao15, co15, eo15⟩ := Kd.N_slice HO281.out; subst eo15) | ((with_reducible refine gate_dst (N := 8) rfl ?_); (try (refine gate_guard (by rfl) ?_; dsimp only)); refine Kd.N_lit k40 _ 40 ?hg (N' := 8) ?hd (xs := ([(⟨y279⟩ : S40)] : List (S40))) (inner := [.slice Ao15 y279.length co15]) (ok := (fun k_ => some k_ ≠ (v274 : Value).ownBlock ∧ some k_ ≠ (v277 : Value).ownBlock)) (okp := (fun k_ => some k_ ≠ (v274 : Value).ownBlock ∧ some k_ ≠ (v277 : Value).ownBlock)) ?hr ?hp (fun _ hk => hk) ((show ∀ k_, w13.heap.size ≤ k_ → (fun k_ => some k_ ≠ (v274 : Value).ownBlock ∧ some k_ ≠ (v277 : Value).ownBlock) k_ from fun k_ hk => ⟨Kd.fresh' (Kd.R_lt (Kd.Rx HO275.out)) k_ hk, Kd.fresh' (Kd.R_lt (Kd.Rx HO278.out)) k_ hk⟩) _ (Nat.le_refl _)) (Below.refl _ _) (Nat.le_refl _) (by simp) ?_; (case hd => rfl); (case hg => rfl); (case hr => first | (go_simp; done) | (go_simp; rfl)); (case hp => exact (Reps.one (show Kd.FK k40 _ _ (⟨y279⟩ : S40) [.slice Ao15 y279.length co15] from (k40_mkF _ _ (⟨y279⟩ : S40) (Kd.N_reads' (Kd.N_mono (ok' := (fun k_ => some k_ ≠ (v274 : Value).ownBlock ∧ some k_ ≠ (v277 : Value).ownBlock)) (HO281.out) (fun k_ hk => ⟨hk.1, hk.2⟩))).2.1 (Kd.N_F (Kd.N_mono (ok' := (fun k_ => some k_ ≠ (v274 : Value).ownBlock ∧ some k_ ≠ (v277 : Value).ownBlock)) (HO281.out) (fun k_ hk => ⟨hk.1, hk.2⟩))))) (Reps.none _ _))); intro v283 w16 ho17 hb hg_ hnew_; clear hg_ hnew_; (first | rw [← Ny282.out] at ho17 | (simp only [Int.reduceToNat] at ho17; rw [← Ny282.out] at ho17)); replace HO275 := Aside0.mk (Kd.R_below (Kd.Rx HO275.out) hb); replace HO278 := Aside0.mk (Kd.R_below (Kd.Rx HO278.out) hb); have HO284 := Aside0.mk (Kd.N_lower ho17 (below_size (bl HB))); replace HB := Aside0.mk (below_step (bl HB) hb); clear HO281; clear hb ho17; obtain ⟨Ao18, co18, eo18⟩ := Kd.N_slice HO284.out; subst eo18; obtain ⟨Ao19, co19, eo19⟩ := Kd.R_slice HO278.out; subst eo19; obtain ⟨Ao20, co20, eo20⟩ := Kd.R_slice HO275.out; subst eo20) | ((with_reducible refine gate_dst (N := 1) rfl ?_); (try (refine gate_guard (by rfl) ?_; dsimp only)); refine box_event ?hg (N := 1) ?hd (cs := #[.slice none 0 0, .slice none 0 0, .int .i64 0, .int .i64 0, .slice none 0 0]) (t := 30) ?hr ?_; (case hd => rfl); (case hg => rfl); (case hr => first | (go_simp; done) | (go_simp; rfl)); intro gb285 hg w21 hbox hb; replace HO275 := Aside0.mk (Kd.R_below (Kd.Rx HO275.out) hb); replace HO278 := Aside0.mk (Kd.R_below (Kd.Rx HO278.out) hb); replace HO284 := Aside0.mk (Kd.N_below (Kd.N_elderB (Kd.Nx HO284.out) gb285 (Nat.le_of_eq hg.symm)) hb); have BK285 := Aside0.mk (hbox); have GW285 := ge hg (bl HB); have GE285 := ge hg (bl HB); replace HB := Aside0.mk (below_step (bl HB) hb); clear hb hbox hg; obtain ⟨hcz22_0, hcz22_1, hcz22_2, hcz22_3, hcz22_4⟩ := bk5 BK285.out; have hfz22_0 := bf BK285.out) | ((with_reducible refine gate_callee (f := 20) rfl ?_); refine goesL_ (some 11) rfl rfl Tryd.func20 (by kernel_rfl) rfl #[.agg #[.slice Ao20 y273.length co20, .slice Ao19 y276.length co19, .int .i64 0, .int .i64 0, .slice Ao18 y282.length co18], .int .i64 0, .int .i64 0] rfl (by (try simp only [List.map_toArray, List.map_cons, List.map_nil]); first | done | rfl) ?_; (with_reducible refine (live_Ahead.calls k _ _ y273 _ _ y276 0 0 _ _ y282 0 0 t286 _ ?side7 ?side1 ?side2 ?side3 ?side4 ?side5 ?side6 A1.out).mono ?_); (case side1 => refine (Kd.R_reads' (e := 3) (base := w.heap.size) (ok := fun k_ => (True ∧ some k_ ≠ (.slice Ao19 y276.length co19 : Value).ownBlock)) (n := y273.length) (c := co20) ?_).2.2; exact (Kd.Rx (Kd.R_mono (Kd.R_far (p := ⟨gb285, 4, none⟩) (Kd.R_far (p := ⟨gb285, 3, none⟩) (Kd.R_far (p := ⟨gb285, 2, none⟩) (Kd.R_far (p := ⟨gb285, 1, none⟩) (Kd.R_far (p := ⟨gb285, 0, none⟩) (Kd.R_types HO275.out BK285.out (by decide)) (fun _ hk => hk.2) (.slice Ao20 y273.length co20)) (fun _ hk => hk.2) (.slice Ao19 y276.length co19)) (fun _ hk => hk.2) (.int .i64 0)) (fun _ hk => hk.2) (.int .i64 0)) (fun _ hk => hk.2) (.slice Ao18 y282.length co18)) (fun _ h_ => h_.1)))); (case side2 => exact (Kd.R_reads' HO275.out).2.1); (case side3 => refine (Kd.R_reads' (e := 3) (base := w.heap.size) (ok := fun k_ => (True ∧ some k_ ≠ (.slice Ao20 y273.length co20 : Value).ownBlock)) (n := y276.length) (c := co19) ?_).2.2; exact (Kd.Rx (Kd.R_mono (Kd.R_far (p := ⟨gb285, 4, none⟩) (Kd.R_far (p := ⟨gb285, 3, none⟩) (Kd.R_far (p := ⟨gb285, 2, none⟩) (Kd.R_far (p := ⟨gb285, 1, none⟩) (Kd.R_far (p := ⟨gb285, 0, none⟩) (Kd.R_types HO278.out BK285.out (by decide)) (fun _ hk => hk.2) (.slice Ao20 y273.length co20)) (fun _ hk => hk.2) (.slice Ao19 y276.length co19)) (fun _ hk => hk.2) (.int .i64 0)) (fun _ hk => hk.2) (.int .i64 0)) (fun _ hk => hk.2) (.slice Ao18 y282.length co18)) (fun _ h_ => h_.1)))); (case side4 => exact (Kd.R_reads' HO278.out).2.1); (case side5 => refine (Kd.N_reads' (e := 40) (base := w.heap.size) (ok := fun k_ => ((some k_ ≠ (.slice Ao20 y273.length co20 : Value).ownBlock ∧ some k_ ≠ (.slice Ao19 y276.length co19 : Value).ownBlock) ∧ k_ ≠ gb285)) (n := y282.length) (c := co18) ?_).2.2; exact (Kd.Nx (Kd.N_mono (Kd.N_far (p := ⟨gb285, 4, none⟩) (Kd.N_far (p := ⟨gb285, 3, none⟩) (Kd.N_far (p := ⟨gb285, 2, none⟩) (Kd.N_far (p := ⟨gb285, 1, none⟩) (Kd.N_far (p := ⟨gb285, 0, none⟩) (Kd.N_mono HO284.out (fun k_ hk => (⟨hk, hk.2⟩ : _ ∧ k_ ≠ gb285))) (fun _ hk => hk.2) (.slice Ao20 y273.length co20)) (fun _ hk => hk.2) (.slice Ao19 y276.length co19)) (fun _ hk => hk.2) (.int .i64 0)) (fun _ hk => hk.2) (.int .i64 0)) (fun _ hk => hk.2) (.slice Ao18 y282.length co18)) (fun _ h_ => h_.1)))); (case side6 => exact (Kd.N_reads' HO284.out).2.1); (case side7 => exact GG_below HGG.out (bl HB)); rintro e w23 ⟨v287, rfl, ho0, hb⟩; refine ⟨_, rfl, ?_⟩; have HO288 := Aside0.mk (Kd.V_lower (Kd.V_mono (ok' := fun k_ => some k_ ≠ (.slice Ao20 y273.length co20 : Value).ownBlock ∧ some k_ ≠ (.slice Ao19 y276.length co19 : Value).ownBlock ∧ some k_ ≠ (.slice Ao18 y282.length co18 : Value).ownBlock ∧ k_ ≠ gb285) ho0 (fun k_ hk_ => ⟨(Kd.fresh' (Kd.R_lt (Kd.Rx (Kd.R_mono (Kd.R_far (p := ⟨gb285, 4, none⟩) (Kd.R_far (p := ⟨gb285, 3, none⟩) (Kd.R_far (p := ⟨gb285, 2, none⟩) (Kd.R_far (p := ⟨gb285, 1, none⟩) (Kd.R_far (p := ⟨gb285, 0, none⟩) (Kd.R_types HO275.out BK285.out (by decide)) (fun _ hk => hk.2) (.slice Ao20 y273.length co20)) (fun _ hk => hk.2) (.slice Ao19 y276.length co19)) (fun _ hk => hk.2) (.int .i64 0)) (fun _ hk => hk.2) (.int .i64 0)) (fun _ hk => hk.2) (.slice Ao18 y282.length co18)) (fun _ h_ => h_.1)))) k_ hk_), (Kd.fresh' (Kd.R_lt (Kd.Rx (Kd.R_mono (Kd.R_far (p := ⟨gb285, 4, none⟩) (Kd.R_far (p := ⟨gb285, 3, none⟩) (Kd.R_far (p := ⟨gb285, 2, none⟩) (Kd.R_far (p := ⟨gb285, 1, none⟩) (Kd.R_far (p := ⟨gb285, 0, none⟩) (Kd.R_types HO278.out BK285.out (by decide)) (fun _ hk => hk.2) (.slice Ao20 y273.length co20)) (fun _ hk => hk.2) (.slice Ao19 y276.length co19)) (fun _ hk => hk.2) (.int .i64 0)) (fun _ hk => hk.2) (.int .i64 0)) (fun _ hk => hk.2) (.slice Ao18 y282.length co18)) (fun _ h_ => h_.1)))) k_ hk_), (Kd.fresh' (Kd.N_lt (Kd.Nx (Kd.N_mono (Kd.N_far (p := ⟨gb285, 4, none⟩) (Kd.N_far (p := ⟨gb285, 3, none⟩) (Kd.N_far (p := ⟨gb285, 2, none⟩) (Kd.N_far (p := ⟨gb285, 1, none⟩) (Kd.N_far (p := ⟨gb285, 0, none⟩) (Kd.N_mono HO284.out (fun k_ hk => (⟨hk, hk.2⟩ : _ ∧ k_ ≠ gb285))) (fun _ hk => hk.2) (.slice Ao20 y273.length co20)) (fun _ hk => hk.2) (.slice Ao19 y276.length co19)) (fun _ hk => hk.2) (.int .i64 0)) (fun _ hk => hk.2) (.int .i64 0)) (fun _ hk => hk.2) (.slice Ao18 y282.length co18)) (fun _ h_ => h_.1)))) k_ hk_), (Kd.freshB (g := gb285) (o := .cells #[.slice Ao20 y273.length co20, .slice Ao19 y276.length co19, .int .i64 0, .int .i64 0, .slice Ao18 y282.length co18] 30 (0, 0)) (by refine bp ?_; refine blk_put (cs := #[.slice Ao20 y273.length co20, .slice Ao19 y276.length co19, .int .i64 0, .int .i64 0, .slice none 0 0]) ?_ 4 _ rfl; refine bp ?_; refine blk_put (cs := #[.slice Ao20 y273.length co20, .slice Ao19 y276.length co19, .int .i64 0, .int .i64 0, .slice none 0 0]) ?_ 3 _ rfl; refine bp ?_; refine blk_put (cs := #[.slice Ao20 y273.length co20, .slice Ao19 y276.length co19, .int .i64 0, .int .i64 0, .slice none 0 0]) ?_ 2 _ rfl; refine bp ?_; refine blk_put (cs := #[.slice Ao20 y273.length co20, .slice none 0 0, .int .i64 0, .int .i64 0, .slice none 0 0]) ?_ 1 _ rfl; refine bp ?_; refine blk_put (cs := #[.slice none 0 0, .slice none 0 0, .int .i64 0, .int .i64 0, .slice none 0 0]) ?_ 0 _ rfl; refine bp ?_; exact BK285.out) k_ hk_)⟩)) (below_size (bl HB))); replace HO275 := Aside0.mk (Kd.R_below (Kd.Rx (Kd.R_mono (Kd.R_far (p := ⟨gb285, 4, none⟩) (Kd.R_far (p := ⟨gb285, 3, none⟩) (Kd.R_far (p := ⟨gb285, 2, none⟩) (Kd.R_far (p := ⟨gb285, 1, none⟩) (Kd.R_far (p := ⟨gb285, 0, none⟩) (Kd.R_types HO275.out BK285.out (by decide)) (fun _ hk => hk.2) (.slice Ao20 y273.length co20)) (fun _ hk => hk.2) (.slice Ao19 y276.length co19)) (fun _ hk => hk.2) (.int .i64 0)) (fun _ hk => hk.2) (.int .i64 0)) (fun _ hk => hk.2) (.slice Ao18 y282.length co18)) (fun _ h_ => h_.1))) hb); replace HO278 := Aside0.mk (Kd.R_below (Kd.Rx (Kd.R_mono (Kd.R_far (p := ⟨gb285, 4, none⟩) (Kd.R_far (p := ⟨gb285, 3, none⟩) (Kd.R_far (p := ⟨gb285, 2, none⟩) (Kd.R_far (p := ⟨gb285, 1, none⟩) (Kd.R_far (p := ⟨gb285, 0, none⟩) (Kd.R_types HO278.out BK285.out (by decide)) (fun _ hk => hk.2) (.slice Ao20 y273.length co20)) (fun _ hk => hk.2) (.slice Ao19 y276.length co19)) (fun _ hk => hk.2) (.int .i64 0)) (fun _ hk => hk.2) (.int .i64 0)) (fun _ hk => hk.2) (.slice Ao18 y282.length co18)) (fun _ h_ => h_.1))) hb); replace HO284 := Aside0.mk (Kd.N_below (Kd.Nx (Kd.N_mono (Kd.N_far (p := ⟨gb285, 4, none⟩) (Kd.N_far (p := ⟨gb285, 3, none⟩) (Kd.N_far (p := ⟨gb285, 2, none⟩) (Kd.N_far (p := ⟨gb285, 1, none⟩) (Kd.N_far (p := ⟨gb285, 0, none⟩) (Kd.N_mono HO284.out (fun k_ hk => (⟨hk, hk.2⟩ : _ ∧ k_ ≠ gb285))) (fun _ hk => hk.2) (.slice Ao20 y273.length co20)) (fun _ hk => hk.2) (.slice Ao19 y276.length co19)) (fun _ hk => hk.2) (.int .i64 0)) (fun _ hk => hk.2) (.int .i64 0)) (fun _ hk => hk.2) (.slice Ao18 y282.length co18)) (fun _ h_ => h_.1))) hb); replace BK285 := Aside0.mk (blk_below (g := gb285) (o := .cells #[.slice Ao20 y273.length co20, .slice Ao19 y276.length co19, .int .i64 0, .int .i64 0, .slice Ao18 y282.length co18] 30 (0, 0)) (by refine bp ?_; refine blk_put (cs := #[.slice Ao20 y273.length co20, .slice Ao19 y276.length co19, .int .i64 0, .int .i64 0, .slice none 0 0]) ?_ 4 _ rfl; refine bp ?_; refine blk_put (cs := #[.slice Ao20 y273.length co20, .slice Ao19 y276.length co19, .int .i64 0, .int .i64 0, .slice none 0 0]) ?_ 3 _ rfl; refine bp ?_; refine blk_put (cs := #[.slice Ao20 y273.length co20, .slice Ao19 y276.length co19, .int .i64 0, .int .i64 0, .slice none 0 0]) ?_ 2 _ rfl; refine bp ?_; refine blk_put (cs := #[.slice Ao20 y273.length co20, .slice none 0 0, .int .i64 0, .int .i64 0, .slice none 0 0]) ?_ 1 _ rfl; refine bp ?_; refine blk_put (cs := #[.slice none 0 0, .slice none 0 0, .int .i64 0, .int .i64 0, .slice none 0 0]) ?_ 0 _ rfl; refine bp ?_; exact BK285.out) hb); replace HB := Aside0.mk (below_step (bl HB) hb); (try clear hb); (try clear hb2); (try clear hk); (try clear hi); (try clear ho0); obtain ⟨Ao24, co24, eo24⟩ := Kd.V_slice HO288.out; subst eo24; obtain ⟨hcz25_0, hcz25_1, hcz25_2, hcz25_3, hcz25_4⟩ := bk5 BK285.out; have hfz25_0 := bf BK285.out) | (go_at_call 32; (with_reducible refine (live_Is.calls k _ _ y273 _ _ y276 0 0 _ _ y282 0 1 0 true _ ?side7 ?side1 ?side2 ?side3 ?side4 ?side5 ?side6 A3.out).mono ?_); (case side1 => exact Kd.Cx ((Kd.R_reads' HO275.out).2.2)); (case side2 => exact (Kd.R_reads' HO275.out).2.1); (case side3 => exact Kd.Cx ((Kd.R_reads' HO278.out).2.2)); (case side4 => exact (Kd.R_reads' HO278.out).2.1); (case side5 => exact Kd.Cx ((Kd.N_reads' HO284.out).2.2)); (case side6 => exact (Kd.N_reads' HO284.out).2.1); (case side7 => exact GG_below HGG.out (bl HB)); rintro e w26 ⟨rfl, hb⟩; replace HO275 := Aside0.mk (Kd.R_below (Kd.Rx HO275.out) hb); replace HO278 := Aside0.mk (Kd.R_below (Kd.Rx HO278.out) hb); replace HO284 := Aside0.mk (Kd.N_below (Kd.Nx HO284.out) hb); replace HO288 := Aside0.mk (Kd.V_below (Kd.Vx HO288.out) hb); replace BK285 := Aside0.mk (blk_below (bx BK285.out) hb); replace HB := Aside0.mk (below_step (bl HB) hb); (try clear hb); (try clear hb2); (try clear hk); (try clear hi); obtain ⟨hcz27_0, hcz27_1, hcz27_2, hcz27_3, hcz27_4⟩ := bk5 BK285.out; have hfz27_0 := bf BK285.out) | (go_at_call 15; (with_reducible refine (live_Behind.calls k _ _ y273 _ _ y276 0 0 _ _ y282 0 0 t290 _ ?side7 ?side1 ?side2 ?side3 ?side4 ?side5 ?side6 A5.out).mono ?_); (case side1 => exact Kd.Cx ((Kd.R_reads' HO275.out).2.2)); (case side2 => exact (Kd.R_reads' HO275.out).2.1); (case side3 => exact Kd.Cx ((Kd.R_reads' HO278.out).2.2)); (case side4 => exact (Kd.R_reads' HO278.out).2.1); (case side5 => exact Kd.Cx ((Kd.N_reads' HO284.out).2.2)); (case side6 => exact (Kd.N_reads' HO284.out).2.1); (case side7 => exact GG_below HGG.out (bl HB)); rintro e w28 ⟨v291, rfl, ho0, hb⟩; replace HO288 := Aside0.mk (Kd.V_below (Kd.Vx HO288.out) hb); have HO292 := Aside0.mk (Kd.V_lower (Kd.V_mono (ok' := fun k_ => some k_ ≠ (.slice Ao20 y273.length co20 : Value).ownBlock ∧ some k_ ≠ (.slice Ao19 y276.length co19 : Value).ownBlock ∧ some k_ ≠ (.slice Ao18 y282.length co18 : Value).ownBlock ∧ k_ ≠ gb285) ho0 (fun k_ hk_ => ⟨(Kd.fresh' (Kd.R_lt (Kd.Rx HO275.out)) k_ hk_), (Kd.fresh' (Kd.R_lt (Kd.Rx HO278.out)) k_ hk_), (Kd.fresh' (Kd.N_lt (Kd.Nx HO284.out)) k_ hk_), (Kd.freshB (g := gb285) (o := .cells #[.slice Ao20 y273.length co20, .slice Ao19 y276.length co19, .int .i64 0, .int .i64 0, .slice Ao18 y282.length co18] 30 (0, 0)) (bx BK285.out) k_ hk_)⟩)) (below_size (bl HB))); replace HO275 := Aside0.mk (Kd.R_below (Kd.Rx HO275.out) hb); replace HO278 := Aside0.mk (Kd.R_below (Kd.Rx HO278.out) hb); replace HO284 := Aside0.mk (Kd.N_below (Kd.Nx HO284.out) hb); replace BK285 := Aside0.mk (blk_below (bx BK285.out) hb); replace HB := Aside0.mk (below_step (bl HB) hb); (try clear hb); (try clear hb2); (try clear hk); (try clear hi); (try clear ho0); obtain ⟨Ao29, co29, eo29⟩ := Kd.V_slice HO292.out; subst eo29) | (go_at_call 33; (with_reducible refine (bitset_Has.calls _ _ t290 0 true _ ?side1 ?side2 A6.out).mono ?_); (case side1 => exact Kd.Cx ((Kd.V_reads' HO292.out).2.2)); (case side2 => exact (Kd.V_reads' HO292.out).2.1); rintro e w' ⟨rfl, ⟨nd, rfl⟩⟩; obtain ⟨hcz30_0, hcz30_1, hcz30_2, hcz30_3, hcz30_4⟩ := bk5 BK285.out; have hfz30_0 := bf BK285.out) | (go_at_call 13; (with_reducible refine (live_Out.calls k _ _ y273 _ _ y276 0 0 _ _ y282 0 t294 _ ?side7 ?side1 ?side2 ?side3 ?side4 ?side5 ?side6 A8.out).mono ?_); (case side1 => exact Kd.Cx ((Kd.R_reads' HO275.out).2.2)); (case side2 => exact (Kd.R_reads' HO275.out).2.1); (case side3 => exact Kd.Cx ((Kd.R_reads' HO278.out).2.2)); (case side4 => exact (Kd.R_reads' HO278.out).2.1); (case side5 => exact Kd.Cx ((Kd.N_reads' HO284.out).2.2)); (case side6 => exact (Kd.N_reads' HO284.out).2.1); (case side7 => exact GG_below HGG.out (bl HB)); rintro e w31 ⟨v295, rfl, ho0, hb⟩; replace HO288 := Aside0.mk (Kd.V_below (Kd.Vx HO288.out) hb); replace HO292 := Aside0.mk (Kd.V_below (Kd.Vx HO292.out) hb); have HO296 := Aside0.mk (Kd.V_lower (Kd.V_mono (ok' := fun k_ => some k_ ≠ (.slice Ao20 y273.length co20 : Value).ownBlock ∧ some k_ ≠ (.slice Ao19 y276.length co19 : Value).ownBlock ∧ some k_ ≠ (.slice Ao18 y282.length co18 : Value).ownBlock ∧ k_ ≠ gb285) ho0 (fun k_ hk_ => ⟨(Kd.fresh' (Kd.R_lt (Kd.Rx HO275.out)) k_ hk_), (Kd.fresh' (Kd.R_lt (Kd.Rx HO278.out)) k_ hk_), (Kd.fresh' (Kd.N_lt (Kd.Nx HO284.out)) k_ hk_), (Kd.freshB (g := gb285) (o := .cells #[.slice Ao20 y273.length co20, .slice Ao19 y276.length co19, .int .i64 0, .int .i64 0, .slice Ao18 y282.length co18] 30 (0, 0)) (bx BK285.out) k_ hk_)⟩)) (below_size (bl HB))); replace HO275 := Aside0.mk (Kd.R_below (Kd.Rx HO275.out) hb); replace HO278 := Aside0.mk (Kd.R_below (Kd.Rx HO278.out) hb); replace HO284 := Aside0.mk (Kd.N_below (Kd.Nx HO284.out) hb); replace BK285 := Aside0.mk (blk_below (bx BK285.out) hb); replace HB := Aside0.mk (below_step (bl HB) hb); (try clear hb); (try clear hb2); (try clear hk); (try clear hi); (try clear ho0); obtain ⟨Ao32, co32, eo32⟩ := Kd.V_slice HO296.out; subst eo32))
    go_ret
    exact ⟨by first | rfl | (simp [errW_none, errW_some] <;> rfl) | (simp [*, errW_none, errW_some] <;> rfl), bl HB⟩
   rw [if_neg c7] at H
   exact absurd (hr.out.symm.trans (Option.some.inj H).symm) (by decide)
  rw [if_neg c4] at H
  exact absurd (hr.out.symm.trans (Option.some.inj H).symm) (by decide)
 rw [if_neg c2] at H
 exact absurd (hr.out.symm.trans (Option.some.inj H).symm) (by decide)
end Go.Proofs.YtdmimhjmbdkhmaaDoor.X
