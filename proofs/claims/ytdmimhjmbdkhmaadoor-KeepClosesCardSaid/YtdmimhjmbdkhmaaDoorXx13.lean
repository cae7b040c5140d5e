/- Part of a proof about the Go function named in the last text of this claim. -/
import Derived.Test.YtdmimhjmbdkhmaaDoorZw
import Derived.Test.YtdmimhjmbdkhmaaDoorXx0
import Derived.Test.YtdmimhjmbdkhmaaDoorXx8
import Derived.Test.YtdmimhjmbdkhmaaDoorXx12
set_option linter.unusedVariables false
set_option linter.unusedSimpArgs false
namespace Go.Proofs.YtdmimhjmbdkhmaaDoor.X
open Go.RowKit Go.Proofs.YtdmimhjmbdkhmaaDoorW.PrintWords Go.Proofs.YtdmimhjmbdkhmaaDoorW.PrintLast Go.Proofs.YtdmimhjmbdkhmaaDoorW.PrintMore
attribute [local go_sem] max2_int min2_int max_two min_two max_three min_three max_four min_four
set_option linter.unusedVariables false
set_option linter.unusedSimpArgs false
def portolanlaw12_out.l0 : Nat → Int → Int → List (S30) → Option (Bool)
 | 0, _, _, _ => none
 | k + 1, x3, x4, x448000 => if x4 < (x448000.length : Int) then (if x4 < 9 then (if 0 ≤ x4 then (portolanlaw12_out.l0 k (mx (mx x3 (((rd_T30 x448000 x4).f4).length : Int)) (wrap64 ((((rd_T30 x448000 x4).f0).length : Int) / 2))) (wrap64 (x4 + 1)) x448000) else (none)) else (if x3 > 14 then (some true) else ((portolanref03_Great.f k x448000).bind fun t450 => (if t450 = true then (some true) else ((portolanref04_Check.f k x448000).bind fun t451 => (some (t451 != 0))))))) else (if x3 > 14 then (some true) else ((portolanref03_Great.f k x448000).bind fun t452 => (if t452 = true then (some true) else ((portolanref04_Check.f k x448000).bind fun t453 => (some (t453 != 0))))))
def portolanlaw12_out.f (k : Nat) (l0_0 : List (S30)) : Option (Bool) := portolanlaw12_out.l0 k 0 0 l0_0
set_option maxHeartbeats 8000000 in
set_option maxRecDepth 100000 in
theorem portolanlaw12_out.calls (k : Nat) (A0_0 : Option Addr) (c0_0 : Nat) (l0_0 : List (S30)) (r : Bool) (w : World) (hr0_0 : Kd.C k30 w A0_0 l0_0.length l0_0) (hc0_0 : l0_0.length ≤ c0_0) (h : portolanlaw12_out.f k l0_0 = some r) :
 Calls Tryd.prog 22 #[.agg #[.slice A0_0 l0_0.length c0_0]] w fun e w' => e = .returned (.bool r) ∧ Below w.heap.size w w' := by
 have hu24 := Tryd.underlying24
 have HR0_0 := Aside0.mk hr0_0
 have HC0_0 := Aside0.mk hc0_0
 clear hr0_0 hc0_0
 have HB := Aside0.mk (Below.refl w.heap.size w)
 have H : (portolanlaw12_out.l0 k 0 0 l0_0) = some r := h
 clear h
 have H' := Aside0.mk H
 clear H
 go_enter Tryd.func22, Tryd.ntmps22
 go_wp2_with (first | ((with_reducible refine gate_dst (N := 1) rfl ?_); refine box_event ?hg (N := 1) ?hd (cs := #[.slice A0_0 l0_0.length c0_0]) (t := 24) ?hr ?_; (case hd => rfl); (case hg => rfl); (case hr => first | (go_simp; done) | (go_simp; rfl)); intro gb447 hg w2 hbox hb; have BK447 := Aside0.mk (hbox); have GW447 := ge hg (bl HB); have GE447 := ge hg (bl HB); replace HB := Aside0.mk (below_step (bl HB) hb); clear hb hbox hg))
 repeat (go_quiet (first | ((with_reducible refine gate_dst (N := 1) rfl ?_); refine box_event ?hg (N := 1) ?hd (cs := #[.slice A0_0 l0_0.length c0_0]) (t := 24) ?hr ?_; (case hd => rfl); (case hg => rfl); (case hr => first | (go_simp; done) | (go_simp; rfl)); intro gb447 hg w2 hbox hb; have BK447 := Aside0.mk (hbox); have GW447 := ge hg (bl HB); have GE447 := ge hg (bl HB); replace HB := Aside0.mk (below_step (bl HB) hb); clear hb hbox hg)); try go_wp2_with (first | ((with_reducible refine gate_dst (N := 1) rfl ?_); refine box_event ?hg (N := 1) ?hd (cs := #[.slice A0_0 l0_0.length c0_0]) (t := 24) ?hr ?_; (case hd => rfl); (case hg => rfl); (case hr => first | (go_simp; done) | (go_simp; rfl)); intro gb447 hg w2 hbox hb; have BK447 := Aside0.mk (hbox); have GW447 := ge hg (bl HB); have GE447 := ge hg (bl HB); replace HB := Aside0.mk (below_step (bl HB) hb); clear hb hbox hg)))
 go_loopg [3, 4] k (fun kq v3 v4 w' => ∃ (x3_1 : Int) (x4_1 : Int), v3 = .int .i64 x3_1 ∧ v4 = .int .i64 x4_1 ∧ Aside0 (portolanlaw12_out.l0 kq x3_1 x4_1 l0_0 = some r) ∧ Aside0 (kq ≤ k) ∧ Aside0 (w'.heap[gb447]? = some (.cells #[(.slice A0_0 l0_0.length c0_0)] 24 (0, 0))) ∧ Aside0 (Below w.heap.size w w'))
 case atStart => exact ⟨(0), (0), (by first | rfl | (simp; done) | (simp [*]; done)), (by first | rfl | (simp; done) | (simp [*]; done)), H', ⟨Nat.le_refl _⟩, ⟨bx BK447.out⟩, ⟨bl HB⟩⟩
 case round =>
  clear H'
  try clear c2
  try clear p2
  obtain ⟨x3_1, x4_1, rfl, rfl, HA, HK1, BK447, HB⟩ := hrel
  cases gk with
  | zero => exact absurd HA.out (by simp [portolanlaw12_out.l0])
  | succ k1 =>
   have H := HA.out
   clear HA
   simp only [portolanlaw12_out.l0] at H
   by_cases c3 : x4_1 < (l0_0.length : Int)
   ·
    rw [if_pos c3] at H
    have c3b0 : decide (x4_1 < (l0_0.length : Int)) = true := decide_eq_true c3
    clear c3
    by_cases c4 : x4_1 < 9
    ·
     rw [if_pos c4] at H
     have c4b0 : decide (x4_1 < 9) = true := decide_eq_true c4
     clear c4
     by_cases c5 : 0 ≤ x4_1
     ·
      rw [if_pos c5] at H
      have c5b0 : decide (0 ≤ x4_1) = true := decide_eq_true c5
      clear c5
      obtain ⟨ji6, hji6⟩ : ∃ j_ : Int, (mx x3_1 (((rd_T30 l0_0 x4_1).f4).length : Int)) = j_ := ⟨_, rfl⟩
      replace H : (portolanlaw12_out.l0 k1 (mx (ji6) (wrap64 ((((rd_T30 l0_0 x4_1).f0).length : Int) / 2))) (wrap64 (x4_1 + 1)) l0_0) = some r := by first | (rw [hji6] at H; exact H) | (simp only [hji6] at H ⊢; exact H)
      have hji6_ : (if x3_1 < (((rd_T30 l0_0 x4_1).f4).length : Int) then (((rd_T30 l0_0 x4_1).f4).length : Int) else x3_1) = ji6 := hji6
      obtain ⟨ji7, hji7⟩ : ∃ j_ : Int, (mx (ji6) (wrap64 ((((rd_T30 l0_0 x4_1).f0).length : Int) / 2))) = j_ := ⟨_, rfl⟩
      replace H : (portolanlaw12_out.l0 k1 ji7 (wrap64 (x4_1 + 1)) l0_0) = some r := by first | (rw [hji7] at H; exact H) | (simp only [hji7] at H ⊢; exact H)
      have hji7_ : (if (ji6) < (wrap64 ((((rd_T30 l0_0 x4_1).f0).length : Int) / 2)) then (wrap64 ((((rd_T30 l0_0 x4_1).f0).length : Int) / 2)) else (ji6)) = ji7 := hji7
      have H' := Aside0.mk H
      clear H
      have hcz8_0 := bk1 BK447.out
      have hfz8_0 := bf BK447.out
      have p448 : 0 ≤ (x4_1 : Int) := of_decide_eq_true (by assumption)
      have q448 : x4_1 < (l0_0.length : Int) := of_decide_eq_true (by assumption)
      obtain ⟨ad448, A448_0, c448_0, A448_1, c448_1, A448_4, c448_4, e448, hx448_0, hx448_1, hx448_2, hx448_3, hx448_4, hl448_0, hi448_0, hl448_1, hi448_1, hl448_4, hi448_4⟩ := at_T30 HR0_0.out x4_1 p448 q448
      cases e448
      replace hx448_0 := (HB.out.cell (World.block_lt_of_cell? w _ hx448_0)).trans hx448_0
      replace hx448_1 := (HB.out.cell (World.block_lt_of_cell? w _ hx448_1)).trans hx448_1
      replace hx448_2 := (HB.out.cell (World.block_lt_of_cell? w _ hx448_2)).trans hx448_2
      replace hx448_3 := (HB.out.cell (World.block_lt_of_cell? w _ hx448_3)).trans hx448_3
      replace hx448_4 := (HB.out.cell (World.block_lt_of_cell? w _ hx448_4)).trans hx448_4
      have HR448_0 := Aside0.mk hi448_0
      have HC448_0 := Aside0.mk hl448_0
      clear hi448_0 hl448_0
      have HR448_1 := Aside0.mk hi448_1
      have HC448_1 := Aside0.mk hl448_1
      clear hi448_1 hl448_1
      have HR448_4 := Aside0.mk hi448_4
      have HC448_4 := Aside0.mk hl448_4
      clear hi448_4 hl448_4
      replace p448 := eq_true p448
      replace q448 := eq_true q448
      have p449 : 0 ≤ (x4_1 : Int) := of_decide_eq_true (by assumption)
      have q449 : x4_1 < (l0_0.length : Int) := of_decide_eq_true (by assumption)
      obtain ⟨ad449, A449_0, c449_0, A449_1, c449_1, A449_4, c449_4, e449, hx449_0, hx449_1, hx449_2, hx449_3, hx449_4, hl449_0, hi449_0, hl449_1, hi449_1, hl449_4, hi449_4⟩ := at_T30 HR0_0.out x4_1 p449 q449
      obtain rfl : ad448 = ad449 := (by injection e449)
      replace hx449_0 := (HB.out.cell (World.block_lt_of_cell? w _ hx449_0)).trans hx449_0
      replace hx449_1 := (HB.out.cell (World.block_lt_of_cell? w _ hx449_1)).trans hx449_1
      replace hx449_2 := (HB.out.cell (World.block_lt_of_cell? w _ hx449_2)).trans hx449_2
      replace hx449_3 := (HB.out.cell (World.block_lt_of_cell? w _ hx449_3)).trans hx449_3
      replace hx449_4 := (HB.out.cell (World.block_lt_of_cell? w _ hx449_4)).trans hx449_4
      have HR449_0 := Aside0.mk hi449_0
      have HC449_0 := Aside0.mk hl449_0
      clear hi449_0 hl449_0
      have HR449_1 := Aside0.mk hi449_1
      have HC449_1 := Aside0.mk hl449_1
      clear hi449_1 hl449_1
      have HR449_4 := Aside0.mk hi449_4
      have HC449_4 := Aside0.mk hl449_4
      clear hi449_4 hl449_4
      replace p449 := eq_true p449
      replace q449 := eq_true q449
      have ea_ := Option.some.inj (hx448_0.symm.trans hx449_0)
      injection ea_ with ea_ en_ ec_
      subst ea_
      subst ec_
      clear en_
      have ea_ := Option.some.inj (hx448_1.symm.trans hx449_1)
      injection ea_ with ea_ en_ ec_
      subst ea_
      subst ec_
      clear en_
      have ea_ := Option.some.inj (hx448_4.symm.trans hx449_4)
      injection ea_ with ea_ en_ ec_
      subst ea_
      subst ec_
      clear en_
      go_wp2
      repeat (go_quiet (fail); try go_wp2)
      go_roundg k1
      case measure => have := HK1.out; omega
      case rel => exact ⟨(ji7), (wrap64 (x4_1 + 1)), (by first | rfl | (simp; done) | (simp only [← hji7] <;> (first | rfl | simp)) | (simp [*]; done)), (by first | rfl | (simp; done) | (simp [*]; done)), H', ⟨by have := HK1.out; omega⟩, ⟨bx BK447.out⟩, ⟨bl HB⟩⟩
     rw [if_neg c5] at H
     exact absurd H (by simp)
    rw [if_neg c4] at H
    have c4b0 : decide (x4_1 < 9) = false := decide_eq_false c4
    clear c4
    by_cases c9 : x3_1 > 14
    ·
     rw [if_pos c9] at H
     have c9b0 : decide (14 < x3_1) = true := decide_eq_true c9
     clear c9
     obtain rfl := Option.some.inj H
     have hcz10_0 := bk1 BK447.out
     have hfz10_0 := bf BK447.out
     go_wp2
     repeat (go_quiet (fail); try go_wp2)
     go_ret
     exact ⟨by first | rfl | (simp [errW_none, errW_some] <;> rfl) | (simp [*, errW_none, errW_some] <;> rfl), bl HB⟩
    rw [if_neg c9] at H
    have c9b0 : decide (14 < x3_1) = false := decide_eq_false c9
    clear c9
    replace H := Option.bind_eq_some_iff.mp H
    obtain ⟨t450, A110, H⟩ := H
    replace H : (if t450 = true then (some true) else ((portolanref04_Check.f k1 l0_0).bind fun t451 => (some (t451 != 0)))) = some r := H
    have A11 := Aside0.mk A110
    clear A110
    by_cases c12 : t450 = true
    ·
     subst c12
     have H1 : (some true) = some r := by rw [if_pos rfl] at H; exact H
     clear H
     have H := H1
     clear H1
     obtain rfl := Option.some.inj H
     have hcz13_0 := bk1 BK447.out
     have hfz13_0 := bf BK447.out
     go_wp2_with (first | (go_at_call 34; (with_reducible refine (portolanref03_Great.calls k1 _ _ l0_0 true _ ?side1 ?side2 A11.out).mono ?_); (case side1 => exact Kd.Cx (Kd.C_below HR0_0.out HB.out)); (case side2 => exact HC0_0.out); rintro e w14 ⟨rfl, hb⟩; replace BK447 := Aside0.mk (blk_below (bx BK447.out) hb); replace HB := Aside0.mk (below_step (bl HB) hb); (try clear hb); (try clear hb2); (try clear hk); (try clear hi)))
     repeat (go_quiet (first | (go_at_call 34; (with_reducible refine (portolanref03_Great.calls k1 _ _ l0_0 true _ ?side1 ?side2 A11.out).mono ?_); (case side1 => exact Kd.Cx (Kd.C_below HR0_0.out HB.out)); (case side2 => exact HC0_0.out); rintro e w14 ⟨rfl, hb⟩; replace BK447 := Aside0.mk (blk_below (bx BK447.out) hb); replace HB := Aside0.mk (below_step (bl HB) hb); (try clear hb); (try clear hb2); (try clear hk); (try clear hi))); try go_wp2_with (first | (go_at_call 34; (with_reducible refine (portolanref03_Great.calls k1 _ _ l0_0 true _ ?side1 ?side2 A11.out).mono ?_); (case side1 => exact Kd.Cx (Kd.C_below HR0_0.out HB.out)); (case side2 => exact HC0_0.out); rintro e w14 ⟨rfl, hb⟩; replace BK447 := Aside0.mk (blk_below (bx BK447.out) hb); replace HB := Aside0.mk (below_step (bl HB) hb); (try clear hb); (try clear hb2); (try clear hk); (try clear hi))))
     go_ret
     exact ⟨by first | rfl | (simp [errW_none, errW_some] <;> rfl) | (simp [*, errW_none, errW_some] <;> rfl), bl HB⟩
    replace c12 := Bool.eq_false_iff.mpr c12
    subst c12
    have H1 : ((portolanref04_Check.f k1 l0_0).bind fun t451 => (some (t451 != 0))) = some r := by rw [if_neg (show ¬ (false = true) by decide)] at H; exact H
    clear H
    have H := H1
    clear H1
    replace H := Option.bind_eq_some_iff.mp H
    obtain ⟨t451, A150, H⟩ := H
    replace H : (some (t451 != 0)) = some r := H
    have A15 := Aside0.mk A150
    clear A150
    obtain rfl := Option.some.inj H
    have hcz16_0 := bk1 BK447.out
    have hfz16_0 := bf BK447.out
    go_wp2_with (first | (go_at_call 34; (with_reducible refine (portolanref03_Great.calls k1 _ _ l0_0 false _ ?side1 ?side2 A11.out).mono ?_); (case side1 => exact Kd.Cx (Kd.C_below HR0_0.out HB.out)); (case side2 => exact HC0_0.out); rintro e w17 ⟨rfl, hb⟩; replace BK447 := Aside0.mk (blk_below (bx BK447.out) hb); replace HB := Aside0.mk (below_step (bl HB) hb); (try clear hb); (try clear hb2); (try clear hk); (try clear hi); have hcz18_0 := bk1 BK447.out; have hfz18_0 := bf BK447.out) | (go_at_call 35; (with_reducible refine (portolanref04_Check.calls k1 _ _ l0_0 t451 _ ?side1 ?side2 A15.out).mono ?_); (case side1 => exact Kd.Cx (Kd.C_below HR0_0.out HB.out)); (case side2 => exact HC0_0.out); rintro e w19 ⟨rfl, hb⟩; replace BK447 := Aside0.mk (blk_below (bx BK447.out) hb); replace HB := Aside0.mk (below_step (bl HB) hb); (try clear hb); (try clear hb2); (try clear hk); (try clear hi)))
    repeat (go_quiet (first | (go_at_call 34; (with_reducible refine (portolanref03_Great.calls k1 _ _ l0_0 false _ ?side1 ?side2 A11.out).mono ?_); (case side1 => exact Kd.Cx (Kd.C_below HR0_0.out HB.out)); (case side2 => exact HC0_0.out); rintro e w17 ⟨rfl, hb⟩; replace BK447 := Aside0.mk (blk_below (bx BK447.out) hb); replace HB := Aside0.mk (below_step (bl HB) hb); (try clear hb); (try clear hb2); (try clear hk); (try clear hi); have hcz18_0 := bk1 BK447.out; have hfz18_0 := bf BK447.out) | (go_at_call 35; (with_reducible refine (portolanref04_Check.calls k1 _ _ l0_0 t451 _ ?side1 ?side2 A15.out).mono ?_); (case side1 => exact Kd.Cx (Kd.C_below HR0_0.out HB.out)); (case side2 => exact HC0_0.out); rintro e w19 ⟨rfl, hb⟩; replace BK447 := Aside0.mk (blk_below (bx BK447.out) hb); replace HB := Aside0.mk (below_step (bl HB) hb); (try clear hb); (try clear hb2); (try clear hk); (try clear hi))); try go_wp2_with (first | (go_at_call 34; (with_reducible refine (portolanref03_Great.calls k1 _ _ l0_0 false _ ?side1 ?side2 A11.out).mono ?_); (case side1 => exact Kd.Cx (Kd.C_below HR0_0.out HB.out)); (case side2 => exact HC0_0.out); rintro e w17 ⟨rfl, hb⟩; replace BK447 := Aside0.mk (blk_below (bx BK447.out) hb); replace HB := Aside0.mk (below_step (bl HB) hb); (try clear hb); (try clear hb2); (try clear hk); (try clear hi); have hcz18_0 := bk1 BK447.out; have hfz18_0 := bf BK447.out) | (go_at_call 35; (with_reducible refine (portolanref04_Check.calls k1 _ _ l0_0 t451 _ ?side1 ?side2 A15.out).mono ?_); (case side1 => exact Kd.Cx (Kd.C_below HR0_0.out HB.out)); (case side2 => exact HC0_0.out); rintro e w19 ⟨rfl, hb⟩; replace BK447 := Aside0.mk (blk_below (bx BK447.out) hb); replace HB := Aside0.mk (below_step (bl HB) hb); (try clear hb); (try clear hb2); (try clear hk); (try clear hi))))
    go_ret
    exact ⟨by first | rfl | (simp [errW_none, errW_some] <;> rfl) | (simp [*, errW_none, errW_some] <;> rfl), bl HB⟩
   rw [if_neg c3] at H
   have c3b0 : decide (x4_1 < (l0_0.length : Int)) = false := decide_eq_false c3
   clear c3
   by_cases c20 : x3_1 > 14
   ·
    rw [if_pos c20] at H
    have c20b0 : decide (14 < x3_1) = true := decide_eq_true c20
    clear c20
    obtain rfl := Option.some.inj H
    have hcz21_0 := bk1 BK447.out
    have hfz21_0 := bf BK447.out
    go_wp2
    repeat (go_quiet (fail); try go_wp2)
    go_ret
    exact ⟨by first | rfl | (simp [errW_none, errW_some] <;> rfl) | (simp [*, errW_none, errW_some] <;> rfl), bl HB⟩
   rw [if_neg c20] at H
   have c20b0 : decide (14 < x3_1) = false := decide_eq_false c20
   clear c20
   replace H := Option.bind_eq_some_iff.mp H
   obtain ⟨t452, A220, H⟩ := H
   replace H : (if t452 = true then (some true) else ((portolanref04_Check.f k1 l0_0).bind fun t453 => (some (t453 != 0)))) = some r := H
   have A22 := Aside0.mk A220
   clear A220
   by_cases c23 : t452 = true
   ·
    subst c23
    have H1 : (some true) = some r := by rw [if_pos rfl] at H; exact H
    clear H
    have H := H1
    clear H1
    obtain rfl := Option.some.inj H
    have hcz24_0 := bk1 BK447.out
    have hfz24_0 := bf BK447.out
    go_wp2_with (first | (go_at_call 34; (with_reducible refine (portolanref03_Great.calls k1 _ _ l0_0 true _ ?side1 ?side2 A22.out).mono ?_); (case side1 => exact Kd.Cx (Kd.C_below HR0_0.out HB.out)); (case side2 => exact HC0_0.out); rintro e w25 ⟨rfl, hb⟩; replace BK447 := Aside0.mk (blk_below (bx BK447.out) hb); replace HB := Aside0.mk (below_step (bl HB) hb); (try clear hb); (try clear hb2); (try clear hk); (try clear hi)))
    repeat (go_quiet (first | (go_at_call 34; (with_reducible refine (portolanref03_Great.calls k1 _ _ l0_0 true _ ?side1 ?side2 A22.out).mono ?_); (case side1 => exact Kd.Cx (Kd.C_below HR0_0.out HB.out)); (case side2 => exact HC0_0.out); rintro e w25 ⟨rfl, hb⟩; replace BK447 := Aside0.mk (blk_below (bx BK447.out) hb); replace HB := Aside0.mk (below_step (bl HB) hb); (try clear hb); (try clear hb2); (try clear hk); (try clear hi))); try go_wp2_with (first | (go_at_call 34; (with_reducible refine (portolanref03_Great.calls k1 _ _ l0_0 true _ ?side1 ?side2 A22.out).mono ?_); (case side1 => exact Kd.Cx (Kd.C_below HR0_0.out HB.out)); (case side2 => exact HC0_0.out); rintro e w25 ⟨rfl, hb⟩; replace BK447 := Aside0.mk (blk_below (bx BK447.out) hb); replace HB := Aside0.mk (below_step (bl HB) hb); (try clear hb); (try clear hb2); (try clear hk); (try clear hi))))
    go_ret
    exact ⟨by first | rfl | (simp [errW_none, errW_some] <;> rfl) | (simp [*, errW_none, errW_some] <;> rfl), bl HB⟩
   replace c23 := Bool.eq_false_iff.mpr c23
   subst c23
   have H1 : ((portolanref04_Check.f k1 l0_0).bind fun t453 => (some (t453 != 0))) = some r := by rw [if_neg (show ¬ (false = true) by decide)] at H; exact H
   clear H
   have H := H1
   clear H1
   replace H := Option.bind_eq_some_iff.mp H
   obtain ⟨t453, A260, H⟩ := H
   replace H : (some (t453 != 0)) = some r := H
   have A26 := Aside0.mk A260
   clear A260
   obtain rfl := Option.some.inj H
   have hcz27_0 := bk1 BK447.out
   have hfz27_0 := bf BK447.out
   go_wp2_with (first | (go_at_call 34; (with_reducible refine (portolanref03_Great.calls k1 _ _ l0_0 false _ ?side1 ?side2 A22.out).mono ?_); (case side1 => exact Kd.Cx (Kd.C_below HR0_0.out HB.out)); (case side2 => exact HC0_0.out); rintro e w28 ⟨rfl, hb⟩; replace BK447 := Aside0.mk (blk_below (bx BK447.out) hb); replace HB := Aside0.mk (below_step (bl HB) hb); (try clear hb); (try clear hb2); (try clear hk); (try clear hi); have hcz29_0 := bk1 BK447.out; have hfz29_0 := bf BK447.out) | (go_at_call 35; (with_reducible refine (portolanref04_Check.calls k1 _ _ l0_0 t453 _ ?side1 ?side2 A26.out).mono ?_); (case side1 => exact Kd.Cx (Kd.C_below HR0_0.out HB.out)); (case side2 => exact HC0_0.out); rintro e w30 ⟨rfl, hb⟩; replace BK447 := Aside0.mk (blk_below (bx BK447.out) hb); replace HB := Aside0.mk (below_step (bl HB) hb); (try clear hb); (try clear hb2); (try clear hk); (try clear hi)))
   repeat (go_quiet (first | (go_at_call 34; (with_reducible refine (portolanref03_Great.calls k1 _ _ l0_0 false _ ?side1 ?side2 A22.out).mono ?_); (case side1 => exact Kd.Cx (Kd.C_below HR0_0.out HB.out)); (case side2 => exact HC0_0.out); rintro e w28 ⟨rfl, hb⟩; replace BK447 := Aside0.mk (blk_below (bx BK447.out) hb); replace HB := Aside0.mk (below_step (bl HB) hb); (try clear hb); (try clear hb2); (try clear hk); (try clear hi); have hcz29_0 := bk1 BK447.out; have hfz29_0 := bf BK447.out) | (go_at_call 35; (with_reducible refine (portolanref04_Check.calls k1 _ _ l0_0 t453 _ ?side1 ?side2 A26.out).mono ?_); (case side1 => exact Kd.Cx (Kd.C_below HR0_0.out HB.out)); (case side2 => exact HC0_0.out); rintro e w30 ⟨rfl, hb⟩; replace BK447 := Aside0.mk (blk_below (bx BK447.out) hb); replace HB := Aside0.mk (below_step (bl HB) hb); (try clear hb); (try clear hb2); (try clear hk); (try clear hi))); try go_wp2_with (first | (go_at_call 34; (with_reducible refine (portolanref03_Great.calls k1 _ _ l0_0 false _ ?side1 ?side2 A22.out).mono ?_); (case side1 => exact Kd.Cx (Kd.C_below HR0_0.out HB.out)); (case side2 => exact HC0_0.out); rintro e w28 ⟨rfl, hb⟩; replace BK447 := Aside0.mk (blk_below (bx BK447.out) hb); replace HB := Aside0.mk (below_step (bl HB) hb); (try clear hb); (try clear hb2); (try clear hk); (try clear hi); have hcz29_0 := bk1 BK447.out; have hfz29_0 := bf BK447.out) | (go_at_call 35; (with_reducible refine (portolanref04_Check.calls k1 _ _ l0_0 t453 _ ?side1 ?side2 A26.out).mono ?_); (case side1 => exact Kd.Cx (Kd.C_below HR0_0.out HB.out)); (case side2 => exact HC0_0.out); rintro e w30 ⟨rfl, hb⟩; replace BK447 := Aside0.mk (blk_below (bx BK447.out) hb); replace HB := Aside0.mk (below_step (bl HB) hb); (try clear hb); (try clear hb2); (try clear hk); (try clear hi))))
   go_ret
   exact ⟨by first | rfl | (simp [errW_none, errW_some] <;> rfl) | (simp [*, errW_none, errW_some] <;> rfl), bl HB⟩
end Go.Proofs.YtdmimhjmbdkhmaaDoor.X
