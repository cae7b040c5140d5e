/- Part of a proof about the Go function named in the last text of this claim. -/
import Derived.Test.YtdmimhjmbdkhmaaDoorZw
import Derived.Test.YtdmimhjmbdkhmaaDoorXx0
import Derived.Test.YtdmimhjmbdkhmaaDoorXx1
import Derived.Test.YtdmimhjmbdkhmaaDoorXx8
import Derived.Test.YtdmimhjmbdkhmaaDoorXx12
import Derived.Test.YtdmimhjmbdkhmaaDoorZg
set_option linter.unusedVariables false
set_option linter.unusedSimpArgs false
namespace Go.Proofs.YtdmimhjmbdkhmaaDoor.X
open Go.RowKit Go.Proofs.YtdmimhjmbdkhmaaDoorW.PrintWords Go.Proofs.YtdmimhjmbdkhmaaDoorW.PrintLast Go.Proofs.YtdmimhjmbdkhmaaDoorW.PrintMore
attribute [local go_sem] max2_int min2_int max_two min_two max_three min_three max_four min_four
set_option linter.unusedVariables false
set_option linter.unusedSimpArgs false
def portolanlaw12_out.l0 : Nat → Int → Int → List (S30) → Option (Bool)
 | 0, _, _, _ => none
 | k + 1, x3, x4, x452000 => if x4 < (x452000.length : Int) then (if x4 < 9 then (if 0 ≤ x4 then (portolanlaw12_out.l0 k (mx (mx x3 (((rd_T30 x452000 x4).f4).length : Int)) (wrap64 ((((rd_T30 x452000 x4).f0).length : Int) / 2))) (wrap64 (x4 + 1)) x452000) else (none)) else (if x3 > 14 then (some true) else ((portolanref03_Great.f k x452000).bind fun t454 => (if t454 = true then (some true) else ((portolanref04_Check.f k x452000).bind fun t455 => (some (t455 != 0))))))) else (if x3 > 14 then (some true) else ((portolanref03_Great.f k x452000).bind fun t456 => (if t456 = true then (some true) else ((portolanref04_Check.f k x452000).bind fun t457 => (some (t457 != 0))))))
def portolanlaw12_out.f (k : Nat) (l0_0 : List (S30)) : Option (Bool) := portolanlaw12_out.l0 k 0 0 l0_0
set_option maxHeartbeats 8000000 in
set_option maxRecDepth 100000 in
theorem portolanlaw12_out.calls (k : Nat) (A0_0 : Option Addr) (c0_0 : Nat) (l0_0 : List (S30)) (r : Bool) (w : World) (hr0_0 : Kd.C k30 w A0_0 l0_0.length l0_0) (hc0_0 : l0_0.length ≤ c0_0) (h : portolanlaw12_out.f k l0_0 = some r) :
 Calls Tryd.prog 22 #[.agg #[.slice A0_0 l0_0.length c0_0]] w fun e w' => e = .returned (.bool r) ∧ Below w.heap.size w w' := by
 have hu24 := Tryd.underlying24
 have HR0_0 := Aside0.mk hr0_0
 have HC0_0 := Aside0.mk hc0_0
 clear hr0_0 hc0_0
 have HB := Aside0.mk (Below.refl w.heap.size w)
 have H : (portolanlaw12_out.l0 k 0 0 l0_0) = some r := h
 clear h
 have H' := Aside0.mk H
 clear H
 go_enter Tryd.func22, Tryd.ntmps22
 go_wp2_with (first | ((with_reducible refine gate_dst (N := 1) rfl ?_); refine box_event ?hg (N := 1) ?hd (cs := #[.slice A0_0 l0_0.length c0_0]) (t := 24) ?hr ?_; (case hd => rfl); (case hg => rfl); (case hr => first | (go_simp; done) | (go_simp; rfl)); intro gb451 hg w2 hbox hb; have BK451 := Aside0.mk (hbox); have GW451 := ge hg (bl HB); have GE451 := ge hg (bl HB); replace HB := Aside0.mk (below_step (bl HB) hb); clear hb hbox hg))
 repeat (go_quiet (first | ((with_reducible refine gate_dst (N := 1) rfl ?_); refine box_event ?hg (N := 1) ?hd (cs := #[.slice A0_0 l0_0.length c0_0]) (t := 24) ?hr ?_; (case hd => rfl); (case hg => rfl); (case hr => first | (go_simp; done) | (go_simp; rfl)); intro gb451 hg w2 hbox hb; have BK451 := Aside0.mk (hbox); have GW451 := ge hg (bl HB); have GE451 := ge hg (bl HB); replace HB := Aside0.mk (below_step (bl HB) hb); clear hb hbox hg)); try go_wp2_with (first | ((with_reducible refine gate_dst (N := 1) rfl ?_); refine box_event ?hg (N := 1) ?hd (cs := #[.slice A0_0 l0_0.length c0_0]) (t := 24) ?hr ?_; (case hd => rfl); (case hg => rfl); (case hr => first | (go_simp; done) | (go_simp; rfl)); intro gb451 hg w2 hbox hb; have BK451 := Aside0.mk (hbox); have GW451 := ge hg (bl HB); have GE451 := ge hg (bl HB); replace HB := Aside0.mk (below_step (bl HB) hb); clear hb hbox hg)))
 go_loopg [3, 4] k (fun kq v3 v4 w' => ∃ (x3_1 : Int) (x4_1 : Int), v3 = .int .i64 x3_1 ∧ v4 = .int .i64 x4_1 ∧ Aside0 (portolanlaw12_out.l0 kq x3_1 x4_1 l0_0 = some r) ∧ Aside0 (kq ≤ k) ∧ Aside0 (w'.heap[gb451]? = some (.cells #[(.slice A0_0 l0_0.length c0_0)] 24 (0, 0))) ∧ Aside0 (Below w.heap.size w w'))
 case atStart => exact ⟨(0), (0), (by first | rfl | (simp; done) | (simp [*]; done)), (by first | rfl | (simp; done) | (simp [*]; done)), H', ⟨Nat.le_refl _⟩, ⟨bx BK451.out⟩, ⟨bl HB⟩⟩
 case round =>
  clear H'
  try clear c2
  try clear p2
  obtain ⟨x3_1, x4_1, rfl, rfl, HA, HK1, BK451, HB⟩ := hrel
  cases gk with
  | zero => exact absurd HA.out (by simp [portolanlaw12_out.l0])
  | succ k1 =>
   have H := HA.out
   clear HA
   simp only [portolanlaw12_out.l0] at H
   by_cases c3 : x4_1 < (l0_0.length : Int)
   ·
    rw [if_pos c3] at H
    have c3b0 : decide (x4_1 < (l0_0.length : Int)) = true := decide_eq_true c3
    clear c3
    by_cases c4 : x4_1 < 9
    ·
     rw [if_pos c4] at H
     have c4b0 : decide (x4_1 < 9) = true := decide_eq_true c4
     clear c4
     by_cases c5 : 0 ≤ x4_1
     ·
      rw [if_pos c5] at H
      have c5b0 : decide (0 ≤ x4_1) = true := decide_eq_true c5
      clear c5
      obtain ⟨ji6, hji6⟩ : ∃ j_ : Int, (mx x3_1 (((rd_T30 l0_0 x4_1).f4).length : Int)) = j_ := ⟨_, rfl⟩
      replace H : (portolanlaw12_out.l0 k1 (mx (ji6) (wrap64 ((((rd_T30 l0_0 x4_1).f0).length : Int) / 2))) (wrap64 (x4_1 + 1)) l0_0) = some r := by first | (rw [hji6] at H; exact H) | (simp only [hji6] at H ⊢; exact H)
      have hji6_ : (if x3_1 < (((rd_T30 l0_0 x4_1).f4).length : Int) then (((rd_T30 l0_0 x4_1).f4).length : Int) else x3_1) = ji6 := hji6
      obtain ⟨ji7, hji7⟩ : ∃ j_ : Int, (mx (ji6) (wrap64 ((((rd_T30 l0_0 x4_1).f0).length : Int) / 2))) = j_ := ⟨_, rfl⟩
      replace H : (portolanlaw12_out.l0 k1 ji7 (wrap64 (x4_1 + 1)) l0_0) = some r := by first | (rw [hji7] at H; exact H) | (simp only [hji7] at H ⊢; exact H)
      have hji7_ : (if (ji6) < (wrap64 ((((rd_T30 l0_0 x4_1).f0).length : Int) / 2)) then (wrap64 ((((rd_T30 l0_0 x4_1).f0).length : Int) / 2)) else (ji6)) = ji7 := hji7
      have H' := Aside0.mk H
      clear H
      have hcz8_0 := bk1 BK451.out
      have hfz8_0 := bf BK451.out
      have p452 : 0 ≤ (x4_1 : Int) := of_decide_eq_true (by assumption)
      have q452 : x4_1 < (l0_0.length : Int) := of_decide_eq_true (by assumption)
      obtain ⟨ad452, A452_0, c452_0, A452_1, c452_1, A452_4, c452_4, e452, hx452_0, hx452_1, hx452_2, hx452_3, hx452_4, hl452_0, hi452_0, hl452_1, hi452_1, hl452_4, hi452_4⟩ := at_T30 HR0_0.out x4_1 p452 q452
      cases e452
      replace hx452_0 := (HB.out.cell (World.block_lt_of_cell? w _ hx452_0)).trans hx452_0
      replace hx452_1 := (HB.out.cell (World.block_lt_of_cell? w _ hx452_1)).trans hx452_1
      replace hx452_2 := (HB.out.cell (World.block_lt_of_cell? w _ hx452_2)).trans hx452_2
      replace hx452_3 := (HB.out.cell (World.block_lt_of_cell? w _ hx452_3)).trans hx452_3
      replace hx452_4 := (HB.out.cell (World.block_lt_of_cell? w _ hx452_4)).trans hx452_4
      have HR452_0 := Aside0.mk hi452_0
      have HC452_0 := Aside0.mk hl452_0
      clear hi452_0 hl452_0
      have HR452_1 := Aside0.mk hi452_1
      have HC452_1 := Aside0.mk hl452_1
      clear hi452_1 hl452_1
      have HR452_4 := Aside0.mk hi452_4
      have HC452_4 := Aside0.mk hl452_4
      clear hi452_4 hl452_4
      replace p452 := eq_true p452
      replace q452 := eq_true q452
      have p453 : 0 ≤ (x4_1 : Int) := of_decide_eq_true (by assumption)
      have q453 : x4_1 < (l0_0.length : Int) := of_decide_eq_true (by assumption)
      obtain ⟨ad453, A453_0, c453_0, A453_1, c453_1, A453_4, c453_4, e453, hx453_0, hx453_1, hx453_2, hx453_3, hx453_4, hl453_0, hi453_0, hl453_1, hi453_1, hl453_4, hi453_4⟩ := at_T30 HR0_0.out x4_1 p453 q453
      obtain rfl : ad452 = ad453 := (by injection e453)
      replace hx453_0 := (HB.out.cell (World.block_lt_of_cell? w _ hx453_0)).trans hx453_0
      replace hx453_1 := (HB.out.cell (World.block_lt_of_cell? w _ hx453_1)).trans hx453_1
      replace hx453_2 := (HB.out.cell (World.block_lt_of_cell? w _ hx453_2)).trans hx453_2
      replace hx453_3 := (HB.out.cell (World.block_lt_of_cell? w _ hx453_3)).trans hx453_3
      replace hx453_4 := (HB.out.cell (World.block_lt_of_cell? w _ hx453_4)).trans hx453_4
      have HR453_0 := Aside0.mk hi453_0
      have HC453_0 := Aside0.mk hl453_0
      clear hi453_0 hl453_0
      have HR453_1 := Aside0.mk hi453_1
      have HC453_1 := Aside0.mk hl453_1
      clear hi453_1 hl453_1
      have HR453_4 := Aside0.mk hi453_4
      have HC453_4 := Aside0.mk hl453_4
      clear hi453_4 hl453_4
      replace p453 := eq_true p453
      replace q453 := eq_true q453
      have ea_ := Option.some.inj (hx452_0.symm.trans hx453_0)
      injection ea_ with ea_ en_ ec_
      subst ea_
      subst ec_
      clear en_
      have ea_ := Option.some.inj (hx452_1.symm.trans hx453_1)
      injection ea_ with ea_ en_ ec_
      subst ea_
      subst ec_
      clear en_
      have ea_ := Option.some.inj (hx452_4.symm.trans hx453_4)
      injection ea_ with ea_ en_ ec_
      subst ea_
      subst ec_
      clear en_
      go_wp2
      repeat (go_quiet (fail); try go_wp2)
      go_roundg k1
      case measure => have := HK1.out; omega
      case rel => exact ⟨(ji7), (wrap64 (x4_1 + 1)), (by first | rfl | (simp; done) | (simp only [← hji7] <;> (first | rfl | simp)) | (simp [*]; done)), (by first | rfl | (simp; done) | (simp [*]; done)), H', ⟨by have := HK1.out; omega⟩, ⟨bx BK451.out⟩, ⟨bl HB⟩⟩
     rw [if_neg c5] at H
     exact absurd H (by simp)
    rw [if_neg c4] at H
    have c4b0 : decide (x4_1 < 9) = false := decide_eq_false c4
    clear c4
    by_cases c9 : x3_1 > 14
    ·
     rw [if_pos c9] at H
     have c9b0 : decide (14 < x3_1) = true := decide_eq_true c9
     clear c9
     obtain rfl := Option.some.inj H
     have hcz10_0 := bk1 BK451.out
     have hfz10_0 := bf BK451.out
     go_wp2
     repeat (go_quiet (fail); try go_wp2)
     go_ret
     exact ⟨by first | rfl | (simp [errW_none, errW_some] <;> rfl) | (simp [*, errW_none, errW_some] <;> rfl), bl HB⟩
    rw [if_neg c9] at H
    have c9b0 : decide (14 < x3_1) = false := decide_eq_false c9
    clear c9
    replace H := Option.bind_eq_some_iff.mp H
    obtain ⟨t454, A110, H⟩ := H
    replace H : (if t454 = true then (some true) else ((portolanref04_Check.f k1 l0_0).bind fun t455 => (some (t455 != 0)))) = some r := H
    have A11 := Aside0.mk A110
    clear A110
    by_cases c12 : t454 = true
    ·
     subst c12
     have H1 : (some true) = some r := by rw [if_pos rfl] at H; exact H
     clear H
     have H := H1
     clear H1
     obtain rfl := Option.some.inj H
     have hcz13_0 := bk1 BK451.out
     have hfz13_0 := bf BK451.out
     go_wp2_with (first | (go_at_call 34; (with_reducible refine (portolanref03_Great.calls k1 _ _ l0_0 true _ ?side1 ?side2 A11.out).mono ?_); (case side1 => exact Kd.Cx (Kd.C_below HR0_0.out HB.out)); (case side2 => exact HC0_0.out); rintro e w14 ⟨rfl, hb⟩; replace BK451 := Aside0.mk (blk_below (bx BK451.out) hb); replace HB := Aside0.mk (below_step (bl HB) hb); (try clear hb); (try clear hb2); (try clear hk); (try clear hi)))
     repeat (go_quiet (first | (go_at_call 34; (with_reducible refine (portolanref03_Great.calls k1 _ _ l0_0 true _ ?side1 ?side2 A11.out).mono ?_); (case side1 => exact Kd.Cx (Kd.C_below HR0_0.out HB.out)); (case side2 => exact HC0_0.out); rintro e w14 ⟨rfl, hb⟩; replace BK451 := Aside0.mk (blk_below (bx BK451.out) hb); replace HB := Aside0.mk (below_step (bl HB) hb); (try clear hb); (try clear hb2); (try clear hk); (try clear hi))); try go_wp2_with (first | (go_at_call 34; (with_reducible refine (portolanref03_Great.calls k1 _ _ l0_0 true _ ?side1 ?side2 A11.out).mono ?_); (case side1 => exact Kd.Cx (Kd.C_below HR0_0.out HB.out)); (case side2 => exact HC0_0.out); rintro e w14 ⟨rfl, hb⟩; replace BK451 := Aside0.mk (blk_below (bx BK451.out) hb); replace HB := Aside0.mk (below_step (bl HB) hb); (try clear hb); (try clear hb2); (try clear hk); (try clear hi))))
     go_ret
     exact ⟨by first | rfl | (simp [errW_none, errW_some] <;> rfl) | (simp [*, errW_none, errW_some] <;> rfl), bl HB⟩
    replace c12 := Bool.eq_false_iff.mpr c12
    subst c12
    have H1 : ((portolanref04_Check.f k1 l0_0).bind fun t455 => (some (t455 != 0))) = some r := by rw [if_neg (show ¬ (false = true) by decide)] at H; exact H
    clear H
    have H := H1
    clear H1
    replace H := Option.bind_eq_some_iff.mp H
    obtain ⟨t455, A150, H⟩ := H
    replace H : (some (t455 != 0)) = some r := H
    have A15 := Aside0.mk A150
    clear A150
    obtain rfl := Option.some.inj H
    have hcz16_0 := bk1 BK451.out
    have hfz16_0 := bf BK451.out
    go_wp2_with (first | (go_at_call 34; (with_reducible refine (portolanref03_Great.calls k1 _ _ l0_0 false _ ?side1 ?side2 A11.out).mono ?_); (case side1 => exact Kd.Cx (Kd.C_below HR0_0.out HB.out)); (case side2 => exact HC0_0.out); rintro e w17 ⟨rfl, hb⟩; replace BK451 := Aside0.mk (blk_below (bx BK451.out) hb); replace HB := Aside0.mk (below_step (bl HB) hb); (try clear hb); (try clear hb2); (try clear hk); (try clear hi); have hcz18_0 := bk1 BK451.out; have hfz18_0 := bf BK451.out) | (go_at_call 35; (with_reducible refine (portolanref04_Check.calls k1 _ _ l0_0 t455 _ ?side1 ?side2 A15.out).mono ?_); (case side1 => exact Kd.Cx (Kd.C_below HR0_0.out HB.out)); (case side2 => exact HC0_0.out); rintro e w19 ⟨rfl, hb⟩; replace BK451 := Aside0.mk (blk_below (bx BK451.out) hb); replace HB := Aside0.mk (below_step (bl HB) hb); (try clear hb); (try clear hb2); (try clear hk); (try clear hi)))
    repeat (go_quiet (first | (go_at_call 34; (with_reducible refine (portolanref03_Great.calls k1 _ _ l0_0 false _ ?side1 ?side2 A11.out).mono ?_); (case side1 => exact Kd.Cx (Kd.C_below HR0_0.out HB.out)); (case side2 => exact HC0_0.out); rintro e w17 ⟨rfl, hb⟩; replace BK451 := Aside0.mk (blk_below (bx BK451.out) hb); replace HB := Aside0.mk (below_step (bl HB) hb); (try clear hb); (try clear hb2); (try clear hk); (try clear hi); have hcz18_0 := bk1 BK451.out; have hfz18_0 := bf BK451.out) | (go_at_call 35; (with_reducible refine (portolanref04_Check.calls k1 _ _ l0_0 t455 _ ?side1 ?side2 A15.out).mono ?_); (case side1 => exact Kd.Cx (Kd.C_below HR0_0.out HB.out)); (case side2 => exact HC0_0.out); rintro e w19 ⟨rfl, hb⟩; replace BK451 := Aside0.mk (blk_below (bx BK451.out) hb); replace HB := Aside0.mk (below_step (bl HB) hb); (try clear hb); (try clear hb2); (try clear hk); (try clear hi))); try go_wp2_with (first | (go_at_call 34; (with_reducible refine (portolanref03_Great.calls k1 _ _ l0_0 false _ ?side1 ?side2 A11.out).mono ?_); (case side1 => exact Kd.Cx (Kd.C_below HR0_0.out HB.out)); (case side2 => exact HC0_0.out); rintro e w17 ⟨rfl, hb⟩; replace BK451 := Aside0.mk (blk_below (bx BK451.out) hb); replace HB := Aside0.mk (below_step (bl HB) hb); (try clear hb); (try clear hb2); (try clear hk); (try clear hi); have hcz18_0 := bk1 BK451.out; have hfz18_0 := bf BK451.out) | (go_at_call 35; (with_reducible refine (portolanref04_Check.calls k1 _ _ l0_0 t455 _ ?side1 ?side2 A15.out).mono ?_); (case side1 => exact Kd.Cx (Kd.C_below HR0_0.out HB.out)); (case side2 => exact HC0_0.out); rintro e w19 ⟨rfl, hb⟩; replace BK451 := Aside0.mk (blk_below (bx BK451.out) hb); replace HB := Aside0.mk (below_step (bl HB) hb); (try clear hb); (try clear hb2); (try clear hk); (try clear hi))))
    go_ret
    exact ⟨by first | rfl | (simp [errW_none, errW_some] <;> rfl) | (simp [*, errW_none, errW_some] <;> rfl), bl HB⟩
   rw [if_neg c3] at H
   have c3b0 : decide (x4_1 < (l0_0.length : Int)) = false := decide_eq_false c3
   clear c3
   by_cases c20 : x3_1 > 14
   ·
    rw [if_pos c20] at H
    have c20b0 : decide (14 < x3_1) = true := decide_eq_true c20
    clear c20
    obtain rfl := Option.some.inj H
    have hcz21_0 := bk1 BK451.out
    have hfz21_0 := bf BK451.out
    go_wp2
    repeat (go_quiet (fail); try go_wp2)
    go_ret
    exact ⟨by first | rfl | (simp [errW_none, errW_some] <;> rfl) | (simp [*, errW_none, errW_some] <;> rfl), bl HB⟩
   rw [if_neg c20] at H
   have c20b0 : decide (14 < x3_1) = false := decide_eq_false c20
   clear c20
   replace H := Option.bind_eq_some_iff.mp H
   obtain ⟨t456, A220, H⟩ := H
   replace H : (if t456 = true then (some true) else ((portolanref04_Check.f k1 l0_0).bind fun t457 => (some (t457 != 0)))) = some r := H
   have A22 := Aside0.mk A220
   clear A220
   by_cases c23 : t456 = true
   ·
    subst c23
    have H1 : (some true) = some r := by rw [if_pos rfl] at H; exact H
    clear H
    have H := H1
    clear H1
    obtain rfl := Option.some.inj H
    have hcz24_0 := bk1 BK451.out
    have hfz24_0 := bf BK451.out
    go_wp2_with (first | (go_at_call 34; (with_reducible refine (portolanref03_Great.calls k1 _ _ l0_0 true _ ?side1 ?side2 A22.out).mono ?_); (case side1 => exact Kd.Cx (Kd.C_below HR0_0.out HB.out)); (case side2 => exact HC0_0.out); rintro e w25 ⟨rfl, hb⟩; replace BK451 := Aside0.mk (blk_below (bx BK451.out) hb); replace HB := Aside0.mk (below_step (bl HB) hb); (try clear hb); (try clear hb2); (try clear hk); (try clear hi)))
    repeat (go_quiet (first | (go_at_call 34; (with_reducible refine (portolanref03_Great.calls k1 _ _ l0_0 true _ ?side1 ?side2 A22.out).mono ?_); (case side1 => exact Kd.Cx (Kd.C_below HR0_0.out HB.out)); (case side2 => exact HC0_0.out); rintro e w25 ⟨rfl, hb⟩; replace BK451 := Aside0.mk (blk_below (bx BK451.out) hb); replace HB := Aside0.mk (below_step (bl HB) hb); (try clear hb); (try clear hb2); (try clear hk); (try clear hi))); try go_wp2_with (first | (go_at_call 34; (with_reducible refine (portolanref03_Great.calls k1 _ _ l0_0 true _ ?side1 ?side2 A22.out).mono ?_); (case side1 => exact Kd.Cx (Kd.C_below HR0_0.out HB.out)); (case side2 => exact HC0_0.out); rintro e w25 ⟨rfl, hb⟩; replace BK451 := Aside0.mk (blk_below (bx BK451.out) hb); replace HB := Aside0.mk (below_step (bl HB) hb); (try clear hb); (try clear hb2); (try clear hk); (try clear hi))))
    go_ret
    exact ⟨by first | rfl | (simp [errW_none, errW_some] <;> rfl) | (simp [*, errW_none, errW_some] <;> rfl), bl HB⟩
   replace c23 := Bool.eq_false_iff.mpr c23
   subst c23
   have H1 : ((portolanref04_Check.f k1 l0_0).bind fun t457 => (some (t457 != 0))) = some r := by rw [if_neg (show ¬ (false = true) by decide)] at H; exact H
   clear H
   have H := H1
   clear H1
   replace H := Option.bind_eq_some_iff.mp H
   obtain ⟨t457, A260, H⟩ := H
   replace H : (some (t457 != 0)) = some r := H
   have A26 := Aside0.mk A260
   clear A260
   obtain rfl := Option.some.inj H
   have hcz27_0 := bk1 BK451.out
   have hfz27_0 := bf BK451.out
   go_wp2_with (first | (go_at_call 34; (with_reducible refine (portolanref03_Great.calls k1 _ _ l0_0 false _ ?side1 ?side2 A22.out).mono ?_); (case side1 => exact Kd.Cx (Kd.C_below HR0_0.out HB.out)); (case side2 => exact HC0_0.out); rintro e w28 ⟨rfl, hb⟩; replace BK451 := Aside0.mk (blk_below (bx BK451.out) hb); replace HB := Aside0.mk (below_step (bl HB) hb); (try clear hb); (try clear hb2); (try clear hk); (try clear hi); have hcz29_0 := bk1 BK451.out; have hfz29_0 := bf BK451.out) | (go_at_call 35; (with_reducible refine (portolanref04_Check.calls k1 _ _ l0_0 t457 _ ?side1 ?side2 A26.out).mono ?_); (case side1 => exact Kd.Cx (Kd.C_below HR0_0.out HB.out)); (case side2 => exact HC0_0.out); rintro e w30 ⟨rfl, hb⟩; replace BK451 := Aside0.mk (blk_below (bx BK451.out) hb); replace HB := Aside0.mk (below_step (bl HB) hb); (try clear hb); (try clear hb2); (try clear hk); (try clear hi)))
   repeat (go_quiet (first | (go_at_call 34; (with_reducible refine (portolanref03_Great.calls k1 _ _ l0_0 false _ ?side1 ?side2 A22.out).mono ?_); (case side1 => exact Kd.Cx (Kd.C_below HR0_0.out HB.out)); (case side2 => exact HC0_0.out); rintro e w28 ⟨rfl, hb⟩; replace BK451 := Aside0.mk (blk_below (bx BK451.out) hb); replace HB := Aside0.mk (below_step (bl HB) hb); (try clear hb); (try clear hb2); (try clear hk); (try clear hi); have hcz29_0 := bk1 BK451.out; have hfz29_0 := bf BK451.out) | (go_at_call 35; (with_reducible refine (portolanref04_Check.calls k1 _ _ l0_0 t457 _ ?side1 ?side2 A26.out).mono ?_); (case side1 => exact Kd.Cx (Kd.C_below HR0_0.out HB.out)); (case side2 => exact HC0_0.out); rintro e w30 ⟨rfl, hb⟩; replace BK451 := Aside0.mk (blk_below (bx BK451.out) hb); replace HB := Aside0.mk (below_step (bl HB) hb); (try clear hb); (try clear hb2); (try clear hk); (try clear hi))); try go_wp2_with (first | (go_at_call 34; (with_reducible refine (portolanref03_Great.calls k1 _ _ l0_0 false _ ?side1 ?side2 A22.out).mono ?_); (case side1 => exact Kd.Cx (Kd.C_below HR0_0.out HB.out)); (case side2 => exact HC0_0.out); rintro e w28 ⟨rfl, hb⟩; replace BK451 := Aside0.mk (blk_below (bx BK451.out) hb); replace HB := Aside0.mk (below_step (bl HB) hb); (try clear hb); (try clear hb2); (try clear hk); (try clear hi); have hcz29_0 := bk1 BK451.out; have hfz29_0 := bf BK451.out) | (go_at_call 35; (with_reducible refine (portolanref04_Check.calls k1 _ _ l0_0 t457 _ ?side1 ?side2 A26.out).mono ?_); (case side1 => exact Kd.Cx (Kd.C_below HR0_0.out HB.out)); (case side2 => exact HC0_0.out); rintro e w30 ⟨rfl, hb⟩; replace BK451 := Aside0.mk (blk_below (bx BK451.out) hb); replace HB := Aside0.mk (below_step (bl HB) hb); (try clear hb); (try clear hb2); (try clear hk); (try clear hi))))
   go_ret
   exact ⟨by first | rfl | (simp [errW_none, errW_some] <;> rfl) | (simp [*, errW_none, errW_some] <;> rfl), bl HB⟩
def portolanref02_small.f (a0 : Int) : Option (Bool) := if a0 ≥ 0 then (some (decide (a0 < 4096))) else (some false)
set_option maxHeartbeats 8000000 in
set_option maxRecDepth 100000 in
theorem portolanref02_small.calls (a0 : Int) (r : Bool) (w : World) (h : portolanref02_small.f a0 = some r) :
 Calls Tryd.prog 45 #[.int .i64 a0] w fun e w' => e = .returned (.bool r) ∧ Drawn0 w w' := by
 have H : (if a0 ≥ 0 then (some (decide (a0 < 4096))) else (some false)) = some r := h
 clear h
 by_cases c2 : a0 ≥ 0
 ·
  rw [if_pos c2] at H
  have c2b0 : decide (0 ≤ a0) = true := decide_eq_true c2
  clear c2
  obtain rfl := Option.some.inj H
  go_enter Tryd.func45, Tryd.ntmps45
  go_wp2
  go_ret
  exact ⟨by first | rfl | (simp; done) | (simp [*]; done), by repeat (first | exact Drawn0.refl _ | apply Drawn0.step)⟩
 rw [if_neg c2] at H
 have c2b0 : decide (0 ≤ a0) = false := decide_eq_false c2
 clear c2
 obtain rfl := Option.some.inj H
 go_enter Tryd.func45, Tryd.ntmps45
 go_wp2
 go_ret
 exact ⟨by first | rfl | (simp; done) | (simp [*]; done), by repeat (first | exact Drawn0.refl _ | apply Drawn0.step)⟩
def portolanref02_put.l0 : Nat → Int → List Int → Option (List Int)
 | 0, _, _ => none
 | k + 1, x1, x5 => if (x5.length : Int) ≤ (wrap64 (Int.tdiv x1 64)) then (if x5.length < 17592186044416 then (portolanref02_put.l0 k x1 (x5 ++ [0])) else (none)) else (if 0 ≤ (wrap64 (Int.tdiv x1 64)) then (if (wrap64 (Int.tdiv x1 64)) < (x5.length : Int) then (if 0 ≤ (IntKind.u64.wrap (Int.tmod x1 64)) then (some (x5.set ((wrap64 (Int.tdiv x1 64)) : Int).toNat (Go.bits .or .u64 (rd x5 (wrap64 (Int.tdiv x1 64))) (shl .u64 1 (IntKind.u64.wrap (Int.tmod x1 64)))))) else (none)) else (none)) else (none))
def portolanref02_put.f (k : Nat) (l0 : List Int) (a1 : Int) : Option (List Int) := (some (([] : List Int) : List Int)).bind fun y458 => (if y458.length + l0.length < 17592186044416 then (portolanref02_put.l0 k a1 (y458 ++ l0)) else (none))
set_option maxHeartbeats 8000000 in
set_option maxRecDepth 100000 in
theorem portolanref02_put.calls (k : Nat) (A0 : Option Addr) (c0 : Nat) (l0 : List Int) (a1 : Int) (r : List Int) (w : World) (hr0 : Kd.C (Kd.int .u64) w A0 l0.length l0) (hc0 : l0.length ≤ c0) (h : portolanref02_put.f k l0 a1 = some r) :
 Calls Tryd.prog 46 #[.slice A0 l0.length c0, .int .i64 a1] w fun e w' => ∃ v0_ : Value, e = .returned (v0_) ∧ Kd.R (Kd.int .u64) 67 w' w.heap.size (fun _ => True) v0_ r ∧ Below w.heap.size w w' := by
 have HR0 := Aside0.mk hr0
 have HC0 := Aside0.mk hc0
 clear hr0 hc0
 have HB := Aside0.mk (Below.refl w.heap.size w)
 have H : ((some (([] : List Int) : List Int)).bind fun y458 => (if y458.length + l0.length < 17592186044416 then (portolanref02_put.l0 k a1 (y458 ++ l0)) else (none))) = some r := h
 clear h
 obtain ⟨y458, hy458⟩ : ∃ y_ : List Int, y_ = (([] : List Int)) := ⟨_, rfl⟩
 replace H : (if y458.length + l0.length < 17592186044416 then (portolanref02_put.l0 k a1 (y458 ++ l0)) else (none)) = some r := by first | (rw [hy458]; with_reducible exact H) | (have H2_ := (Option.bind_some _ _).symm.trans H; rw [hy458]; with_reducible exact H2_) | (have H2_ := (Option.bind_some _ _).symm.trans H; with_reducible exact H2_) | with_reducible exact H | (rw [hy458]; exact H) | exact H
 have Ny458 := Aside0.mk hy458
 clear hy458
 by_cases c3 : y458.length + l0.length < 17592186044416
 ·
  rw [if_pos c3] at H
  have LMc3 := Aside0.mk c3
  clear c3
  obtain ⟨y461, hy461⟩ : ∃ y_ : List Int, y_ = (y458 ++ l0) := ⟨_, rfl⟩
  replace H : (portolanref02_put.l0 k a1 y461) = some r := by first | (rw [hy461]; with_reducible exact H) | (have H2_ := (Option.bind_some _ _).symm.trans H; rw [hy461]; with_reducible exact H2_) | (have H2_ := (Option.bind_some _ _).symm.trans H; with_reducible exact H2_) | with_reducible exact H | (rw [hy461]; exact H) | exact H
  have Ny461 := Aside0.mk hy461
  clear hy461
  have H' := Aside0.mk H
  clear H
  go_enter Tryd.func46, Tryd.ntmps46
  go_wp2_with (first | ((with_reducible refine gate_dst (N := 6) rfl ?_); refine Kd.R_lit (Kd.int .u64) _ 67 ?hg (N := 6) ?hd (xs := ([] : List Int)) (inner := []) (ok := fun _ => True) (okp := fun _ => True) ?hr ?hp (fun _ hk => hk) trivial (Below.refl _ _) (Nat.le_refl _) (by simp) ?_; (case hd => rfl); (case hg => rfl); (case hr => first | (go_simp; done) | (go_simp; rfl)); (case hp => exact (Reps.none _ _)); intro v459 w4 ho5 hb hg_ hnew_; clear hg_ hnew_; (first | rw [← Ny458.out] at ho5 | (simp only [Int.reduceToNat] at ho5; rw [← Ny458.out] at ho5)); have HO460 := Aside0.mk (Kd.R_lower ho5 (below_size (bl HB))); replace HB := Aside0.mk (below_step (bl HB) hb); clear hb ho5) | ((with_reducible refine gate_builtin (b := .append) (xs := #[.tmp 6, .tmp 7]) rfl ?_); at_builtin; refine Kd.R_append_rows (Kd.int .u64) (w0 := w) w.heap.size rfl (.tmp 6) (.tmp 7) 31 67 (.int .u64 0) 8 rfl Tryd.underlying31 info67 rfl (by decide) (by omega) v459 y458 l0 _ _ _ (fun _ => True) (fun _ => False) rfl rfl ?aO ?aR (fun _ _ h => h) (fun _ h => h.elim) ?aF ?aB ?aS ?aL ?_; (case aR => exact Kd.Cx (Kd.C_below HR0.out HB.out)); (case aB => exact (bl HB)); (case aF => exact (fun _ _ => trivial)); (case aO => exact (Kd.Rx HO460.out)); (case aS => exact (below_size (bl HB))); (case aL => have := LMc3.out; omega); intro v462 w6 ho hb hg hat; rw [← Ny461.out] at ho; replace HB := Aside0.mk (hb); have HO463 := Aside0.mk (ho); clear HO460; clear ho hb hg hat))
  go_loopg [5] k (fun kq v5 w' => ∃ (x5_1 : List Int), Aside0 (portolanref02_put.l0 kq a1 x5_1 = some r) ∧ Aside0 (kq ≤ k) ∧ Aside0 (Kd.R (Kd.int .u64) 67 w' w.heap.size (fun _ => True) v5 x5_1) ∧ Aside0 (Below w.heap.size w w'))
  case atStart => exact ⟨(y461), H', ⟨Nat.le_refl _⟩, ⟨Kd.Rx HO463.out⟩, ⟨bl HB⟩⟩
  case round =>
   clear H'
   try clear p2
   try clear c3
   try clear c4
   obtain ⟨x5_1, HA, HK1, HO_5, HB⟩ := hrel
   cases gk with
   | zero => exact absurd HA.out (by simp [portolanref02_put.l0])
   | succ k1 =>
    have H := HA.out
    clear HA
    simp only [portolanref02_put.l0] at H
    by_cases c7 : (x5_1.length : Int) ≤ (wrap64 (Int.tdiv a1 64))
    ·
     rw [if_pos c7] at H
     have c7b0 : decide ((x5_1.length : Int) ≤ (wrap64 (Int.tdiv a1 64))) = true := decide_eq_true c7
     clear c7
     by_cases c8 : x5_1.length < 17592186044416
     ·
      rw [if_pos c8] at H
      have LMc8 := Aside0.mk c8
      clear c8
      obtain ⟨y464, hy464⟩ : ∃ y_ : List Int, y_ = (x5_1 ++ [0]) := ⟨_, rfl⟩
      replace H : (portolanref02_put.l0 k1 a1 y464) = some r := by first | (rw [hy464]; with_reducible exact H) | (have H2_ := (Option.bind_some _ _).symm.trans H; rw [hy464]; with_reducible exact H2_) | (have H2_ := (Option.bind_some _ _).symm.trans H; with_reducible exact H2_) | with_reducible exact H | (rw [hy464]; exact H) | exact H
      have Ny464 := Aside0.mk hy464
      clear hy464
      have H' := Aside0.mk H
      clear H
      obtain ⟨Ao9, co9, eo9⟩ := Kd.R_slice HO_5.out
      subst eo9
      go_wp2_with (first | ((with_reducible refine gate_builtin (b := .append) (xs := #[.tmp 14, .tmp 15]) rfl ?_); at_builtin; refine Kd.R_append (Kd.int .u64) (w0 := w) w.heap.size rfl (.tmp 14) (.tmp 15) 31 67 (.int .u64 0) 8 rfl Tryd.underlying31 info67 rfl (by decide) (by omega) (.slice Ao9 x5_1.length co9) x5_1 0 [.int .u64 0] (fun _ => True) (fun _ => False) rfl rfl ?aP (fun _ hk => hk.elim) ?aF ?aO ?aB ?aS ?aL ?_; (case aP => exact rfl); (case aB => exact (bl HB)); (case aF => exact (fun _ _ => trivial)); (case aO => exact (Kd.Rx HO_5.out)); (case aS => exact (below_size (bl HB))); (case aL => have := LMc8.out; omega); intro v465 w10 ho hb hg hat; rw [← Ny464.out] at ho; replace HB := Aside0.mk (hb); have HO466 := Aside0.mk (ho); clear HO_5; clear ho hb hg hat))
      go_roundg k1
      case measure => have := HK1.out; omega
      case rel => exact ⟨(y464), H', ⟨by have := HK1.out; omega⟩, ⟨Kd.Rx HO466.out⟩, ⟨bl HB⟩⟩
     rw [if_neg c8] at H
     exact absurd H (by simp)
    rw [if_neg c7] at H
    have c7b0 : decide ((x5_1.length : Int) ≤ (wrap64 (Int.tdiv a1 64))) = false := decide_eq_false c7
    clear c7
    obtain ⟨ji11, hji11⟩ : ∃ j_ : Int, (wrap64 (Int.tdiv a1 64)) = j_ := ⟨_, rfl⟩
    replace H : (if 0 ≤ (ji11) then (if (ji11) < (x5_1.length : Int) then (if 0 ≤ (IntKind.u64.wrap (Int.tmod a1 64)) then (some (x5_1.set ((ji11) : Int).toNat (Go.bits .or .u64 (rd x5_1 (ji11)) (shl .u64 1 (IntKind.u64.wrap (Int.tmod a1 64)))))) else (none)) else (none)) else (none)) = some r := by first | (rw [hji11] at H; exact H) | (simp only [hji11] at H ⊢; exact H)
    (try rw [hji11] at c7b0)
    have hji11w : (IntKind.i64.wrap (Int.tdiv a1 64)) = ji11 := (i64_w _).trans hji11
    by_cases c12 : 0 ≤ (ji11)
    ·
     rw [if_pos c12] at H
     have c12b0 : decide (0 ≤ (ji11)) = true := decide_eq_true c12
     clear c12
     by_cases c13 : (ji11) < (x5_1.length : Int)
     ·
      rw [if_pos c13] at H
      have c13b0 : decide ((ji11) < (x5_1.length : Int)) = true := decide_eq_true c13
      clear c13
      obtain ⟨ji14, hji14⟩ : ∃ j_ : Int, (IntKind.u64.wrap (Int.tmod a1 64)) = j_ := ⟨_, rfl⟩
      replace H : (if 0 ≤ (ji14) then (some (x5_1.set ((ji11) : Int).toNat (Go.bits .or .u64 (rd x5_1 (ji11)) (shl .u64 1 (ji14))))) else (none)) = some r := by first | (rw [hji14] at H; exact H) | (simp only [hji14] at H ⊢; exact H)
      by_cases c15 : 0 ≤ (ji14)
      ·
       rw [if_pos c15] at H
       have c15b0 := eq_true c15
       have c15b1 : decide (0 ≤ (ji14)) = true := decide_eq_true c15
       clear c15
       obtain ⟨ji16, hji16⟩ : ∃ j_ : Int, (shl .u64 1 (ji14)) = j_ := ⟨_, rfl⟩
       replace H : (some (x5_1.set ((ji11) : Int).toNat (Go.bits .or .u64 (rd x5_1 (ji11)) (ji16)))) = some r := by first | (rw [hji16] at H; exact H) | (simp only [hji16] at H ⊢; exact H)
       have hji16_ : (IntKind.u64.wrap (1 * 2 ^ min (ji14).toNat 64)) = ji16 := hji16
       have hji16z : (ji14) ≤ 64 → (IntKind.u64.wrap (1 * 2 ^ (ji14).toNat)) = ji16 := shl_small hji16
       have hji16u : (IntKind.u64.wrap (2 ^ min (ji14).toNat 64)) = ji16 := by have h_ := hji16_; rw [Int.one_mul] at h_; exact h_
       have hji16v : (ji14) ≤ 64 → (IntKind.u64.wrap (2 ^ (ji14).toNat)) = ji16 := fun hle_ => by have h_ := hji16z hle_; rw [Int.one_mul] at h_; exact h_
       obtain ⟨y468, hy468⟩ : ∃ y_ : List Int, y_ = (x5_1.set ((ji11) : Int).toNat (Go.bits .or .u64 (rd x5_1 (ji11)) (ji16))) := ⟨_, rfl⟩
       replace H : (some y468) = some r := by first | (rw [hy468]; with_reducible exact H) | (have H2_ := (Option.bind_some _ _).symm.trans H; rw [hy468]; with_reducible exact H2_) | (have H2_ := (Option.bind_some _ _).symm.trans H; with_reducible exact H2_) | with_reducible exact H | (rw [hy468]; exact H) | exact H
       have Ny468 := Aside0.mk hy468
       clear hy468
       obtain rfl := Option.some.inj H
       obtain ⟨Ao18, co18, eo18⟩ := Kd.R_slice HO_5.out
       subst eo18
       have p467 : 0 ≤ ((ji11) : Int) := of_decide_eq_true (by assumption)
       have q467 : (ji11) < (x5_1.length : Int) := of_decide_eq_true (by assumption)
       obtain ⟨ad467, e467, hx467_0⟩ := Kd.at_int (Kd.R_reads' HO_5.out).2.2 (ji11) p467 q467
       cases e467
       replace p467 := eq_true p467
       replace q467 := eq_true q467
       have p17 : 0 ≤ ((ji11) : Int) := of_decide_eq_true (by assumption)
       have q17 : ((ji11) : Int) < ((x5_1.length : Int) : Int) := of_decide_eq_true (by assumption)
       obtain ⟨go17, co17, eo17, gb17, gl17, cl17, HG17⟩ := Kd.R_form HO_5.out (by omega)
       (first | cases eo17 | (injection eo17 with ea_ en_ ec_; (first | subst ea_ | (injection ea_ with ea_; subst ea_)); subst ec_; clear en_))
       have GB17 := Aside0.mk gb17
       have GG17 := Aside0.mk HG17
       clear gb17 gl17 HG17
       (first | simp only [add_plain] at hx467_0 | skip)
       obtain ⟨hx17_0, hf17_0⟩ := Kd.R_celln 0 HO_5.out ((ji11) : Int) p17 q17
       replace p17 := eq_true p17
       replace q17 := eq_true q17
       have HP19 := Kd.R_putg HO_5.out ((ji11) : Int) (Go.bits .or .u64 (rd x5_1 (ji11)) (ji16))
       go_wp2_with (first | ((with_reducible refine gate_store (t := 67) (p := 30) rfl ?_); refine store_event (t := 67) (p := 30) (v := ?vo_w20) (w1 := (wr.setCell ⟨go17, ((ji11) : Int).toNat, none⟩ (.int .u64 (Go.bits .or .u64 (rd x5_1 (ji11)) (ji16))))) ?hg ?ho ?hn ?hr ?_; (case ho => rfl); (case hg => rfl); (case hn => rfl); (case hr => first | (go_simp; done) | (go_simp; rfl)); intro w20 hw; have hg : wr.grownBy w20 (some go17) := (by rw [hw]; exact HP19.2); have hp_ : Kd.R (Kd.int .u64) 67 w20 w.heap.size (fun _ => True) (.slice (some ⟨go17, 0, none⟩) x5_1.length co18) y468 := (by rw [hw, Ny468.out]; exact HP19.1); clear HP19; replace HO_5 := Aside0.mk (hp_); replace HB := Aside0.mk ((by rw [hw]; exact below_set (HB.out) GB17.out : Below w.heap.size w w20)); clear hg hw hp_))
       go_ret
       exact ⟨_, by first | rfl | (simp [errW_none, errW_some] <;> rfl) | (simp only [← hji11, ← hji14, ← hji16]; first | rfl | (simp [errW_none, errW_some] <;> rfl)) | (simp [*, errW_none, errW_some] <;> rfl), Kd.Rx HO_5.out, bl HB⟩
      rw [if_neg c15] at H
      exact absurd H (by simp)
     rw [if_neg c13] at H
     exact absurd H (by simp)
    rw [if_neg c12] at H
    exact absurd H (by simp)
 rw [if_neg c3] at H
 exact absurd H (by simp)
def portolanref02_With.l0 : Nat → List Int → List Int → Int → Option (List Int)
 | 0, _, _, _ => none
 | k + 1, x1, x5, x6 => if x6 < (x1.length : Int) then (if 0 ≤ x6 then ((portolanref02_small.f (rd x1 x6)).bind fun t473 => (if t473 = true then ((portolanref02_put.f k x5 (rd x1 x6)).bind fun t475 => (portolanref02_With.l0 k x1 t475 (wrap64 (x6 + 1)))) else (portolanref02_With.l0 k x1 x5 (wrap64 (x6 + 1))))) else (none)) else ((portolanref02_Neat.f x5).bind fun t469 => (some t469))
def portolanref02_With.f (k : Nat) (l0 : List Int) (l1 : List Int) : Option (List Int) := portolanref02_With.l0 k l1 l0 0
set_option maxHeartbeats 8000000 in
set_option maxRecDepth 100000 in
theorem portolanref02_With.calls (k : Nat) (P0_ : Nat → Prop) (A0 : Option Addr) (c0 : Nat) (l0 : List Int) (A1 : Option Addr) (c1 : Nat) (l1 : List Int) (r : List Int) (w : World) (hs0 : Kd.V (Kd.int .u64) 67 w w.heap.size (fun k_ => P0_ k_) (.slice A0 l0.length c0) l0) (hr1 : Kd.C (Kd.int .i64) w A1 l1.length l1) (hc1 : l1.length ≤ c1) (h : portolanref02_With.f k l0 l1 = some r) :
 Calls Tryd.prog 18 #[.slice A0 l0.length c0, .slice A1 l1.length c1] w fun e w' => ∃ v0_ : Value, e = .returned (v0_) ∧ Kd.R (Kd.int .u64) 67 w' w.heap.size (fun k_ => (w.heap.size ≤ k_)) v0_ r ∧ Below w.heap.size w w' := by
 have HO0 := Aside0.mk (show Kd.V (Kd.int .u64) 67 w w.heap.size (fun k_ => (P0_ k_ ∨ w.heap.size ≤ k_)) (.slice A0 l0.length c0) l0 from Kd.V_mono hs0 (fun k_ hk => .inl hk))
 have HR1 := Aside0.mk hr1
 have HC1 := Aside0.mk hc1
 clear hr1 hc1
 have HB := Aside0.mk (Below.refl w.heap.size w)
 have H : (portolanref02_With.l0 k l1 l0 0) = some r := h
 clear h
 have H' := Aside0.mk H
 clear H
 go_enter Tryd.func18, Tryd.ntmps18
 go_wp2
 go_loopg [5, 6] k (fun kq v5 v6 w' => ∃ (x5_1 : List Int) (x6_1 : Int), v6 = .int .i64 x6_1 ∧ Aside0 (portolanref02_With.l0 kq l1 x5_1 x6_1 = some r) ∧ Aside0 (kq ≤ k) ∧ Aside0 (Kd.V (Kd.int .u64) 67 w' w.heap.size (fun k_ => (P0_ k_ ∨ w.heap.size ≤ k_)) v5 x5_1) ∧ Aside0 (Below w.heap.size w w'))
 case atStart => exact ⟨(l0), (0), (by first | rfl | (simp; done) | (simp [*]; done)), H', ⟨Nat.le_refl _⟩, ⟨Kd.Vx HO0.out⟩, ⟨bl HB⟩⟩
 case round =>
  clear H'
  try clear c1
  try clear p2
  obtain ⟨x5_1, x6_1, rfl, HA, HK1, HO_5, HB⟩ := hrel
  cases gk with
  | zero => exact absurd HA.out (by simp [portolanref02_With.l0])
  | succ k1 =>
   have H := HA.out
   clear HA
   simp only [portolanref02_With.l0] at H
   by_cases c3 : x6_1 < (l1.length : Int)
   ·
    rw [if_pos c3] at H
    have c3b0 : decide (x6_1 < (l1.length : Int)) = true := decide_eq_true c3
    clear c3
    by_cases c4 : 0 ≤ x6_1
    ·
     rw [if_pos c4] at H
     have c4b0 : decide (0 ≤ x6_1) = true := decide_eq_true c4
     clear c4
     replace H := Option.bind_eq_some_iff.mp H
     obtain ⟨t473, A50, H⟩ := H
     replace H : (if t473 = true then ((portolanref02_put.f k1 x5_1 (rd l1 x6_1)).bind fun t475 => (portolanref02_With.l0 k1 l1 t475 (wrap64 (x6_1 + 1)))) else (portolanref02_With.l0 k1 l1 x5_1 (wrap64 (x6_1 + 1)))) = some r := H
     have A5 := Aside0.mk A50
     clear A50
     by_cases c6 : t473 = true
     ·
      subst c6
      have H1 : ((portolanref02_put.f k1 x5_1 (rd l1 x6_1)).bind fun t475 => (portolanref02_With.l0 k1 l1 t475 (wrap64 (x6_1 + 1)))) = some r := by rw [if_pos rfl] at H; exact H
      clear H
      have H := H1
      clear H1
      replace H := Option.bind_eq_some_iff.mp H
      obtain ⟨t475, A70, H⟩ := H
      replace H : (portolanref02_With.l0 k1 l1 t475 (wrap64 (x6_1 + 1))) = some r := H
      have A7 := Aside0.mk A70
      clear A70
      have H' := Aside0.mk H
      clear H
      have p472 : 0 ≤ (x6_1 : Int) := of_decide_eq_true (by assumption)
      have q472 : x6_1 < (l1.length : Int) := of_decide_eq_true (by assumption)
      obtain ⟨ad472, e472, hx472_0⟩ := Kd.at_int HR1.out x6_1 p472 q472
      cases e472
      replace hx472_0 := (HB.out.cell (World.block_lt_of_cell? w _ hx472_0)).trans hx472_0
      replace p472 := eq_true p472
      replace q472 := eq_true q472
      go_wp2_with (first | ((with_reducible refine gate_callee (f := 45) rfl ?_); refine goesL_ (some 18) rfl rfl Tryd.func45 (by kernel_rfl) rfl #[.int .i64 (rd l1 x6_1)] rfl (by (try simp only [List.map_toArray, List.map_cons, List.map_nil]); first | done | rfl) ?_; (with_reducible refine (portolanref02_small.calls (rd l1 x6_1) true _ A5.out).mono ?_); rintro e w' ⟨rfl, ⟨nd, rfl⟩⟩; refine ⟨_, rfl, ?_⟩; have p474 : 0 ≤ (x6_1 : Int) := of_decide_eq_true (by assumption); have q474 : x6_1 < (l1.length : Int) := of_decide_eq_true (by assumption); obtain ⟨ad474, e474, hx474_0⟩ := Kd.at_int HR1.out x6_1 p474 q474; obtain rfl : ad472 = ad474 := (by injection e474); replace hx474_0 := (HB.out.cell (World.block_lt_of_cell? w _ hx474_0)).trans hx474_0; replace p474 := eq_true p474; replace q474 := eq_true q474; obtain ⟨Ao8, co8, eo8⟩ := Kd.V_slice HO_5.out; subst eo8) | ((with_reducible refine gate_callee (f := 46) rfl ?_); refine goesL_ (some 24) rfl rfl Tryd.func46 (by kernel_rfl) rfl #[.slice Ao8 x5_1.length co8, .int .i64 (rd l1 x6_1)] rfl (by (try simp only [List.map_toArray, List.map_cons, List.map_nil]); first | done | rfl) ?_; (with_reducible refine (portolanref02_put.calls k1 _ _ x5_1 (rd l1 x6_1) t475 _ ?side1 ?side2 A7.out).mono ?_); (case side1 => exact Kd.Cx ((Kd.V_reads' HO_5.out).2.2)); (case side2 => exact (Kd.V_reads' HO_5.out).2.1); rintro e w9 ⟨v476, rfl, ho0, hb⟩; refine ⟨_, rfl, ?_⟩; replace HO_5 := Aside0.mk (Kd.V_elder' (Kd.Vx HO_5.out) (Kd.R_base ho0) hb); have HO477 := Aside0.mk (Kd.R_lower (Kd.R_newM (M := fun k_ => (w.heap.size ≤ k_)) ho0 (below_size (bl HB)) (fun k_ h_ => h_)) (below_size (bl HB))); replace HB := Aside0.mk (below_step (bl HB) hb); (try clear hb); (try clear hb2); (try clear hk); (try clear hi); (try clear ho0)))
      go_roundg k1
      case measure => have := HK1.out; omega
      case rel => exact ⟨(t475), (wrap64 (x6_1 + 1)), (by first | rfl | (simp; done) | (simp [*]; done)), H', ⟨by have := HK1.out; omega⟩, ⟨Kd.V_mono (Kd.R_V (Kd.Rx (Kd.R_mono HO477.out (fun _ hk => hk.1)))) (fun k_ hk => by first | exact ⟨(.inr (hk.1)), hk.2⟩ | exact (.inr (hk)))⟩, ⟨bl HB⟩⟩
     replace c6 := Bool.eq_false_iff.mpr c6
     subst c6
     have H1 : (portolanref02_With.l0 k1 l1 x5_1 (wrap64 (x6_1 + 1))) = some r := by rw [if_neg (show ¬ (false = true) by decide)] at H; exact H
     clear H
     have H := H1
     clear H1
     have H' := Aside0.mk H
     clear H
     have p472 : 0 ≤ (x6_1 : Int) := of_decide_eq_true (by assumption)
     have q472 : x6_1 < (l1.length : Int) := of_decide_eq_true (by assumption)
     obtain ⟨ad472, e472, hx472_0⟩ := Kd.at_int HR1.out x6_1 p472 q472
     cases e472
     replace hx472_0 := (HB.out.cell (World.block_lt_of_cell? w _ hx472_0)).trans hx472_0
     replace p472 := eq_true p472
     replace q472 := eq_true q472
     go_wp2_with (first | ((with_reducible refine gate_callee (f := 45) rfl ?_); refine goesL_ (some 18) rfl rfl Tryd.func45 (by kernel_rfl) rfl #[.int .i64 (rd l1 x6_1)] rfl (by (try simp only [List.map_toArray, List.map_cons, List.map_nil]); first | done | rfl) ?_; (with_reducible refine (portolanref02_small.calls (rd l1 x6_1) false _ A5.out).mono ?_); rintro e w' ⟨rfl, ⟨nd, rfl⟩⟩; refine ⟨_, rfl, ?_⟩))
     go_roundg k1
     case measure => have := HK1.out; omega
     case rel => exact ⟨(x5_1), (wrap64 (x6_1 + 1)), (by first | rfl | (simp; done) | (simp [*]; done)), H', ⟨by have := HK1.out; omega⟩, ⟨Kd.Vx HO_5.out⟩, ⟨bl HB⟩⟩
    rw [if_neg c4] at H
    exact absurd H (by simp)
   rw [if_neg c3] at H
   have c3b0 : decide (x6_1 < (l1.length : Int)) = false := decide_eq_false c3
   clear c3
   replace H := Option.bind_eq_some_iff.mp H
   obtain ⟨t469, A100, H⟩ := H
   replace H : (some t469) = some r := H
   have A10 := Aside0.mk A100
   clear A100
   obtain rfl := Option.some.inj H
   obtain ⟨Ao11, co11, eo11⟩ := Kd.V_slice HO_5.out
   subst eo11
   go_wp2_with (first | ((with_reducible refine gate_callee (f := 44) rfl ?_); refine goesL_ (some 26) rfl rfl Tryd.func44 (by kernel_rfl) rfl #[.slice Ao11 x5_1.length co11] rfl (by (try simp only [List.map_toArray, List.map_cons, List.map_nil]); first | done | rfl) ?_; (with_reducible refine (portolanref02_Neat.calls _ _ x5_1 t469 _ ?side1 ?side2 A10.out).mono ?_); (case side1 => exact Kd.Cx ((Kd.V_reads' HO_5.out).2.2)); (case side2 => exact (Kd.V_reads' HO_5.out).2.1); rintro e w12 ⟨v470, rfl, ho0, hb⟩; refine ⟨_, rfl, ?_⟩; replace HO_5 := Aside0.mk (Kd.V_elder' (Kd.Vx HO_5.out) (Kd.R_base ho0) hb); have HO471 := Aside0.mk (Kd.R_lower (Kd.R_newM (M := fun k_ => (w.heap.size ≤ k_)) ho0 (below_size (bl HB)) (fun k_ h_ => h_)) (below_size (bl HB))); replace HB := Aside0.mk (below_step (bl HB) hb); (try clear hb); (try clear hb2); (try clear hk); (try clear hi); (try clear ho0)))
   go_ret
   exact ⟨_, by first | rfl | (simp [errW_none, errW_some] <;> rfl) | (simp [*, errW_none, errW_some] <;> rfl), by (with_reducible repeat (first | apply Kd.R_alloc | apply Kd.R_drewN | apply Kd.R_drew)); exact Kd.R_mono HO471.out (fun _ hk => hk.1), bl HB⟩
def portolanref12_Close.l0 : Nat → List Int → List Int → Int → List Int → List Int → Int → Int → List (S40) → Option (List Int)
 | 0, _, _, _, _, _, _, _, _ => none
 | k + 1, x1, x5, x6, x479000, x479001, x479002, x479003, x479004 => if x6 < (x479000.length : Int) then ((portolanref02_Has.f x1 x6).bind fun t482 => (if t482 = true then ((portolanref02_With.f k x5 (([x6] : List Int))).bind fun t486 => (if 0 ≤ x6 then (if (rd x479000 x6) = 2 then (if x6 < (x479001.length : Int) then ((portolanref02_With.f k t486 (([rd x479001 x6] : List Int))).bind fun t494 => (portolanref12_Close.l0 k x1 t494 (wrap64 (x6 + 1)) x479000 x479001 x479002 x479003 x479004)) else (none)) else (portolanref12_Close.l0 k x1 t486 (wrap64 (x6 + 1)) x479000 x479001 x479002 x479003 x479004)) else (none))) else (portolanref12_Close.l0 k x1 x5 (wrap64 (x6 + 1)) x479000 x479001 x479002 x479003 x479004))) else ((portolanref02_Neat.f x5).bind fun t479 => (some t479))
def portolanref12_Close.f (k : Nat) (l0_0 : List Int) (l0_1 : List Int) (a0_2 : Int) (a0_3 : Int) (l0_4 : List (S40)) (l1 : List Int) : Option (List Int) := portolanref12_Close.l0 k l1 ([] : List Int) 0 l0_0 l0_1 a0_2 a0_3 l0_4
set_option maxHeartbeats 8000000 in
set_option maxRecDepth 100000 in
theorem portolanref12_Close.calls (k : Nat) (A0_0 : Option Addr) (c0_0 : Nat) (l0_0 : List Int) (A0_1 : Option Addr) (c0_1 : Nat) (l0_1 : List Int) (a0_2 : Int) (a0_3 : Int) (A0_4 : Option Addr) (c0_4 : Nat) (l0_4 : List (S40)) (A1 : Option Addr) (c1 : Nat) (l1 : List Int) (r : List Int) (w : World) (hr0_0 : Kd.C (Kd.int .i64) w A0_0 l0_0.length l0_0) (hc0_0 : l0_0.length ≤ c0_0) (hr0_1 : Kd.C (Kd.int .i64) w A0_1 l0_1.length l0_1) (hc0_1 : l0_1.length ≤ c0_1) (hr0_4 : Kd.C k40 w A0_4 l0_4.length l0_4) (hc0_4 : l0_4.length ≤ c0_4) (hr1 : Kd.C (Kd.int .u64) w A1 l1.length l1) (hc1 : l1.length ≤ c1) (h : portolanref12_Close.f k l0_0 l0_1 a0_2 a0_3 l0_4 l1 = some r) :
 Calls Tryd.prog 24 #[.agg #[.slice A0_0 l0_0.length c0_0, .slice A0_1 l0_1.length c0_1, .int .i64 a0_2, .int .i64 a0_3, .slice A0_4 l0_4.length c0_4], .slice A1 l1.length c1] w fun e w' => ∃ v0_ : Value, e = .returned (v0_) ∧ Kd.R (Kd.int .u64) 67 w' w.heap.size (fun _ => True) v0_ r ∧ Below w.heap.size w w' := by
 have hu30 := Tryd.underlying30
 have HR0_0 := Aside0.mk hr0_0
 have HC0_0 := Aside0.mk hc0_0
 clear hr0_0 hc0_0
 have HR0_1 := Aside0.mk hr0_1
 have HC0_1 := Aside0.mk hc0_1
 clear hr0_1 hc0_1
 have HR0_4 := Aside0.mk hr0_4
 have HC0_4 := Aside0.mk hc0_4
 clear hr0_4 hc0_4
 have HR1 := Aside0.mk hr1
 have HC1 := Aside0.mk hc1
 clear hr1 hc1
 have HB := Aside0.mk (Below.refl w.heap.size w)
 have H : (portolanref12_Close.l0 k l1 ([] : List Int) 0 l0_0 l0_1 a0_2 a0_3 l0_4) = some r := h
 clear h
 have H' := Aside0.mk H
 clear H
 go_enter Tryd.func24, Tryd.ntmps24
 go_wp2_with (first | ((with_reducible refine gate_dst (N := 2) rfl ?_); refine box_event ?hg (N := 2) ?hd (cs := #[.slice A0_0 l0_0.length c0_0, .slice A0_1 l0_1.length c0_1, .int .i64 a0_2, .int .i64 a0_3, .slice A0_4 l0_4.length c0_4]) (t := 30) ?hr ?_; (case hd => rfl); (case hg => rfl); (case hr => first | (go_simp; done) | (go_simp; rfl)); intro gb478 hg w3 hbox hb; have BK478 := Aside0.mk (hbox); have GW478 := ge hg (bl HB); have GE478 := ge hg (bl HB); replace HB := Aside0.mk (below_step (bl HB) hb); clear hb hbox hg))
 go_loopg [5, 6] k (fun kq v5 v6 w' => ∃ (x5_1 : List Int) (x6_1 : Int), v6 = .int .i64 x6_1 ∧ Aside0 (portolanref12_Close.l0 kq l1 x5_1 x6_1 l0_0 l0_1 a0_2 a0_3 l0_4 = some r) ∧ Aside0 (kq ≤ k) ∧ Aside0 (Kd.R (Kd.int .u64) 67 w' w.heap.size (fun _ => True) v5 x5_1) ∧ Aside0 (w'.heap[gb478]? = some (.cells #[(.slice A0_0 l0_0.length c0_0), (.slice A0_1 l0_1.length c0_1), .int .i64 a0_2, .int .i64 a0_3, (.slice A0_4 l0_4.length c0_4)] 30 (0, 0))) ∧ Aside0 (Below w.heap.size w w'))
 case atStart => exact ⟨(([] : List Int)), (0), (by first | rfl | (simp; done) | (simp [*]; done)), H', ⟨Nat.le_refl _⟩, ⟨by first | exact Kd.R_nil _ _ _ _ _ | exact Kd.N_nil _ _ _ _ _ | exact Kd.V_nil _ _ _ _ _ | exact Kd.Q_nil _ _ _ _ _ | exact Kd.S_nil _ _ _ _ _⟩, ⟨bx BK478.out⟩, ⟨bl HB⟩⟩
 case round =>
  clear H'
  try clear c1
  try clear c2
  try clear p2
  obtain ⟨x5_1, x6_1, rfl, HA, HK1, HO_5, BK478, HB⟩ := hrel
  cases gk with
  | zero => exact absurd HA.out (by simp [portolanref12_Close.l0])
  | succ k1 =>
   have H := HA.out
   clear HA
   simp only [portolanref12_Close.l0] at H
   by_cases c4 : x6_1 < (l0_0.length : Int)
   ·
    rw [if_pos c4] at H
    have c4b0 : decide (x6_1 < (l0_0.length : Int)) = true := decide_eq_true c4
    clear c4
    replace H := Option.bind_eq_some_iff.mp H
    obtain ⟨t482, A50, H⟩ := H
    replace H : (if t482 = true then ((portolanref02_With.f k1 x5_1 (([x6_1] : List Int))).bind fun t486 => (if 0 ≤ x6_1 then (if (rd l0_0 x6_1) = 2 then (if x6_1 < (l0_1.length : Int) then ((portolanref02_With.f k1 t486 (([rd l0_1 x6_1] : List Int))).bind fun t494 => (portolanref12_Close.l0 k1 l1 t494 (wrap64 (x6_1 + 1)) l0_0 l0_1 a0_2 a0_3 l0_4)) else (none)) else (portolanref12_Close.l0 k1 l1 t486 (wrap64 (x6_1 + 1)) l0_0 l0_1 a0_2 a0_3 l0_4)) else (none))) else (portolanref12_Close.l0 k1 l1 x5_1 (wrap64 (x6_1 + 1)) l0_0 l0_1 a0_2 a0_3 l0_4)) = some r := H
    have A5 := Aside0.mk A50
    clear A50
    by_cases c6 : t482 = true
    ·
     subst c6
     have H1 : ((portolanref02_With.f k1 x5_1 (([x6_1] : List Int))).bind fun t486 => (if 0 ≤ x6_1 then (if (rd l0_0 x6_1) = 2 then (if x6_1 < (l0_1.length : Int) then ((portolanref02_With.f k1 t486 (([rd l0_1 x6_1] : List Int))).bind fun t494 => (portolanref12_Close.l0 k1 l1 t494 (wrap64 (x6_1 + 1)) l0_0 l0_1 a0_2 a0_3 l0_4)) else (none)) else (portolanref12_Close.l0 k1 l1 t486 (wrap64 (x6_1 + 1)) l0_0 l0_1 a0_2 a0_3 l0_4)) else (none))) = some r := by rw [if_pos rfl] at H; exact H
     clear H
     have H := H1
     clear H1
     obtain ⟨y483, hy483⟩ : ∃ y_ : List Int, y_ = (([x6_1] : List Int)) := ⟨_, rfl⟩
     replace H : ((portolanref02_With.f k1 x5_1 y483).bind fun t486 => (if 0 ≤ x6_1 then (if (rd l0_0 x6_1) = 2 then (if x6_1 < (l0_1.length : Int) then ((portolanref02_With.f k1 t486 (([rd l0_1 x6_1] : List Int))).bind fun t494 => (portolanref12_Close.l0 k1 l1 t494 (wrap64 (x6_1 + 1)) l0_0 l0_1 a0_2 a0_3 l0_4)) else (none)) else (portolanref12_Close.l0 k1 l1 t486 (wrap64 (x6_1 + 1)) l0_0 l0_1 a0_2 a0_3 l0_4)) else (none))) = some r := by first | (rw [hy483]; with_reducible exact H) | (have H2_ := (Option.bind_some _ _).symm.trans H; rw [hy483]; with_reducible exact H2_) | (have H2_ := (Option.bind_some _ _).symm.trans H; with_reducible exact H2_) | with_reducible exact H | (rw [hy483]; exact H) | exact H
     have Ny483 := Aside0.mk hy483
     clear hy483
     replace H := Option.bind_eq_some_iff.mp H
     obtain ⟨t486, A70, H⟩ := H
     replace H : (if 0 ≤ x6_1 then (if (rd l0_0 x6_1) = 2 then (if x6_1 < (l0_1.length : Int) then ((portolanref02_With.f k1 t486 (([rd l0_1 x6_1] : List Int))).bind fun t494 => (portolanref12_Close.l0 k1 l1 t494 (wrap64 (x6_1 + 1)) l0_0 l0_1 a0_2 a0_3 l0_4)) else (none)) else (portolanref12_Close.l0 k1 l1 t486 (wrap64 (x6_1 + 1)) l0_0 l0_1 a0_2 a0_3 l0_4)) else (none)) = some r := H
     have A7 := Aside0.mk A70
     clear A70
     by_cases c8 : 0 ≤ x6_1
     ·
      rw [if_pos c8] at H
      have c8b0 : decide (0 ≤ x6_1) = true := decide_eq_true c8
      clear c8
      by_cases c9 : (rd l0_0 x6_1) = 2
      ·
       rw [if_pos c9] at H
       have c9b0 : ((rd l0_0 x6_1) == 2) = true := beq_iff_eq.mpr c9
       have c9b1 : ((rd l0_0 x6_1) != 2) = false := bne_eq_false_iff_eq.mpr c9
       clear c9
       by_cases c10 : x6_1 < (l0_1.length : Int)
       ·
        rw [if_pos c10] at H
        have c10b0 : decide (x6_1 < (l0_1.length : Int)) = true := decide_eq_true c10
        clear c10
        obtain ⟨y491, hy491⟩ : ∃ y_ : List Int, y_ = (([rd l0_1 x6_1] : List Int)) := ⟨_, rfl⟩
        replace H : ((portolanref02_With.f k1 t486 y491).bind fun t494 => (portolanref12_Close.l0 k1 l1 t494 (wrap64 (x6_1 + 1)) l0_0 l0_1 a0_2 a0_3 l0_4)) = some r := by first | (rw [hy491]; with_reducible exact H) | (have H2_ := (Option.bind_some _ _).symm.trans H; rw [hy491]; with_reducible exact H2_) | (have H2_ := (Option.bind_some _ _).symm.trans H; with_reducible exact H2_) | with_reducible exact H | (rw [hy491]; exact H) | exact H
        have Ny491 := Aside0.mk hy491
        clear hy491
        replace H := Option.bind_eq_some_iff.mp H
        obtain ⟨t494, A110, H⟩ := H
        replace H : (portolanref12_Close.l0 k1 l1 t494 (wrap64 (x6_1 + 1)) l0_0 l0_1 a0_2 a0_3 l0_4) = some r := H
        have A11 := Aside0.mk A110
        clear A110
        have H' := Aside0.mk H
        clear H
        obtain ⟨hcz12_0, hcz12_1, hcz12_2, hcz12_3, hcz12_4⟩ := bk5 BK478.out
        have hfz12_0 := bf BK478.out
        go_wp2_with (first | ((with_reducible refine gate_callee (f := 30) rfl ?_); refine goesL_ (some 16) rfl rfl Tryd.func30 (by kernel_rfl) rfl #[.slice A1 l1.length c1, .int .i64 x6_1] rfl (by (try simp only [List.map_toArray, List.map_cons, List.map_nil]); first | done | rfl) ?_; (with_reducible refine (portolanref02_Has.calls _ _ l1 x6_1 true _ ?side1 ?side2 A5.out).mono ?_); (case side1 => exact Kd.Cx (Kd.C_below HR1.out HB.out)); (case side2 => exact HC1.out); rintro e w' ⟨rfl, ⟨nd, rfl⟩⟩; refine ⟨_, rfl, ?_⟩) | ((with_reducible refine gate_dst (N := 20) rfl ?_); refine Kd.R_lit (Kd.int .i64) _ 3 ?hg (N := 20) ?hd (xs := ([x6_1] : List Int)) (inner := [.int .i64 x6_1]) (ok := fun _ => True) (okp := fun _ => True) ?hr ?hp (fun _ hk => hk) trivial (Below.refl _ _) (Nat.le_refl _) (by simp) ?_; (case hd => rfl); (case hg => rfl); (case hr => first | (go_simp; done) | (go_simp; rfl)); (case hp => exact (Reps.one (show Kd.M (Kd.int .i64) _ _ _ x6_1 [.int .i64 x6_1] from rfl) (Reps.none _ _))); intro v484 w13 ho14 hb hg_ hnew_; clear hg_ hnew_; (first | rw [← Ny483.out] at ho14 | (simp only [Int.reduceToNat] at ho14; rw [← Ny483.out] at ho14)); replace HO_5 := Aside0.mk (Kd.R_below (Kd.Rx HO_5.out) hb); have HO485 := Aside0.mk (Kd.R_lower ho14 (below_size (bl HB))); replace BK478 := Aside0.mk (blk_below (bx BK478.out) hb); replace HB := Aside0.mk (below_step (bl HB) hb); clear hb ho14; obtain ⟨Ao15, co15, eo15⟩ := Kd.R_slice HO_5.out; subst eo15; obtain ⟨Ao16, co16, eo16⟩ := Kd.R_slice HO485.out; subst eo16) | ((with_reducible refine gate_callee (f := 18) rfl ?_); refine goesL_ (some 21) rfl rfl Tryd.func18 (by kernel_rfl) rfl #[.slice Ao15 x5_1.length co15, .slice Ao16 y483.length co16] rfl (by (try simp only [List.map_toArray, List.map_cons, List.map_nil]); first | done | rfl) ?_; (with_reducible refine (portolanref02_With.calls k1 (fun k_ => some k_ = (.slice Ao15 x5_1.length co15 : Value).ownBlock) _ _ x5_1 _ _ y483 t486 _ ?side1 ?side2 ?side3 A7.out).mono ?_); (case side1 => exact Kd.R_V (Kd.R_tight rfl (Kd.R_types (Kd.R_apart' (HO_5.out) (Kd.R_typed HO485.out) (by decide)) BK478.out (by decide)))); (case side2 => exact Kd.Cx ((Kd.R_reads' HO485.out).2.2)); (case side3 => exact (Kd.R_reads' HO485.out).2.1); rintro e w17 ⟨v487, rfl, ho0, hb⟩; refine ⟨_, rfl, ?_⟩; replace HO485 := Aside0.mk (Kd.R_below (Kd.Rx HO485.out) hb); have HO488 := Aside0.mk (Kd.R_lower (Kd.R_new' (Kd.R_mono (ok' := fun k_ => True) ho0 (fun _ hk_ => trivial)) (Kd.R_lt (Kd.Rx HO_5.out))) (below_size (bl HB))); replace HO_5 := Aside0.mk (Kd.R_elder' (Kd.Rx HO_5.out) (Kd.R_base ho0) hb); replace BK478 := Aside0.mk (blk_below (bx BK478.out) hb); replace HB := Aside0.mk (below_step (bl HB) hb); (try clear hb); (try clear hb2); (try clear hk); (try clear hi); (try clear ho0); obtain ⟨hcz18_0, hcz18_1, hcz18_2, hcz18_3, hcz18_4⟩ := bk5 BK478.out; have hfz18_0 := bf BK478.out; have p489 : 0 ≤ (x6_1 : Int) := of_decide_eq_true (by assumption); have q489 : x6_1 < (l0_0.length : Int) := of_decide_eq_true (by assumption); obtain ⟨ad489, e489, hx489_0⟩ := Kd.at_int HR0_0.out x6_1 p489 q489; cases e489; replace hx489_0 := (HB.out.cell (World.block_lt_of_cell? w _ hx489_0)).trans hx489_0; replace p489 := eq_true p489; replace q489 := eq_true q489; have p490 : 0 ≤ (x6_1 : Int) := of_decide_eq_true (by assumption); have q490 : x6_1 < (l0_1.length : Int) := of_decide_eq_true (by assumption); obtain ⟨ad490, e490, hx490_0⟩ := Kd.at_int HR0_1.out x6_1 p490 q490; cases e490; replace hx490_0 := (HB.out.cell (World.block_lt_of_cell? w _ hx490_0)).trans hx490_0; replace p490 := eq_true p490; replace q490 := eq_true q490) | ((with_reducible refine gate_dst (N := 34) rfl ?_); refine Kd.R_lit (Kd.int .i64) _ 3 ?hg (N := 34) ?hd (xs := ([rd l0_1 x6_1] : List Int)) (inner := [.int .i64 (rd l0_1 x6_1)]) (ok := fun _ => True) (okp := fun _ => True) ?hr ?hp (fun _ hk => hk) trivial (Below.refl _ _) (Nat.le_refl _) (by simp) ?_; (case hd => rfl); (case hg => rfl); (case hr => first | (go_simp; done) | (go_simp; rfl)); (case hp => exact (Reps.one (show Kd.M (Kd.int .i64) _ _ _ (rd l0_1 x6_1) [.int .i64 (rd l0_1 x6_1)] from rfl) (Reps.none _ _))); intro v492 w19 ho20 hb hg_ hnew_; clear hg_ hnew_; (first | rw [← Ny491.out] at ho20 | (simp only [Int.reduceToNat] at ho20; rw [← Ny491.out] at ho20)); replace HO_5 := Aside0.mk (Kd.R_below (Kd.Rx HO_5.out) hb); replace HO488 := Aside0.mk (Kd.R_below (Kd.Rx HO488.out) hb); have HO493 := Aside0.mk (Kd.R_lower (Kd.R_new' ho20 (Kd.R_lt (Kd.Rx HO485.out))) (below_size (bl HB))); replace HO485 := Aside0.mk (Kd.R_elder' (Kd.Rx HO485.out) (Kd.R_base ho20) hb); replace BK478 := Aside0.mk (blk_below (bx BK478.out) hb); replace HB := Aside0.mk (below_step (bl HB) hb); clear hb ho20; obtain ⟨Ao21, co21, eo21⟩ := Kd.R_slice HO488.out; subst eo21; obtain ⟨Ao22, co22, eo22⟩ := Kd.R_slice HO493.out; subst eo22) | ((with_reducible refine gate_callee (f := 18) rfl ?_); refine goesL_ (some 35) rfl rfl Tryd.func18 (by kernel_rfl) rfl #[.slice Ao21 t486.length co21, .slice Ao22 y491.length co22] rfl (by (try simp only [List.map_toArray, List.map_cons, List.map_nil]); first | done | rfl) ?_; (with_reducible refine (portolanref02_With.calls k1 (fun k_ => some k_ = (.slice Ao21 t486.length co21 : Value).ownBlock) _ _ t486 _ _ y491 t494 _ ?side1 ?side2 ?side3 A11.out).mono ?_); (case side1 => exact Kd.R_V (Kd.R_tight rfl (Kd.R_types (Kd.R_apart' (Kd.R_apart' (HO488.out) (Kd.R_typed HO485.out) (by decide)) (Kd.R_typed HO493.out) (by decide)) BK478.out (by decide)))); (case side2 => exact Kd.Cx ((Kd.R_reads' HO493.out).2.2)); (case side3 => exact (Kd.R_reads' HO493.out).2.1); rintro e w23 ⟨v495, rfl, ho0, hb⟩; refine ⟨_, rfl, ?_⟩; replace HO485 := Aside0.mk (Kd.R_below (Kd.Rx HO485.out) hb); replace HO493 := Aside0.mk (Kd.R_below (Kd.Rx HO493.out) hb); have HO496 := Aside0.mk (Kd.R_lower (Kd.R_new' (Kd.R_new' (Kd.R_mono (ok' := fun k_ => True) ho0 (fun _ hk_ => trivial)) (Kd.R_lt (Kd.Rx HO_5.out))) (Kd.R_lt (Kd.Rx HO488.out))) (below_size (bl HB))); replace HO_5 := Aside0.mk (Kd.R_elder' (Kd.Rx HO_5.out) (Kd.R_base ho0) hb); replace HO488 := Aside0.mk (Kd.R_elder' (Kd.Rx HO488.out) (Kd.R_base ho0) hb); replace BK478 := Aside0.mk (blk_below (bx BK478.out) hb); replace HB := Aside0.mk (below_step (bl HB) hb); (try clear hb); (try clear hb2); (try clear hk); (try clear hi); (try clear ho0)))
        go_roundg k1
        case measure => have := HK1.out; omega
        case rel => exact ⟨(t494), (wrap64 (x6_1 + 1)), (by first | rfl | (simp; done) | (simp [*]; done)), H', ⟨by have := HK1.out; omega⟩, ⟨by (with_reducible repeat (first | apply Kd.R_alloc | apply Kd.R_drewN | apply Kd.R_drew)); exact Kd.R_mono HO496.out (fun _ hk => trivial)⟩, ⟨bx BK478.out⟩, ⟨bl HB⟩⟩
       rw [if_neg c10] at H
       exact absurd H (by simp)
      rw [if_neg c9] at H
      have c9b0 : ((rd l0_0 x6_1) == 2) = false := beq_eq_false_iff_ne.mpr c9
      have c9b1 : ((rd l0_0 x6_1) != 2) = true := bne_iff_ne.mpr c9
      have H' := Aside0.mk H
      clear H
      obtain ⟨hcz24_0, hcz24_1, hcz24_2, hcz24_3, hcz24_4⟩ := bk5 BK478.out
      have hfz24_0 := bf BK478.out
      go_wp2_with (first | ((with_reducible refine gate_callee (f := 30) rfl ?_); refine goesL_ (some 16) rfl rfl Tryd.func30 (by kernel_rfl) rfl #[.slice A1 l1.length c1, .int .i64 x6_1] rfl (by (try simp only [List.map_toArray, List.map_cons, List.map_nil]); first | done | rfl) ?_; (with_reducible refine (portolanref02_Has.calls _ _ l1 x6_1 true _ ?side1 ?side2 A5.out).mono ?_); (case side1 => exact Kd.Cx (Kd.C_below HR1.out HB.out)); (case side2 => exact HC1.out); rintro e w' ⟨rfl, ⟨nd, rfl⟩⟩; refine ⟨_, rfl, ?_⟩) | ((with_reducible refine gate_dst (N := 20) rfl ?_); refine Kd.R_lit (Kd.int .i64) _ 3 ?hg (N := 20) ?hd (xs := ([x6_1] : List Int)) (inner := [.int .i64 x6_1]) (ok := fun _ => True) (okp := fun _ => True) ?hr ?hp (fun _ hk => hk) trivial (Below.refl _ _) (Nat.le_refl _) (by simp) ?_; (case hd => rfl); (case hg => rfl); (case hr => first | (go_simp; done) | (go_simp; rfl)); (case hp => exact (Reps.one (show Kd.M (Kd.int .i64) _ _ _ x6_1 [.int .i64 x6_1] from rfl) (Reps.none _ _))); intro v484 w25 ho26 hb hg_ hnew_; clear hg_ hnew_; (first | rw [← Ny483.out] at ho26 | (simp only [Int.reduceToNat] at ho26; rw [← Ny483.out] at ho26)); replace HO_5 := Aside0.mk (Kd.R_below (Kd.Rx HO_5.out) hb); have HO485 := Aside0.mk (Kd.R_lower ho26 (below_size (bl HB))); replace BK478 := Aside0.mk (blk_below (bx BK478.out) hb); replace HB := Aside0.mk (below_step (bl HB) hb); clear hb ho26; obtain ⟨Ao27, co27, eo27⟩ := Kd.R_slice HO_5.out; subst eo27; obtain ⟨Ao28, co28, eo28⟩ := Kd.R_slice HO485.out; subst eo28) | ((with_reducible refine gate_callee (f := 18) rfl ?_); refine goesL_ (some 21) rfl rfl Tryd.func18 (by kernel_rfl) rfl #[.slice Ao27 x5_1.length co27, .slice Ao28 y483.length co28] rfl (by (try simp only [List.map_toArray, List.map_cons, List.map_nil]); first | done | rfl) ?_; (with_reducible refine (portolanref02_With.calls k1 (fun k_ => some k_ = (.slice Ao27 x5_1.length co27 : Value).ownBlock) _ _ x5_1 _ _ y483 t486 _ ?side1 ?side2 ?side3 A7.out).mono ?_); (case side1 => exact Kd.R_V (Kd.R_tight rfl (Kd.R_types (Kd.R_apart' (HO_5.out) (Kd.R_typed HO485.out) (by decide)) BK478.out (by decide)))); (case side2 => exact Kd.Cx ((Kd.R_reads' HO485.out).2.2)); (case side3 => exact (Kd.R_reads' HO485.out).2.1); rintro e w29 ⟨v487, rfl, ho0, hb⟩; refine ⟨_, rfl, ?_⟩; replace HO485 := Aside0.mk (Kd.R_below (Kd.Rx HO485.out) hb); have HO488 := Aside0.mk (Kd.R_lower (Kd.R_new' (Kd.R_mono (ok' := fun k_ => True) ho0 (fun _ hk_ => trivial)) (Kd.R_lt (Kd.Rx HO_5.out))) (below_size (bl HB))); replace HO_5 := Aside0.mk (Kd.R_elder' (Kd.Rx HO_5.out) (Kd.R_base ho0) hb); replace BK478 := Aside0.mk (blk_below (bx BK478.out) hb); replace HB := Aside0.mk (below_step (bl HB) hb); (try clear hb); (try clear hb2); (try clear hk); (try clear hi); (try clear ho0); obtain ⟨hcz30_0, hcz30_1, hcz30_2, hcz30_3, hcz30_4⟩ := bk5 BK478.out; have hfz30_0 := bf BK478.out; have p489 : 0 ≤ (x6_1 : Int) := of_decide_eq_true (by assumption); have q489 : x6_1 < (l0_0.length : Int) := of_decide_eq_true (by assumption); obtain ⟨ad489, e489, hx489_0⟩ := Kd.at_int HR0_0.out x6_1 p489 q489; cases e489; replace hx489_0 := (HB.out.cell (World.block_lt_of_cell? w _ hx489_0)).trans hx489_0; replace p489 := eq_true p489; replace q489 := eq_true q489))
      go_roundg k1
      case measure => have := HK1.out; omega
      case rel => exact ⟨(t486), (wrap64 (x6_1 + 1)), (by first | rfl | (simp; done) | (simp [*]; done)), H', ⟨by have := HK1.out; omega⟩, ⟨by (with_reducible repeat (first | apply Kd.R_alloc | apply Kd.R_drewN | apply Kd.R_drew)); exact Kd.R_mono HO488.out (fun _ hk => trivial)⟩, ⟨bx BK478.out⟩, ⟨bl HB⟩⟩
     rw [if_neg c8] at H
     exact absurd H (by simp)
    replace c6 := Bool.eq_false_iff.mpr c6
    subst c6
    have H1 : (portolanref12_Close.l0 k1 l1 x5_1 (wrap64 (x6_1 + 1)) l0_0 l0_1 a0_2 a0_3 l0_4) = some r := by rw [if_neg (show ¬ (false = true) by decide)] at H; exact H
    clear H
    have H := H1
    clear H1
    have H' := Aside0.mk H
    clear H
    obtain ⟨hcz31_0, hcz31_1, hcz31_2, hcz31_3, hcz31_4⟩ := bk5 BK478.out
    have hfz31_0 := bf BK478.out
    go_wp2_with (first | ((with_reducible refine gate_callee (f := 30) rfl ?_); refine goesL_ (some 16) rfl rfl Tryd.func30 (by kernel_rfl) rfl #[.slice A1 l1.length c1, .int .i64 x6_1] rfl (by (try simp only [List.map_toArray, List.map_cons, List.map_nil]); first | done | rfl) ?_; (with_reducible refine (portolanref02_Has.calls _ _ l1 x6_1 false _ ?side1 ?side2 A5.out).mono ?_); (case side1 => exact Kd.Cx (Kd.C_below HR1.out HB.out)); (case side2 => exact HC1.out); rintro e w' ⟨rfl, ⟨nd, rfl⟩⟩; refine ⟨_, rfl, ?_⟩))
    go_roundg k1
    case measure => have := HK1.out; omega
    case rel => exact ⟨(x5_1), (wrap64 (x6_1 + 1)), (by first | rfl | (simp; done) | (simp [*]; done)), H', ⟨by have := HK1.out; omega⟩, ⟨Kd.Rx HO_5.out⟩, ⟨bx BK478.out⟩, ⟨bl HB⟩⟩
   rw [if_neg c4] at H
   have c4b0 : decide (x6_1 < (l0_0.length : Int)) = false := decide_eq_false c4
   clear c4
   replace H := Option.bind_eq_some_iff.mp H
   obtain ⟨t479, A320, H⟩ := H
   replace H : (some t479) = some r := H
   have A32 := Aside0.mk A320
   clear A320
   obtain rfl := Option.some.inj H
   obtain ⟨hcz33_0, hcz33_1, hcz33_2, hcz33_3, hcz33_4⟩ := bk5 BK478.out
   have hfz33_0 := bf BK478.out
   obtain ⟨Ao34, co34, eo34⟩ := Kd.R_slice HO_5.out
   subst eo34
   go_wp2_with (first | ((with_reducible refine gate_callee (f := 44) rfl ?_); refine goesL_ (some 37) rfl rfl Tryd.func44 (by kernel_rfl) rfl #[.slice Ao34 x5_1.length co34] rfl (by (try simp only [List.map_toArray, List.map_cons, List.map_nil]); first | done | rfl) ?_; (with_reducible refine (portolanref02_Neat.calls _ _ x5_1 t479 _ ?side1 ?side2 A32.out).mono ?_); (case side1 => exact Kd.Cx ((Kd.R_reads' HO_5.out).2.2)); (case side2 => exact (Kd.R_reads' HO_5.out).2.1); rintro e w35 ⟨v480, rfl, ho0, hb⟩; refine ⟨_, rfl, ?_⟩; have HO481 := Aside0.mk (Kd.R_lower (Kd.R_new' ho0 (Kd.R_lt (Kd.Rx HO_5.out))) (below_size (bl HB))); replace HO_5 := Aside0.mk (Kd.R_elder' (Kd.Rx HO_5.out) (Kd.R_base ho0) hb); replace BK478 := Aside0.mk (blk_below (bx BK478.out) hb); replace HB := Aside0.mk (below_step (bl HB) hb); (try clear hb); (try clear hb2); (try clear hk); (try clear hi); (try clear ho0)))
   go_ret
   exact ⟨_, by first | rfl | (simp [errW_none, errW_some] <;> rfl) | (simp [*, errW_none, errW_some] <;> rfl), by (with_reducible repeat (first | apply Kd.R_alloc | apply Kd.R_drewN | apply Kd.R_drew)); exact Kd.R_mono HO481.out (fun _ hk => trivial), bl HB⟩
end Go.Proofs.YtdmimhjmbdkhmaaDoor.X
