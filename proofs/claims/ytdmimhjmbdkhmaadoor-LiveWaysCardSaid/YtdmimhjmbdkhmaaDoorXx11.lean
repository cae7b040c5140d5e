/- Part of a proof about the Go function named in the last text of this claim. -/
import Derived.Test.YtdmimhjmbdkhmaaDoorZw
import Derived.Test.YtdmimhjmbdkhmaaDoorXx0
import Derived.Test.YtdmimhjmbdkhmaaDoorXx6
import Derived.Test.YtdmimhjmbdkhmaaDoorXx8
import Derived.Test.YtdmimhjmbdkhmaaDoorXx10
import Derived.Test.YtdmimhjmbdkhmaaDoorZg
set_option linter.unusedVariables false
set_option linter.unusedSimpArgs false
namespace Go.Proofs.YtdmimhjmbdkhmaaDoor.X
open Go.RowKit Go.Proofs.YtdmimhjmbdkhmaaDoorW.PrintWords Go.Proofs.YtdmimhjmbdkhmaaDoorW.PrintLast Go.Proofs.YtdmimhjmbdkhmaaDoorW.PrintMore
attribute [local go_sem] max2_int min2_int max_two min_two max_three min_three max_four min_four
set_option linter.unusedVariables false
set_option linter.unusedSimpArgs false
def portolanlaw11_out.l0 : Nat → Int → Int → List (S30) → Option (Bool)
 | 0, _, _, _ => none
 | k + 1, x3, x4, x395000 => if x4 < (x395000.length : Int) then (if x4 < 9 then (if 0 ≤ x4 then (portolanlaw11_out.l0 k (mx (mx x3 (((rd_T30 x395000 x4).f4).length : Int)) (wrap64 ((((rd_T30 x395000 x4).f0).length : Int) / 2))) (wrap64 (x4 + 1)) x395000) else (none)) else (if x3 > 16 then (some true) else ((portolanref03_Great.f k x395000).bind fun t397 => (if t397 = true then (some true) else ((portolanref04_Check.f k x395000).bind fun t398 => (some (t398 != 0))))))) else (if x3 > 16 then (some true) else ((portolanref03_Great.f k x395000).bind fun t399 => (if t399 = true then (some true) else ((portolanref04_Check.f k x395000).bind fun t400 => (some (t400 != 0))))))
def portolanlaw11_out.f (k : Nat) (l0_0 : List (S30)) : Option (Bool) := portolanlaw11_out.l0 k 0 0 l0_0
set_option maxHeartbeats 8000000 in
set_option maxRecDepth 100000 in
theorem portolanlaw11_out.calls (k : Nat) (A0_0 : Option Addr) (c0_0 : Nat) (l0_0 : List (S30)) (r : Bool) (w : World) (hr0_0 : Kd.C k30 w A0_0 l0_0.length l0_0) (hc0_0 : l0_0.length ≤ c0_0) (h : portolanlaw11_out.f k l0_0 = some r) :
 Calls Tryd.prog 8 #[.agg #[.slice A0_0 l0_0.length c0_0]] w fun e w' => e = .returned (.bool r) ∧ Below w.heap.size w w' := by
 have hu24 := Tryd.underlying24
 have HR0_0 := Aside0.mk hr0_0
 have HC0_0 := Aside0.mk hc0_0
 clear hr0_0 hc0_0
 have HB := Aside0.mk (Below.refl w.heap.size w)
 have H : (portolanlaw11_out.l0 k 0 0 l0_0) = some r := h
 clear h
 have H' := Aside0.mk H
 clear H
 go_enter Tryd.func8, Tryd.ntmps8
 go_wp2_with (first | ((with_reducible refine gate_dst (N := 1) rfl ?_); refine box_event ?hg (N := 1) ?hd (cs := #[.slice A0_0 l0_0.length c0_0]) (t := 24) ?hr ?_; (case hd => rfl); (case hg => rfl); (case hr => first | (go_simp; done) | (go_simp; rfl)); intro gb394 hg w2 hbox hb; have BK394 := Aside0.mk (hbox); have GW394 := ge hg (bl HB); have GE394 := ge hg (bl HB); replace HB := Aside0.mk (below_step (bl HB) hb); clear hb hbox hg))
 repeat (go_quiet (first | ((with_reducible refine gate_dst (N := 1) rfl ?_); refine box_event ?hg (N := 1) ?hd (cs := #[.slice A0_0 l0_0.length c0_0]) (t := 24) ?hr ?_; (case hd => rfl); (case hg => rfl); (case hr => first | (go_simp; done) | (go_simp; rfl)); intro gb394 hg w2 hbox hb; have BK394 := Aside0.mk (hbox); have GW394 := ge hg (bl HB); have GE394 := ge hg (bl HB); replace HB := Aside0.mk (below_step (bl HB) hb); clear hb hbox hg)); try go_wp2_with (first | ((with_reducible refine gate_dst (N := 1) rfl ?_); refine box_event ?hg (N := 1) ?hd (cs := #[.slice A0_0 l0_0.length c0_0]) (t := 24) ?hr ?_; (case hd => rfl); (case hg => rfl); (case hr => first | (go_simp; done) | (go_simp; rfl)); intro gb394 hg w2 hbox hb; have BK394 := Aside0.mk (hbox); have GW394 := ge hg (bl HB); have GE394 := ge hg (bl HB); replace HB := Aside0.mk (below_step (bl HB) hb); clear hb hbox hg)))
 go_loopg [3, 4] k (fun kq v3 v4 w' => ∃ (x3_1 : Int) (x4_1 : Int), v3 = .int .i64 x3_1 ∧ v4 = .int .i64 x4_1 ∧ Aside0 (portolanlaw11_out.l0 kq x3_1 x4_1 l0_0 = some r) ∧ Aside0 (kq ≤ k) ∧ Aside0 (w'.heap[gb394]? = some (.cells #[(.slice A0_0 l0_0.length c0_0)] 24 (0, 0))) ∧ Aside0 (Below w.heap.size w w'))
 case atStart => exact ⟨(0), (0), (by first | rfl | (simp; done) | (simp [*]; done)), (by first | rfl | (simp; done) | (simp [*]; done)), H', ⟨Nat.le_refl _⟩, ⟨bx BK394.out⟩, ⟨bl HB⟩⟩
 case round =>
  clear H'
  try clear p2
  obtain ⟨x3_1, x4_1, rfl, rfl, HA, HK1, BK394, HB⟩ := hrel
  cases gk with
  | zero => exact absurd HA.out (by simp [portolanlaw11_out.l0])
  | succ k1 =>
   have H := HA.out
   clear HA
   simp only [portolanlaw11_out.l0] at H
   by_cases c3 : x4_1 < (l0_0.length : Int)
   ·
    rw [if_pos c3] at H
    have c3b0 : decide (x4_1 < (l0_0.length : Int)) = true := decide_eq_true c3
    clear c3
    by_cases c4 : x4_1 < 9
    ·
     rw [if_pos c4] at H
     have c4b0 : decide (x4_1 < 9) = true := decide_eq_true c4
     clear c4
     by_cases c5 : 0 ≤ x4_1
     ·
      rw [if_pos c5] at H
      have c5b0 : decide (0 ≤ x4_1) = true := decide_eq_true c5
      clear c5
      obtain ⟨ji6, hji6⟩ : ∃ j_ : Int, (mx x3_1 (((rd_T30 l0_0 x4_1).f4).length : Int)) = j_ := ⟨_, rfl⟩
      replace H : (portolanlaw11_out.l0 k1 (mx (ji6) (wrap64 ((((rd_T30 l0_0 x4_1).f0).length : Int) / 2))) (wrap64 (x4_1 + 1)) l0_0) = some r := by first | (rw [hji6] at H; exact H) | (simp only [hji6] at H ⊢; exact H)
      have hji6_ : (if x3_1 < (((rd_T30 l0_0 x4_1).f4).length : Int) then (((rd_T30 l0_0 x4_1).f4).length : Int) else x3_1) = ji6 := hji6
      obtain ⟨ji7, hji7⟩ : ∃ j_ : Int, (mx (ji6) (wrap64 ((((rd_T30 l0_0 x4_1).f0).length : Int) / 2))) = j_ := ⟨_, rfl⟩
      replace H : (portolanlaw11_out.l0 k1 ji7 (wrap64 (x4_1 + 1)) l0_0) = some r := by first | (rw [hji7] at H; exact H) | (simp only [hji7] at H ⊢; exact H)
      have hji7_ : (if (ji6) < (wrap64 ((((rd_T30 l0_0 x4_1).f0).length : Int) / 2)) then (wrap64 ((((rd_T30 l0_0 x4_1).f0).length : Int) / 2)) else (ji6)) = ji7 := hji7
      have H' := Aside0.mk H
      clear H
      have hcz8_0 := bk1 BK394.out
      have hfz8_0 := bf BK394.out
      have p395 : 0 ≤ (x4_1 : Int) := of_decide_eq_true (by assumption)
      have q395 : x4_1 < (l0_0.length : Int) := of_decide_eq_true (by assumption)
      obtain ⟨ad395, A395_0, c395_0, A395_1, c395_1, A395_4, c395_4, e395, hx395_0, hx395_1, hx395_2, hx395_3, hx395_4, hl395_0, hi395_0, hl395_1, hi395_1, hl395_4, hi395_4⟩ := at_T30 HR0_0.out x4_1 p395 q395
      cases e395
      replace hx395_0 := (HB.out.cell (World.block_lt_of_cell? w _ hx395_0)).trans hx395_0
      replace hx395_1 := (HB.out.cell (World.block_lt_of_cell? w _ hx395_1)).trans hx395_1
      replace hx395_2 := (HB.out.cell (World.block_lt_of_cell? w _ hx395_2)).trans hx395_2
      replace hx395_3 := (HB.out.cell (World.block_lt_of_cell? w _ hx395_3)).trans hx395_3
      replace hx395_4 := (HB.out.cell (World.block_lt_of_cell? w _ hx395_4)).trans hx395_4
      have HR395_0 := Aside0.mk hi395_0
      have HC395_0 := Aside0.mk hl395_0
      clear hi395_0 hl395_0
      have HR395_1 := Aside0.mk hi395_1
      have HC395_1 := Aside0.mk hl395_1
      clear hi395_1 hl395_1
      have HR395_4 := Aside0.mk hi395_4
      have HC395_4 := Aside0.mk hl395_4
      clear hi395_4 hl395_4
      replace p395 := eq_true p395
      replace q395 := eq_true q395
      have p396 : 0 ≤ (x4_1 : Int) := of_decide_eq_true (by assumption)
      have q396 : x4_1 < (l0_0.length : Int) := of_decide_eq_true (by assumption)
      obtain ⟨ad396, A396_0, c396_0, A396_1, c396_1, A396_4, c396_4, e396, hx396_0, hx396_1, hx396_2, hx396_3, hx396_4, hl396_0, hi396_0, hl396_1, hi396_1, hl396_4, hi396_4⟩ := at_T30 HR0_0.out x4_1 p396 q396
      obtain rfl : ad395 = ad396 := (by injection e396)
      replace hx396_0 := (HB.out.cell (World.block_lt_of_cell? w _ hx396_0)).trans hx396_0
      replace hx396_1 := (HB.out.cell (World.block_lt_of_cell? w _ hx396_1)).trans hx396_1
      replace hx396_2 := (HB.out.cell (World.block_lt_of_cell? w _ hx396_2)).trans hx396_2
      replace hx396_3 := (HB.out.cell (World.block_lt_of_cell? w _ hx396_3)).trans hx396_3
      replace hx396_4 := (HB.out.cell (World.block_lt_of_cell? w _ hx396_4)).trans hx396_4
      have HR396_0 := Aside0.mk hi396_0
      have HC396_0 := Aside0.mk hl396_0
      clear hi396_0 hl396_0
      have HR396_1 := Aside0.mk hi396_1
      have HC396_1 := Aside0.mk hl396_1
      clear hi396_1 hl396_1
      have HR396_4 := Aside0.mk hi396_4
      have HC396_4 := Aside0.mk hl396_4
      clear hi396_4 hl396_4
      replace p396 := eq_true p396
      replace q396 := eq_true q396
      have ea_ := Option.some.inj (hx395_0.symm.trans hx396_0)
      injection ea_ with ea_ en_ ec_
      subst ea_
      subst ec_
      clear en_
      have ea_ := Option.some.inj (hx395_1.symm.trans hx396_1)
      injection ea_ with ea_ en_ ec_
      subst ea_
      subst ec_
      clear en_
      have ea_ := Option.some.inj (hx395_4.symm.trans hx396_4)
      injection ea_ with ea_ en_ ec_
      subst ea_
      subst ec_
      clear en_
      go_wp2
      repeat (go_quiet (fail); try go_wp2)
      go_roundg k1
      case measure => have := HK1.out; omega
      case rel => exact ⟨(ji7), (wrap64 (x4_1 + 1)), (by first | rfl | (simp; done) | (simp only [← hji7] <;> (first | rfl | simp)) | (simp [*]; done)), (by first | rfl | (simp; done) | (simp [*]; done)), H', ⟨by have := HK1.out; omega⟩, ⟨bx BK394.out⟩, ⟨bl HB⟩⟩
     rw [if_neg c5] at H
     exact absurd H (by simp)
    rw [if_neg c4] at H
    have c4b0 : decide (x4_1 < 9) = false := decide_eq_false c4
    clear c4
    by_cases c9 : x3_1 > 16
    ·
     rw [if_pos c9] at H
     have c9b0 : decide (16 < x3_1) = true := decide_eq_true c9
     clear c9
     obtain rfl := Option.some.inj H
     have hcz10_0 := bk1 BK394.out
     have hfz10_0 := bf BK394.out
     go_wp2
     repeat (go_quiet (fail); try go_wp2)
     go_ret
     exact ⟨by first | rfl | (simp [errW_none, errW_some] <;> rfl) | (simp [*, errW_none, errW_some] <;> rfl), bl HB⟩
    rw [if_neg c9] at H
    have c9b0 : decide (16 < x3_1) = false := decide_eq_false c9
    clear c9
    replace H := Option.bind_eq_some_iff.mp H
    obtain ⟨t397, A110, H⟩ := H
    replace H : (if t397 = true then (some true) else ((portolanref04_Check.f k1 l0_0).bind fun t398 => (some (t398 != 0)))) = some r := H
    have A11 := Aside0.mk A110
    clear A110
    by_cases c12 : t397 = true
    ·
     subst c12
     have H1 : (some true) = some r := by rw [if_pos rfl] at H; exact H
     clear H
     have H := H1
     clear H1
     obtain rfl := Option.some.inj H
     have hcz13_0 := bk1 BK394.out
     have hfz13_0 := bf BK394.out
     go_wp2_with (first | (go_at_call 34; (with_reducible refine (portolanref03_Great.calls k1 _ _ l0_0 true _ ?side1 ?side2 A11.out).mono ?_); (case side1 => exact Kd.Cx (Kd.C_below HR0_0.out HB.out)); (case side2 => exact HC0_0.out); rintro e w14 ⟨rfl, hb⟩; replace BK394 := Aside0.mk (blk_below (bx BK394.out) hb); replace HB := Aside0.mk (below_step (bl HB) hb); (try clear hb); (try clear hb2); (try clear hk); (try clear hi)))
     repeat (go_quiet (first | (go_at_call 34; (with_reducible refine (portolanref03_Great.calls k1 _ _ l0_0 true _ ?side1 ?side2 A11.out).mono ?_); (case side1 => exact Kd.Cx (Kd.C_below HR0_0.out HB.out)); (case side2 => exact HC0_0.out); rintro e w14 ⟨rfl, hb⟩; replace BK394 := Aside0.mk (blk_below (bx BK394.out) hb); replace HB := Aside0.mk (below_step (bl HB) hb); (try clear hb); (try clear hb2); (try clear hk); (try clear hi))); try go_wp2_with (first | (go_at_call 34; (with_reducible refine (portolanref03_Great.calls k1 _ _ l0_0 true _ ?side1 ?side2 A11.out).mono ?_); (case side1 => exact Kd.Cx (Kd.C_below HR0_0.out HB.out)); (case side2 => exact HC0_0.out); rintro e w14 ⟨rfl, hb⟩; replace BK394 := Aside0.mk (blk_below (bx BK394.out) hb); replace HB := Aside0.mk (below_step (bl HB) hb); (try clear hb); (try clear hb2); (try clear hk); (try clear hi))))
     go_ret
     exact ⟨by first | rfl | (simp [errW_none, errW_some] <;> rfl) | (simp [*, errW_none, errW_some] <;> rfl), bl HB⟩
    replace c12 := Bool.eq_false_iff.mpr c12
    subst c12
    have H1 : ((portolanref04_Check.f k1 l0_0).bind fun t398 => (some (t398 != 0))) = some r := by rw [if_neg (show ¬ (false = true) by decide)] at H; exact H
    clear H
    have H := H1
    clear H1
    replace H := Option.bind_eq_some_iff.mp H
    obtain ⟨t398, A150, H⟩ := H
    replace H : (some (t398 != 0)) = some r := H
    have A15 := Aside0.mk A150
    clear A150
    obtain rfl := Option.some.inj H
    have hcz16_0 := bk1 BK394.out
    have hfz16_0 := bf BK394.out
    go_wp2_with (first | (go_at_call 34; (with_reducible refine (portolanref03_Great.calls k1 _ _ l0_0 false _ ?side1 ?side2 A11.out).mono ?_); (case side1 => exact Kd.Cx (Kd.C_below HR0_0.out HB.out)); (case side2 => exact HC0_0.out); rintro e w17 ⟨rfl, hb⟩; replace BK394 := Aside0.mk (blk_below (bx BK394.out) hb); replace HB := Aside0.mk (below_step (bl HB) hb); (try clear hb); (try clear hb2); (try clear hk); (try clear hi); have hcz18_0 := bk1 BK394.out; have hfz18_0 := bf BK394.out) | (go_at_call 35; (with_reducible refine (portolanref04_Check.calls k1 _ _ l0_0 t398 _ ?side1 ?side2 A15.out).mono ?_); (case side1 => exact Kd.Cx (Kd.C_below HR0_0.out HB.out)); (case side2 => exact HC0_0.out); rintro e w19 ⟨rfl, hb⟩; replace BK394 := Aside0.mk (blk_below (bx BK394.out) hb); replace HB := Aside0.mk (below_step (bl HB) hb); (try clear hb); (try clear hb2); (try clear hk); (try clear hi)))
    repeat (go_quiet (first | (go_at_call 34; (with_reducible refine (portolanref03_Great.calls k1 _ _ l0_0 false _ ?side1 ?side2 A11.out).mono ?_); (case side1 => exact Kd.Cx (Kd.C_below HR0_0.out HB.out)); (case side2 => exact HC0_0.out); rintro e w17 ⟨rfl, hb⟩; replace BK394 := Aside0.mk (blk_below (bx BK394.out) hb); replace HB := Aside0.mk (below_step (bl HB) hb); (try clear hb); (try clear hb2); (try clear hk); (try clear hi); have hcz18_0 := bk1 BK394.out; have hfz18_0 := bf BK394.out) | (go_at_call 35; (with_reducible refine (portolanref04_Check.calls k1 _ _ l0_0 t398 _ ?side1 ?side2 A15.out).mono ?_); (case side1 => exact Kd.Cx (Kd.C_below HR0_0.out HB.out)); (case side2 => exact HC0_0.out); rintro e w19 ⟨rfl, hb⟩; replace BK394 := Aside0.mk (blk_below (bx BK394.out) hb); replace HB := Aside0.mk (below_step (bl HB) hb); (try clear hb); (try clear hb2); (try clear hk); (try clear hi))); try go_wp2_with (first | (go_at_call 34; (with_reducible refine (portolanref03_Great.calls k1 _ _ l0_0 false _ ?side1 ?side2 A11.out).mono ?_); (case side1 => exact Kd.Cx (Kd.C_below HR0_0.out HB.out)); (case side2 => exact HC0_0.out); rintro e w17 ⟨rfl, hb⟩; replace BK394 := Aside0.mk (blk_below (bx BK394.out) hb); replace HB := Aside0.mk (below_step (bl HB) hb); (try clear hb); (try clear hb2); (try clear hk); (try clear hi); have hcz18_0 := bk1 BK394.out; have hfz18_0 := bf BK394.out) | (go_at_call 35; (with_reducible refine (portolanref04_Check.calls k1 _ _ l0_0 t398 _ ?side1 ?side2 A15.out).mono ?_); (case side1 => exact Kd.Cx (Kd.C_below HR0_0.out HB.out)); (case side2 => exact HC0_0.out); rintro e w19 ⟨rfl, hb⟩; replace BK394 := Aside0.mk (blk_below (bx BK394.out) hb); replace HB := Aside0.mk (below_step (bl HB) hb); (try clear hb); (try clear hb2); (try clear hk); (try clear hi))))
    go_ret
    exact ⟨by first | rfl | (simp [errW_none, errW_some] <;> rfl) | (simp [*, errW_none, errW_some] <;> rfl), bl HB⟩
   rw [if_neg c3] at H
   have c3b0 : decide (x4_1 < (l0_0.length : Int)) = false := decide_eq_false c3
   clear c3
   by_cases c20 : x3_1 > 16
   ·
    rw [if_pos c20] at H
    have c20b0 : decide (16 < x3_1) = true := decide_eq_true c20
    clear c20
    obtain rfl := Option.some.inj H
    have hcz21_0 := bk1 BK394.out
    have hfz21_0 := bf BK394.out
    go_wp2
    repeat (go_quiet (fail); try go_wp2)
    go_ret
    exact ⟨by first | rfl | (simp [errW_none, errW_some] <;> rfl) | (simp [*, errW_none, errW_some] <;> rfl), bl HB⟩
   rw [if_neg c20] at H
   have c20b0 : decide (16 < x3_1) = false := decide_eq_false c20
   clear c20
   replace H := Option.bind_eq_some_iff.mp H
   obtain ⟨t399, A220, H⟩ := H
   replace H : (if t399 = true then (some true) else ((portolanref04_Check.f k1 l0_0).bind fun t400 => (some (t400 != 0)))) = some r := H
   have A22 := Aside0.mk A220
   clear A220
   by_cases c23 : t399 = true
   ·
    subst c23
    have H1 : (some true) = some r := by rw [if_pos rfl] at H; exact H
    clear H
    have H := H1
    clear H1
    obtain rfl := Option.some.inj H
    have hcz24_0 := bk1 BK394.out
    have hfz24_0 := bf BK394.out
    go_wp2_with (first | (go_at_call 34; (with_reducible refine (portolanref03_Great.calls k1 _ _ l0_0 true _ ?side1 ?side2 A22.out).mono ?_); (case side1 => exact Kd.Cx (Kd.C_below HR0_0.out HB.out)); (case side2 => exact HC0_0.out); rintro e w25 ⟨rfl, hb⟩; replace BK394 := Aside0.mk (blk_below (bx BK394.out) hb); replace HB := Aside0.mk (below_step (bl HB) hb); (try clear hb); (try clear hb2); (try clear hk); (try clear hi)))
    repeat (go_quiet (first | (go_at_call 34; (with_reducible refine (portolanref03_Great.calls k1 _ _ l0_0 true _ ?side1 ?side2 A22.out).mono ?_); (case side1 => exact Kd.Cx (Kd.C_below HR0_0.out HB.out)); (case side2 => exact HC0_0.out); rintro e w25 ⟨rfl, hb⟩; replace BK394 := Aside0.mk (blk_below (bx BK394.out) hb); replace HB := Aside0.mk (below_step (bl HB) hb); (try clear hb); (try clear hb2); (try clear hk); (try clear hi))); try go_wp2_with (first | (go_at_call 34; (with_reducible refine (portolanref03_Great.calls k1 _ _ l0_0 true _ ?side1 ?side2 A22.out).mono ?_); (case side1 => exact Kd.Cx (Kd.C_below HR0_0.out HB.out)); (case side2 => exact HC0_0.out); rintro e w25 ⟨rfl, hb⟩; replace BK394 := Aside0.mk (blk_below (bx BK394.out) hb); replace HB := Aside0.mk (below_step (bl HB) hb); (try clear hb); (try clear hb2); (try clear hk); (try clear hi))))
    go_ret
    exact ⟨by first | rfl | (simp [errW_none, errW_some] <;> rfl) | (simp [*, errW_none, errW_some] <;> rfl), bl HB⟩
   replace c23 := Bool.eq_false_iff.mpr c23
   subst c23
   have H1 : ((portolanref04_Check.f k1 l0_0).bind fun t400 => (some (t400 != 0))) = some r := by rw [if_neg (show ¬ (false = true) by decide)] at H; exact H
   clear H
   have H := H1
   clear H1
   replace H := Option.bind_eq_some_iff.mp H
   obtain ⟨t400, A260, H⟩ := H
   replace H : (some (t400 != 0)) = some r := H
   have A26 := Aside0.mk A260
   clear A260
   obtain rfl := Option.some.inj H
   have hcz27_0 := bk1 BK394.out
   have hfz27_0 := bf BK394.out
   go_wp2_with (first | (go_at_call 34; (with_reducible refine (portolanref03_Great.calls k1 _ _ l0_0 false _ ?side1 ?side2 A22.out).mono ?_); (case side1 => exact Kd.Cx (Kd.C_below HR0_0.out HB.out)); (case side2 => exact HC0_0.out); rintro e w28 ⟨rfl, hb⟩; replace BK394 := Aside0.mk (blk_below (bx BK394.out) hb); replace HB := Aside0.mk (below_step (bl HB) hb); (try clear hb); (try clear hb2); (try clear hk); (try clear hi); have hcz29_0 := bk1 BK394.out; have hfz29_0 := bf BK394.out) | (go_at_call 35; (with_reducible refine (portolanref04_Check.calls k1 _ _ l0_0 t400 _ ?side1 ?side2 A26.out).mono ?_); (case side1 => exact Kd.Cx (Kd.C_below HR0_0.out HB.out)); (case side2 => exact HC0_0.out); rintro e w30 ⟨rfl, hb⟩; replace BK394 := Aside0.mk (blk_below (bx BK394.out) hb); replace HB := Aside0.mk (below_step (bl HB) hb); (try clear hb); (try clear hb2); (try clear hk); (try clear hi)))
   repeat (go_quiet (first | (go_at_call 34; (with_reducible refine (portolanref03_Great.calls k1 _ _ l0_0 false _ ?side1 ?side2 A22.out).mono ?_); (case side1 => exact Kd.Cx (Kd.C_below HR0_0.out HB.out)); (case side2 => exact HC0_0.out); rintro e w28 ⟨rfl, hb⟩; replace BK394 := Aside0.mk (blk_below (bx BK394.out) hb); replace HB := Aside0.mk (below_step (bl HB) hb); (try clear hb); (try clear hb2); (try clear hk); (try clear hi); have hcz29_0 := bk1 BK394.out; have hfz29_0 := bf BK394.out) | (go_at_call 35; (with_reducible refine (portolanref04_Check.calls k1 _ _ l0_0 t400 _ ?side1 ?side2 A26.out).mono ?_); (case side1 => exact Kd.Cx (Kd.C_below HR0_0.out HB.out)); (case side2 => exact HC0_0.out); rintro e w30 ⟨rfl, hb⟩; replace BK394 := Aside0.mk (blk_below (bx BK394.out) hb); replace HB := Aside0.mk (below_step (bl HB) hb); (try clear hb); (try clear hb2); (try clear hk); (try clear hi))); try go_wp2_with (first | (go_at_call 34; (with_reducible refine (portolanref03_Great.calls k1 _ _ l0_0 false _ ?side1 ?side2 A22.out).mono ?_); (case side1 => exact Kd.Cx (Kd.C_below HR0_0.out HB.out)); (case side2 => exact HC0_0.out); rintro e w28 ⟨rfl, hb⟩; replace BK394 := Aside0.mk (blk_below (bx BK394.out) hb); replace HB := Aside0.mk (below_step (bl HB) hb); (try clear hb); (try clear hb2); (try clear hk); (try clear hi); have hcz29_0 := bk1 BK394.out; have hfz29_0 := bf BK394.out) | (go_at_call 35; (with_reducible refine (portolanref04_Check.calls k1 _ _ l0_0 t400 _ ?side1 ?side2 A26.out).mono ?_); (case side1 => exact Kd.Cx (Kd.C_below HR0_0.out HB.out)); (case side2 => exact HC0_0.out); rintro e w30 ⟨rfl, hb⟩; replace BK394 := Aside0.mk (blk_below (bx BK394.out) hb); replace HB := Aside0.mk (below_step (bl HB) hb); (try clear hb); (try clear hb2); (try clear hk); (try clear hi))))
   go_ret
   exact ⟨by first | rfl | (simp [errW_none, errW_some] <;> rfl) | (simp [*, errW_none, errW_some] <;> rfl), bl HB⟩
def portolanref05_Next.f (l0_0 : List Int) (l0_1 : List Int) (a0_2 : Int) (a0_3 : Int) (l0_4 : List (S40)) (a1 : Int) : Option (List Int) := if a1 < 0 then (some ([] : List Int)) else (if a1 ≥ (l0_4.length : Int) then (some ([] : List Int)) else (if 0 ≤ a1 then (if a1 < (l0_4.length : Int) then (if (((rd_T40 l0_4 a1).f0).length : Int) = 0 then (some ([] : List Int)) else (if 0 ≤ (wrap64 ((((rd_T40 l0_4 a1).f0).length : Int) - 1)) then (if (wrap64 ((((rd_T40 l0_4 a1).f0).length : Int) - 1)) < (((rd_T40 l0_4 a1).f0).length : Int) then ((portolanref04_Next.f ((rd_T44 ((rd_T40 l0_4 a1).f0) (wrap64 ((((rd_T40 l0_4 a1).f0).length : Int) - 1))).f0) ((rd_T44 ((rd_T40 l0_4 a1).f0) (wrap64 ((((rd_T40 l0_4 a1).f0).length : Int) - 1))).f1) ((rd_T44 ((rd_T40 l0_4 a1).f0) (wrap64 ((((rd_T40 l0_4 a1).f0).length : Int) - 1))).f2) ((rd_T44 ((rd_T40 l0_4 a1).f0) (wrap64 ((((rd_T40 l0_4 a1).f0).length : Int) - 1))).f3) ((rd_T44 ((rd_T40 l0_4 a1).f0) (wrap64 ((((rd_T40 l0_4 a1).f0).length : Int) - 1))).f4) ((rd_T44 ((rd_T40 l0_4 a1).f0) (wrap64 ((((rd_T40 l0_4 a1).f0).length : Int) - 1))).f5) ((rd_T44 ((rd_T40 l0_4 a1).f0) (wrap64 ((((rd_T40 l0_4 a1).f0).length : Int) - 1))).f6)).bind fun t405 => (some t405)) else (none)) else (none))) else (none)) else (none)))
set_option maxHeartbeats 8000000 in
set_option maxRecDepth 100000 in
theorem portolanref05_Next.calls (A0_0 : Option Addr) (c0_0 : Nat) (l0_0 : List Int) (A0_1 : Option Addr) (c0_1 : Nat) (l0_1 : List Int) (a0_2 : Int) (a0_3 : Int) (A0_4 : Option Addr) (c0_4 : Nat) (l0_4 : List (S40)) (a1 : Int) (r : List Int) (w : World) (hr0_0 : Kd.C (Kd.int .i64) w A0_0 l0_0.length l0_0) (hc0_0 : l0_0.length ≤ c0_0) (hr0_1 : Kd.C (Kd.int .i64) w A0_1 l0_1.length l0_1) (hc0_1 : l0_1.length ≤ c0_1) (hr0_4 : Kd.C k40 w A0_4 l0_4.length l0_4) (hc0_4 : l0_4.length ≤ c0_4) (h : portolanref05_Next.f l0_0 l0_1 a0_2 a0_3 l0_4 a1 = some r) :
 Calls Tryd.prog 9 #[.agg #[.slice A0_0 l0_0.length c0_0, .slice A0_1 l0_1.length c0_1, .int .i64 a0_2, .int .i64 a0_3, .slice A0_4 l0_4.length c0_4], .int .i64 a1] w fun e w' => ∃ v0_ : Value, e = .returned (v0_) ∧ Kd.R (Kd.int .i64) 3 w' w.heap.size (fun _ => True) v0_ r ∧ Below w.heap.size w w' := by
 have hu30 := Tryd.underlying30
 have hu44 := Tryd.underlying44
 have HR0_0 := Aside0.mk hr0_0
 have HC0_0 := Aside0.mk hc0_0
 clear hr0_0 hc0_0
 have HR0_1 := Aside0.mk hr0_1
 have HC0_1 := Aside0.mk hc0_1
 clear hr0_1 hc0_1
 have HR0_4 := Aside0.mk hr0_4
 have HC0_4 := Aside0.mk hc0_4
 clear hr0_4 hc0_4
 have HB := Aside0.mk (Below.refl w.heap.size w)
 have H : (if a1 < 0 then (some ([] : List Int)) else (if a1 ≥ (l0_4.length : Int) then (some ([] : List Int)) else (if 0 ≤ a1 then (if a1 < (l0_4.length : Int) then (if (((rd_T40 l0_4 a1).f0).length : Int) = 0 then (some ([] : List Int)) else (if 0 ≤ (wrap64 ((((rd_T40 l0_4 a1).f0).length : Int) - 1)) then (if (wrap64 ((((rd_T40 l0_4 a1).f0).length : Int) - 1)) < (((rd_T40 l0_4 a1).f0).length : Int) then ((portolanref04_Next.f ((rd_T44 ((rd_T40 l0_4 a1).f0) (wrap64 ((((rd_T40 l0_4 a1).f0).length : Int) - 1))).f0) ((rd_T44 ((rd_T40 l0_4 a1).f0) (wrap64 ((((rd_T40 l0_4 a1).f0).length : Int) - 1))).f1) ((rd_T44 ((rd_T40 l0_4 a1).f0) (wrap64 ((((rd_T40 l0_4 a1).f0).length : Int) - 1))).f2) ((rd_T44 ((rd_T40 l0_4 a1).f0) (wrap64 ((((rd_T40 l0_4 a1).f0).length : Int) - 1))).f3) ((rd_T44 ((rd_T40 l0_4 a1).f0) (wrap64 ((((rd_T40 l0_4 a1).f0).length : Int) - 1))).f4) ((rd_T44 ((rd_T40 l0_4 a1).f0) (wrap64 ((((rd_T40 l0_4 a1).f0).length : Int) - 1))).f5) ((rd_T44 ((rd_T40 l0_4 a1).f0) (wrap64 ((((rd_T40 l0_4 a1).f0).length : Int) - 1))).f6)).bind fun t405 => (some t405)) else (none)) else (none))) else (none)) else (none)))) = some r := h
 clear h
 by_cases c3 : a1 < 0
 ·
  rw [if_pos c3] at H
  have c3b0 : decide (a1 < 0) = true := decide_eq_true c3
  clear c3
  obtain rfl := Option.some.inj H
  go_enter Tryd.func9, Tryd.ntmps9
  go_wp2_with (first | ((with_reducible refine gate_dst (N := 2) rfl ?_); (try (refine gate_guard (by rfl) ?_; dsimp only)); refine box_event ?hg (N := 2) ?hd (cs := #[.slice A0_0 l0_0.length c0_0, .slice A0_1 l0_1.length c0_1, .int .i64 a0_2, .int .i64 a0_3, .slice A0_4 l0_4.length c0_4]) (t := 30) ?hr ?_; (case hd => rfl); (case hg => rfl); (case hr => first | (go_simp; done) | (go_simp; rfl)); intro gb401 hg w4 hbox hb; have BK401 := Aside0.mk (hbox); have GW401 := ge hg (bl HB); have GE401 := ge hg (bl HB); replace HB := Aside0.mk (below_step (bl HB) hb); clear hb hbox hg))
  go_ret
  exact ⟨_, by first | rfl | (simp [errW_none, errW_some] <;> rfl) | (simp [*, errW_none, errW_some] <;> rfl), by first | exact Kd.R_nil _ _ _ _ _ | exact Kd.N_nil _ _ _ _ _ | exact Kd.V_nil _ _ _ _ _ | exact Kd.Q_nil _ _ _ _ _ | exact Kd.S_nil _ _ _ _ _, bl HB⟩
 rw [if_neg c3] at H
 have c3b0 : decide (a1 < 0) = false := decide_eq_false c3
 clear c3
 by_cases c5 : a1 ≥ (l0_4.length : Int)
 ·
  rw [if_pos c5] at H
  have c5b0 : decide ((l0_4.length : Int) ≤ a1) = true := decide_eq_true c5
  clear c5
  obtain rfl := Option.some.inj H
  go_enter Tryd.func9, Tryd.ntmps9
  go_wp2_with (first | ((with_reducible refine gate_dst (N := 2) rfl ?_); (try (refine gate_guard (by rfl) ?_; dsimp only)); refine box_event ?hg (N := 2) ?hd (cs := #[.slice A0_0 l0_0.length c0_0, .slice A0_1 l0_1.length c0_1, .int .i64 a0_2, .int .i64 a0_3, .slice A0_4 l0_4.length c0_4]) (t := 30) ?hr ?_; (case hd => rfl); (case hg => rfl); (case hr => first | (go_simp; done) | (go_simp; rfl)); intro gb401 hg w6 hbox hb; have BK401 := Aside0.mk (hbox); have GW401 := ge hg (bl HB); have GE401 := ge hg (bl HB); replace HB := Aside0.mk (below_step (bl HB) hb); clear hb hbox hg; obtain ⟨hcz7_0, hcz7_1, hcz7_2, hcz7_3, hcz7_4⟩ := bk5 BK401.out; have hfz7_0 := bf BK401.out))
  go_ret
  exact ⟨_, by first | rfl | (simp [errW_none, errW_some] <;> rfl) | (simp [*, errW_none, errW_some] <;> rfl), by first | exact Kd.R_nil _ _ _ _ _ | exact Kd.N_nil _ _ _ _ _ | exact Kd.V_nil _ _ _ _ _ | exact Kd.Q_nil _ _ _ _ _ | exact Kd.S_nil _ _ _ _ _, bl HB⟩
 rw [if_neg c5] at H
 have c5b0 : decide ((l0_4.length : Int) ≤ a1) = false := decide_eq_false c5
 clear c5
 by_cases c8 : 0 ≤ a1
 ·
  rw [if_pos c8] at H
  have c8b0 : decide (0 ≤ a1) = true := decide_eq_true c8
  clear c8
  by_cases c9 : a1 < (l0_4.length : Int)
  ·
   rw [if_pos c9] at H
   have c9b0 : decide (a1 < (l0_4.length : Int)) = true := decide_eq_true c9
   clear c9
   by_cases c10 : (((rd_T40 l0_4 a1).f0).length : Int) = 0
   ·
    rw [if_pos c10] at H
    have c10b0 : ((((rd_T40 l0_4 a1).f0).length : Int) == 0) = true := beq_iff_eq.mpr c10
    have c10b1 : ((((rd_T40 l0_4 a1).f0).length : Int) != 0) = false := bne_eq_false_iff_eq.mpr c10
    clear c10
    obtain rfl := Option.some.inj H
    go_enter Tryd.func9, Tryd.ntmps9
    go_wp2_with (first | ((with_reducible refine gate_dst (N := 2) rfl ?_); (try (refine gate_guard (by rfl) ?_; dsimp only)); refine box_event ?hg (N := 2) ?hd (cs := #[.slice A0_0 l0_0.length c0_0, .slice A0_1 l0_1.length c0_1, .int .i64 a0_2, .int .i64 a0_3, .slice A0_4 l0_4.length c0_4]) (t := 30) ?hr ?_; (case hd => rfl); (case hg => rfl); (case hr => first | (go_simp; done) | (go_simp; rfl)); intro gb401 hg w11 hbox hb; have BK401 := Aside0.mk (hbox); have GW401 := ge hg (bl HB); have GE401 := ge hg (bl HB); replace HB := Aside0.mk (below_step (bl HB) hb); clear hb hbox hg; obtain ⟨hcz12_0, hcz12_1, hcz12_2, hcz12_3, hcz12_4⟩ := bk5 BK401.out; have hfz12_0 := bf BK401.out; have p402 : 0 ≤ (a1 : Int) := of_decide_eq_true (by assumption); have q402 : a1 < (l0_4.length : Int) := of_decide_eq_true (by assumption); obtain ⟨ad402, A402_0, c402_0, e402, hx402_0, hl402_0, hi402_0⟩ := at_T40 HR0_4.out a1 p402 q402; cases e402; replace hx402_0 := (HB.out.cell (World.block_lt_of_cell? w _ hx402_0)).trans hx402_0; have HR402_0 := Aside0.mk hi402_0; have HC402_0 := Aside0.mk hl402_0; clear hi402_0 hl402_0; replace p402 := eq_true p402; replace q402 := eq_true q402))
    go_ret
    exact ⟨_, by first | rfl | (simp [errW_none, errW_some] <;> rfl) | (simp [*, errW_none, errW_some] <;> rfl), by first | exact Kd.R_nil _ _ _ _ _ | exact Kd.N_nil _ _ _ _ _ | exact Kd.V_nil _ _ _ _ _ | exact Kd.Q_nil _ _ _ _ _ | exact Kd.S_nil _ _ _ _ _, bl HB⟩
   rw [if_neg c10] at H
   have c10b0 : ((((rd_T40 l0_4 a1).f0).length : Int) == 0) = false := beq_eq_false_iff_ne.mpr c10
   have c10b1 : ((((rd_T40 l0_4 a1).f0).length : Int) != 0) = true := bne_iff_ne.mpr c10
   have c10b2 : ¬ (((rd_T40 l0_4 a1).f0) = []) := fun h_ => c10 (by rw [h_]; rfl)
   obtain ⟨ji13, hji13⟩ : ∃ j_ : Int, (wrap64 ((((rd_T40 l0_4 a1).f0).length : Int) - 1)) = j_ := ⟨_, rfl⟩
   replace H : (if 0 ≤ (ji13) then (if (ji13) < (((rd_T40 l0_4 a1).f0).length : Int) then ((portolanref04_Next.f ((rd_T44 ((rd_T40 l0_4 a1).f0) (ji13)).f0) ((rd_T44 ((rd_T40 l0_4 a1).f0) (ji13)).f1) ((rd_T44 ((rd_T40 l0_4 a1).f0) (ji13)).f2) ((rd_T44 ((rd_T40 l0_4 a1).f0) (ji13)).f3) ((rd_T44 ((rd_T40 l0_4 a1).f0) (ji13)).f4) ((rd_T44 ((rd_T40 l0_4 a1).f0) (ji13)).f5) ((rd_T44 ((rd_T40 l0_4 a1).f0) (ji13)).f6)).bind fun t405 => (some t405)) else (none)) else (none)) = some r := by first | (rw [hji13] at H; exact H) | (simp only [hji13] at H ⊢; exact H)
   have hji13w : (IntKind.i64.wrap ((((rd_T40 l0_4 a1).f0).length : Int) - 1)) = ji13 := (i64_w _).trans hji13
   by_cases c14 : 0 ≤ (ji13)
   ·
    rw [if_pos c14] at H
    have c14b0 : decide (0 ≤ (ji13)) = true := decide_eq_true c14
    clear c14
    by_cases c15 : (ji13) < (((rd_T40 l0_4 a1).f0).length : Int)
    ·
     rw [if_pos c15] at H
     have c15b0 : decide ((ji13) < (((rd_T40 l0_4 a1).f0).length : Int)) = true := decide_eq_true c15
     clear c15
     replace H := Option.bind_eq_some_iff.mp H
     obtain ⟨t405, A160, H⟩ := H
     replace H : (some t405) = some r := H
     have A16 := Aside0.mk A160
     clear A160
     obtain rfl := Option.some.inj H
     go_enter Tryd.func9, Tryd.ntmps9
     go_wp2_with (first | ((with_reducible refine gate_dst (N := 2) rfl ?_); (try (refine gate_guard (by rfl) ?_; dsimp only)); refine box_event ?hg (N := 2) ?hd (cs := #[.slice A0_0 l0_0.length c0_0, .slice A0_1 l0_1.length c0_1, .int .i64 a0_2, .int .i64 a0_3, .slice A0_4 l0_4.length c0_4]) (t := 30) ?hr ?_; (case hd => rfl); (case hg => rfl); (case hr => first | (go_simp; done) | (go_simp; rfl)); intro gb401 hg w17 hbox hb; have BK401 := Aside0.mk (hbox); have GW401 := ge hg (bl HB); have GE401 := ge hg (bl HB); replace HB := Aside0.mk (below_step (bl HB) hb); clear hb hbox hg; obtain ⟨hcz18_0, hcz18_1, hcz18_2, hcz18_3, hcz18_4⟩ := bk5 BK401.out; have hfz18_0 := bf BK401.out; have p402 : 0 ≤ (a1 : Int) := of_decide_eq_true (by assumption); have q402 : a1 < (l0_4.length : Int) := of_decide_eq_true (by assumption); obtain ⟨ad402, A402_0, c402_0, e402, hx402_0, hl402_0, hi402_0⟩ := at_T40 HR0_4.out a1 p402 q402; cases e402; replace hx402_0 := (HB.out.cell (World.block_lt_of_cell? w _ hx402_0)).trans hx402_0; have HR402_0 := Aside0.mk hi402_0; have HC402_0 := Aside0.mk hl402_0; clear hi402_0 hl402_0; replace p402 := eq_true p402; replace q402 := eq_true q402; have p403 : 0 ≤ (a1 : Int) := of_decide_eq_true (by assumption); have q403 : a1 < (l0_4.length : Int) := of_decide_eq_true (by assumption); obtain ⟨ad403, A403_0, c403_0, e403, hx403_0, hl403_0, hi403_0⟩ := at_T40 HR0_4.out a1 p403 q403; obtain rfl : ad402 = ad403 := (by injection e403); replace hx403_0 := (HB.out.cell (World.block_lt_of_cell? w _ hx403_0)).trans hx403_0; have HR403_0 := Aside0.mk hi403_0; have HC403_0 := Aside0.mk hl403_0; clear hi403_0 hl403_0; replace p403 := eq_true p403; replace q403 := eq_true q403; have ea_ := Option.some.inj (hx402_0.symm.trans hx403_0); injection ea_ with ea_ en_ ec_; subst ea_; subst ec_; clear en_; have p404 : 0 ≤ ((ji13) : Int) := of_decide_eq_true (by assumption); have q404 : (ji13) < (((rd_T40 l0_4 a1).f0).length : Int) := of_decide_eq_true (by assumption); obtain ⟨ad404, A404_6, c404_6, e404, hx404_0, hx404_1, hx404_2, hx404_3, hx404_4, hx404_5, hx404_6, hl404_6, hi404_6⟩ := at_T44 HR403_0.out (ji13) p404 q404; cases e404; replace hx404_0 := (HB.out.cell (World.block_lt_of_cell? w _ hx404_0)).trans hx404_0; replace hx404_1 := (HB.out.cell (World.block_lt_of_cell? w _ hx404_1)).trans hx404_1; replace hx404_2 := (HB.out.cell (World.block_lt_of_cell? w _ hx404_2)).trans hx404_2; replace hx404_3 := (HB.out.cell (World.block_lt_of_cell? w _ hx404_3)).trans hx404_3; replace hx404_4 := (HB.out.cell (World.block_lt_of_cell? w _ hx404_4)).trans hx404_4; replace hx404_5 := (HB.out.cell (World.block_lt_of_cell? w _ hx404_5)).trans hx404_5; replace hx404_6 := (HB.out.cell (World.block_lt_of_cell? w _ hx404_6)).trans hx404_6; have HR404_6 := Aside0.mk hi404_6; have HC404_6 := Aside0.mk hl404_6; clear hi404_6 hl404_6; replace p404 := eq_true p404; replace q404 := eq_true q404) | ((with_reducible refine gate_callee (f := 36) rfl ?_); refine goesL_ (some 37) rfl rfl Tryd.func36 (by kernel_rfl) rfl #[.agg #[.int .i64 ((rd_T44 ((rd_T40 l0_4 a1).f0) (ji13)).f0), .int .i64 ((rd_T44 ((rd_T40 l0_4 a1).f0) (ji13)).f1), .int .i64 ((rd_T44 ((rd_T40 l0_4 a1).f0) (ji13)).f2), .int .i64 ((rd_T44 ((rd_T40 l0_4 a1).f0) (ji13)).f3), .int .i64 ((rd_T44 ((rd_T40 l0_4 a1).f0) (ji13)).f4), .int .i64 ((rd_T44 ((rd_T40 l0_4 a1).f0) (ji13)).f5), .slice A404_6 ((rd_T44 ((rd_T40 l0_4 a1).f0) (ji13)).f6).length c404_6]] rfl (by (try simp only [List.map_toArray, List.map_cons, List.map_nil]); first | done | (simp only [hji13]; rfl) | rfl | (simp only [List.length_drop, List.length_take]; rfl)) ?_; (with_reducible refine (portolanref04_Next.calls ((rd_T44 ((rd_T40 l0_4 a1).f0) (ji13)).f0) ((rd_T44 ((rd_T40 l0_4 a1).f0) (ji13)).f1) ((rd_T44 ((rd_T40 l0_4 a1).f0) (ji13)).f2) ((rd_T44 ((rd_T40 l0_4 a1).f0) (ji13)).f3) ((rd_T44 ((rd_T40 l0_4 a1).f0) (ji13)).f4) ((rd_T44 ((rd_T40 l0_4 a1).f0) (ji13)).f5) _ _ ((rd_T44 ((rd_T40 l0_4 a1).f0) (ji13)).f6) t405 _ ?side1 ?side2 A16.out).mono ?_); (case side1 => exact Kd.Cx (Kd.C_below HR404_6.out HB.out)); (case side2 => exact HC404_6.out); rintro e w19 ⟨v406, rfl, ho0, hb⟩; refine ⟨_, rfl, ?_⟩; have HO407 := Aside0.mk (Kd.R_lower ho0 (below_size (bl HB))); replace BK401 := Aside0.mk (blk_below (bx BK401.out) hb); replace HB := Aside0.mk (below_step (bl HB) hb); (try clear hb); (try clear hb2); (try clear hk); (try clear hi); (try clear ho0)))
     go_ret
     exact ⟨_, by first | rfl | (simp [errW_none, errW_some] <;> rfl) | (simp only [← hji13]; first | rfl | (simp [errW_none, errW_some] <;> rfl)) | (simp [*, errW_none, errW_some] <;> rfl), Kd.Rx HO407.out, bl HB⟩
    rw [if_neg c15] at H
    exact absurd H (by simp)
   rw [if_neg c14] at H
   exact absurd H (by simp)
  rw [if_neg c9] at H
  exact absurd H (by simp)
 rw [if_neg c8] at H
 exact absurd H (by simp)
def bitset_Holds.f (l0 : List Int) (l1 : List Int) : Option (Bool) := (bitset_Less.f l1 l0).bind fun t408 => (some ((t408.length : Int) == 0))
set_option maxHeartbeats 8000000 in
set_option maxRecDepth 100000 in
theorem bitset_Holds.calls (A0 : Option Addr) (c0 : Nat) (l0 : List Int) (A1 : Option Addr) (c1 : Nat) (l1 : List Int) (r : Bool) (w : World) (hr0 : Kd.C (Kd.int .u64) w A0 l0.length l0) (hc0 : l0.length ≤ c0) (hr1 : Kd.C (Kd.int .u64) w A1 l1.length l1) (hc1 : l1.length ≤ c1) (h : bitset_Holds.f l0 l1 = some r) :
 Calls Tryd.prog 14 #[.slice A0 l0.length c0, .slice A1 l1.length c1] w fun e w' => e = .returned (.bool r) ∧ Below w.heap.size w w' := by
 have HR0 := Aside0.mk hr0
 have HC0 := Aside0.mk hc0
 clear hr0 hc0
 have HR1 := Aside0.mk hr1
 have HC1 := Aside0.mk hc1
 clear hr1 hc1
 have HB := Aside0.mk (Below.refl w.heap.size w)
 have H : ((bitset_Less.f l1 l0).bind fun t408 => (some ((t408.length : Int) == 0))) = some r := h
 clear h
 replace H := Option.bind_eq_some_iff.mp H
 obtain ⟨t408, A30, H⟩ := H
 replace H : (some ((t408.length : Int) == 0)) = some r := H
 have A3 := Aside0.mk A30
 clear A30
 obtain rfl := Option.some.inj H
 go_enter Tryd.func14, Tryd.ntmps14
 go_wp2_with (first | ((with_reducible refine gate_callee (f := 40) rfl ?_); refine goesL_ (some 7) rfl rfl Tryd.func40 (by kernel_rfl) rfl #[.slice A1 l1.length c1, .slice A0 l0.length c0] rfl (by (try simp only [List.map_toArray, List.map_cons, List.map_nil]); first | done | rfl) ?_; (with_reducible refine (bitset_Less.calls _ _ l1 _ _ l0 t408 _ ?side1 ?side2 ?side3 ?side4 A3.out).mono ?_); (case side1 => exact Kd.Cx HR1.out); (case side2 => exact HC1.out); (case side3 => exact Kd.Cx HR0.out); (case side4 => exact HC0.out); rintro e w4 ⟨v409, rfl, ho0, hb⟩; refine ⟨_, rfl, ?_⟩; have HO410 := Aside0.mk (Kd.V_lower (Kd.V_mono (ok' := fun k_ => True) ho0 (fun k_ hk_ => trivial)) (below_size (bl HB))); replace HB := Aside0.mk (below_step (bl HB) hb); (try clear hb); (try clear hb2); (try clear hk); (try clear hi); (try clear ho0); obtain ⟨Ao5, co5, eo5⟩ := Kd.V_slice HO410.out; subst eo5))
 go_ret
 exact ⟨by first | rfl | (simp [errW_none, errW_some] <;> rfl) | (simp [*, errW_none, errW_some] <;> rfl), bl HB⟩
def portolanref02_Has.f (l0 : List Int) (a1 : Int) : Option (Bool) := if a1 ≥ 0 then (if (wrap64 (Int.tdiv a1 64)) < (l0.length : Int) then (if 0 ≤ (wrap64 (Int.tdiv a1 64)) then (if 0 ≤ (IntKind.u64.wrap (Int.tmod a1 64)) then (some ((Go.bits .and .u64 (shr .u64 (rd l0 (wrap64 (Int.tdiv a1 64))) (IntKind.u64.wrap (Int.tmod a1 64))) 1) == 1)) else (none)) else (none)) else (some false)) else (some false)
set_option maxHeartbeats 8000000 in
set_option maxRecDepth 100000 in
theorem portolanref02_Has.calls (A0 : Option Addr) (c0 : Nat) (l0 : List Int) (a1 : Int) (r : Bool) (w : World) (hr0 : Kd.C (Kd.int .u64) w A0 l0.length l0) (hc0 : l0.length ≤ c0) (h : portolanref02_Has.f l0 a1 = some r) :
 Calls Tryd.prog 30 #[.slice A0 l0.length c0, .int .i64 a1] w fun e w' => e = .returned (.bool r) ∧ Drawn0 w w' := by
 have HR0 := Aside0.mk hr0
 have HC0 := Aside0.mk hc0
 clear hr0 hc0
 have H : (if a1 ≥ 0 then (if (wrap64 (Int.tdiv a1 64)) < (l0.length : Int) then (if 0 ≤ (wrap64 (Int.tdiv a1 64)) then (if 0 ≤ (IntKind.u64.wrap (Int.tmod a1 64)) then (some ((Go.bits .and .u64 (shr .u64 (rd l0 (wrap64 (Int.tdiv a1 64))) (IntKind.u64.wrap (Int.tmod a1 64))) 1) == 1)) else (none)) else (none)) else (some false)) else (some false)) = some r := h
 clear h
 by_cases c3 : a1 ≥ 0
 ·
  rw [if_pos c3] at H
  have c3b0 : decide (0 ≤ a1) = true := decide_eq_true c3
  clear c3
  by_cases c4 : (wrap64 (Int.tdiv a1 64)) < (l0.length : Int)
  ·
   rw [if_pos c4] at H
   have c4b0 : decide ((wrap64 (Int.tdiv a1 64)) < (l0.length : Int)) = true := decide_eq_true c4
   clear c4
   obtain ⟨ji5, hji5⟩ : ∃ j_ : Int, (wrap64 (Int.tdiv a1 64)) = j_ := ⟨_, rfl⟩
   replace H : (if 0 ≤ (ji5) then (if 0 ≤ (IntKind.u64.wrap (Int.tmod a1 64)) then (some ((Go.bits .and .u64 (shr .u64 (rd l0 (ji5)) (IntKind.u64.wrap (Int.tmod a1 64))) 1) == 1)) else (none)) else (none)) = some r := by first | (rw [hji5] at H; exact H) | (simp only [hji5] at H ⊢; exact H)
   (try rw [hji5] at c4b0)
   have hji5w : (IntKind.i64.wrap (Int.tdiv a1 64)) = ji5 := (i64_w _).trans hji5
   by_cases c6 : 0 ≤ (ji5)
   ·
    rw [if_pos c6] at H
    have c6b0 : decide (0 ≤ (ji5)) = true := decide_eq_true c6
    clear c6
    obtain ⟨ji7, hji7⟩ : ∃ j_ : Int, (IntKind.u64.wrap (Int.tmod a1 64)) = j_ := ⟨_, rfl⟩
    replace H : (if 0 ≤ (ji7) then (some ((Go.bits .and .u64 (shr .u64 (rd l0 (ji5)) (ji7)) 1) == 1)) else (none)) = some r := by first | (rw [hji7] at H; exact H) | (simp only [hji7] at H ⊢; exact H)
    by_cases c8 : 0 ≤ (ji7)
    ·
     rw [if_pos c8] at H
     have c8b0 := eq_true c8
     have c8b1 : decide (0 ≤ (ji7)) = true := decide_eq_true c8
     clear c8
     obtain ⟨ji9, hji9⟩ : ∃ j_ : Int, (shr .u64 (rd l0 (ji5)) (ji7)) = j_ := ⟨_, rfl⟩
     replace H : (some ((Go.bits .and .u64 (ji9) 1) == 1)) = some r := by first | (rw [hji9] at H; exact H) | (simp only [hji9] at H ⊢; exact H)
     have hji9_ : ((rd l0 (ji5)) / 2 ^ min (ji7).toNat 64) = ji9 := hji9
     have hji9z : (ji7) ≤ 64 → ((rd l0 (ji5)) / 2 ^ (ji7).toNat) = ji9 := shr_small hji9
     obtain rfl := Option.some.inj H
     have p411 : 0 ≤ ((ji5) : Int) := of_decide_eq_true (by assumption)
     have q411 : (ji5) < (l0.length : Int) := of_decide_eq_true (by assumption)
     obtain ⟨ad411, e411, hx411_0⟩ := Kd.at_int HR0.out (ji5) p411 q411
     cases e411
     replace p411 := eq_true p411
     replace q411 := eq_true q411
     go_enter Tryd.func30, Tryd.ntmps30
     go_wp2
     go_ret
     exact ⟨by first | rfl | (simp; done) | (simp only [← hji5, ← hji7, ← hji9] <;> (first | rfl | simp)) | (simp [*]; done), by repeat (first | exact Drawn0.refl _ | apply Drawn0.step)⟩
    rw [if_neg c8] at H
    exact absurd H (by simp)
   rw [if_neg c6] at H
   exact absurd H (by simp)
  rw [if_neg c4] at H
  have c4b0 : decide ((wrap64 (Int.tdiv a1 64)) < (l0.length : Int)) = false := decide_eq_false c4
  clear c4
  obtain rfl := Option.some.inj H
  go_enter Tryd.func30, Tryd.ntmps30
  go_wp2
  go_ret
  exact ⟨by first | rfl | (simp; done) | (simp [*]; done), by repeat (first | exact Drawn0.refl _ | apply Drawn0.step)⟩
 rw [if_neg c3] at H
 have c3b0 : decide (0 ≤ a1) = false := decide_eq_false c3
 clear c3
 obtain rfl := Option.some.inj H
 go_enter Tryd.func30, Tryd.ntmps30
 go_wp2
 go_ret
 exact ⟨by first | rfl | (simp; done) | (simp [*]; done), by repeat (first | exact Drawn0.refl _ | apply Drawn0.step)⟩
def portolanref02_Without.l0 : Nat → List Int → List Int → Int → Option (List Int)
 | 0, _, _, _ => none
 | k + 1, x1, x5, x6 => if x6 < (x1.length : Int) then (if 0 ≤ x6 then ((portolanref02_Has.f x5 (rd x1 x6)).bind fun t419 => (if t419 = true then (if 0 ≤ (wrap64 (Int.tdiv (rd x1 x6) 64)) then (if (wrap64 (Int.tdiv (rd x1 x6) 64)) < (x5.length : Int) then (if 0 ≤ (IntKind.u64.wrap (Int.tmod (rd x1 x6) 64)) then (portolanref02_Without.l0 k x1 (x5.set ((wrap64 (Int.tdiv (rd x1 x6) 64)) : Int).toNat (IntKind.u64.wrap ((rd x5 (wrap64 (Int.tdiv (rd x1 x6) 64))) - (shl .u64 1 (IntKind.u64.wrap (Int.tmod (rd x1 x6) 64)))))) (wrap64 (x6 + 1))) else (none)) else (none)) else (none)) else (portolanref02_Without.l0 k x1 x5 (wrap64 (x6 + 1))))) else (none)) else ((portolanref02_Neat.f x5).bind fun t425 => (some t425))
def portolanref02_Without.f (k : Nat) (l0 : List Int) (l1 : List Int) : Option (List Int) := (some (([] : List Int) : List Int)).bind fun y412 => (if y412.length + l0.length < 17592186044416 then (portolanref02_Without.l0 k l1 (y412 ++ l0) 0) else (none))
def portolanref02_Without.T6 : Bool × List (List Nat × List Nat) := (true, [([], []), ([], []), ([], []), ([1, 2], [1, 2]), ([3], [3]), ([4], [4]), ([], []), ([], []), ([], []), ([7, 8], [7, 8]), ([9], [9]), ([10], [10]), ([6, 11], [6, 11]), ([12], [12]), ([], []), ([], []), ([14, 15], [14, 15]), ([16], [16]), ([17], [17]), ([18], [18]), ([19], [19]), ([13, 20], [13, 20]), ([0, 5, 0, 1, 2, 3, 4, 5, 6, 7, 8, 9, 10, 11, 12, 13, 14, 15, 16, 17, 18, 19, 20, 21], [0, 5]), ([22, 21, 0, 1, 2, 3, 4, 5, 6, 7, 8, 9, 10, 11, 12, 13, 14, 15, 16, 17, 18, 19, 20, 21], [21, 22])])
def portolanref02_Without.B6 : List Nat := [0, 0, 0, 6, 14, 30, 0, 0, 0, 384, 896, 1920, 4032, 8128, 0, 0, 49152, 114688, 245760, 507904, 1032192, 2097088, 4194303, 8388607]
theorem portolanref02_Without.tab6 : rtab .any (opsOf Tryd.f17 6) = portolanref02_Without.T6 := by kernel_rfl
theorem portolanref02_Without.bits6 : waitsOk portolanref02_Without.T6.2 portolanref02_Without.B6 = true := by kernel_rfl
set_option maxHeartbeats 8000000 in
set_option maxRecDepth 100000 in
theorem portolanref02_Without.calls (k : Nat) (A0 : Option Addr) (c0 : Nat) (l0 : List Int) (A1 : Option Addr) (c1 : Nat) (l1 : List Int) (r : List Int) (w : World) (hr0 : Kd.C (Kd.int .u64) w A0 l0.length l0) (hc0 : l0.length ≤ c0) (hr1 : Kd.C (Kd.int .i64) w A1 l1.length l1) (hc1 : l1.length ≤ c1) (h : portolanref02_Without.f k l0 l1 = some r) :
 Calls Tryd.prog 17 #[.slice A0 l0.length c0, .slice A1 l1.length c1] w fun e w' => ∃ v0_ : Value, e = .returned (v0_) ∧ Kd.R (Kd.int .u64) 67 w' w.heap.size (fun _ => True) v0_ r ∧ Below w.heap.size w w' := by
 have HR0 := Aside0.mk hr0
 have HC0 := Aside0.mk hc0
 clear hr0 hc0
 have HR1 := Aside0.mk hr1
 have HC1 := Aside0.mk hc1
 clear hr1 hc1
 have HB := Aside0.mk (Below.refl w.heap.size w)
 have H : ((some (([] : List Int) : List Int)).bind fun y412 => (if y412.length + l0.length < 17592186044416 then (portolanref02_Without.l0 k l1 (y412 ++ l0) 0) else (none))) = some r := h
 clear h
 obtain ⟨y412, hy412⟩ : ∃ y_ : List Int, y_ = (([] : List Int)) := ⟨_, rfl⟩
 replace H : (if y412.length + l0.length < 17592186044416 then (portolanref02_Without.l0 k l1 (y412 ++ l0) 0) else (none)) = some r := by first | (rw [hy412]; with_reducible exact H) | (have H2_ := (Option.bind_some _ _).symm.trans H; rw [hy412]; with_reducible exact H2_) | (have H2_ := (Option.bind_some _ _).symm.trans H; with_reducible exact H2_) | with_reducible exact H | (rw [hy412]; exact H) | exact H
 have Ny412 := Aside0.mk hy412
 clear hy412
 by_cases c3 : y412.length + l0.length < 17592186044416
 ·
  rw [if_pos c3] at H
  have LMc3 := Aside0.mk c3
  clear c3
  obtain ⟨y415, hy415⟩ : ∃ y_ : List Int, y_ = (y412 ++ l0) := ⟨_, rfl⟩
  replace H : (portolanref02_Without.l0 k l1 y415 0) = some r := by first | (rw [hy415]; with_reducible exact H) | (have H2_ := (Option.bind_some _ _).symm.trans H; rw [hy415]; with_reducible exact H2_) | (have H2_ := (Option.bind_some _ _).symm.trans H; with_reducible exact H2_) | with_reducible exact H | (rw [hy415]; exact H) | exact H
  have Ny415 := Aside0.mk hy415
  clear hy415
  have H' := Aside0.mk H
  clear H
  go_enter Tryd.func17, Tryd.ntmps17
  go_wp2_with (first | ((with_reducible refine gate_dst (N := 7) rfl ?_); refine Kd.R_lit (Kd.int .u64) _ 67 ?hg (N := 7) ?hd (xs := ([] : List Int)) (inner := []) (ok := fun _ => True) (okp := fun _ => True) ?hr ?hp (fun _ hk => hk) trivial (Below.refl _ _) (Nat.le_refl _) (by simp) ?_; (case hd => rfl); (case hg => rfl); (case hr => first | (go_simp; done) | (go_simp; rfl)); (case hp => exact (Reps.none _ _)); intro v413 w4 ho5 hb hg_ hnew_; clear hg_ hnew_; (first | rw [← Ny412.out] at ho5 | (simp only [Int.reduceToNat] at ho5; rw [← Ny412.out] at ho5)); have HO414 := Aside0.mk (Kd.R_lower ho5 (below_size (bl HB))); replace HB := Aside0.mk (below_step (bl HB) hb); clear hb ho5) | ((with_reducible refine gate_builtin (b := .append) (xs := #[.tmp 7, .tmp 8]) rfl ?_); at_builtin; refine Kd.R_append_rows (Kd.int .u64) (w0 := w) w.heap.size rfl (.tmp 7) (.tmp 8) 31 67 (.int .u64 0) 8 rfl Tryd.underlying31 info67 rfl (by decide) (by omega) v413 y412 l0 _ _ _ (fun _ => True) (fun _ => False) rfl rfl ?aO ?aR (fun _ _ h => h) (fun _ h => h.elim) ?aF ?aB ?aS ?aL ?_; (case aR => exact Kd.Cx (Kd.C_below HR0.out HB.out)); (case aB => exact (bl HB)); (case aF => exact (fun _ _ => trivial)); (case aO => exact (Kd.Rx HO414.out)); (case aS => exact (below_size (bl HB))); (case aL => have := LMc3.out; omega); intro v416 w6 ho hb hg hat; rw [← Ny415.out] at ho; replace HB := Aside0.mk (hb); have HO417 := Aside0.mk (ho); clear HO414; clear ho hb hg hat))
  go_loopg [6] k (fun kq v6 w' => ∃ (x5_1 : List Int) (x6_1 : Int), v6 = .int .i64 x6_1 ∧ Aside0 (portolanref02_Without.l0 kq l1 x5_1 x6_1 = some r) ∧ Aside0 (kq ≤ k) ∧ Aside0 (Kd.R (Kd.int .u64) 67 w' w.heap.size (fun _ => True) v416 x5_1) ∧ Aside0 (Below w.heap.size w w'))
  case atStart => exact ⟨(y415), (0), (by first | rfl | (simp; done) | (simp [*]; done)), H', ⟨Nat.le_refl _⟩, ⟨Kd.Rx HO417.out⟩, ⟨bl HB⟩⟩
  case round =>
   clear H'
   try clear c1
   try clear p2
   try clear c3
   obtain ⟨x5_1, x6_1, rfl, HA, HK1, HO_5, HB⟩ := hrel
   cases gk with
   | zero => exact absurd HA.out (by simp [portolanref02_Without.l0])
   | succ k1 =>
    have H := HA.out
    clear HA
    simp only [portolanref02_Without.l0] at H
    by_cases c7 : x6_1 < (l1.length : Int)
    ·
     rw [if_pos c7] at H
     have c7b0 : decide (x6_1 < (l1.length : Int)) = true := decide_eq_true c7
     clear c7
     by_cases c8 : 0 ≤ x6_1
     ·
      rw [if_pos c8] at H
      have c8b0 : decide (0 ≤ x6_1) = true := decide_eq_true c8
      clear c8
      replace H := Option.bind_eq_some_iff.mp H
      obtain ⟨t419, A90, H⟩ := H
      replace H : (if t419 = true then (if 0 ≤ (wrap64 (Int.tdiv (rd l1 x6_1) 64)) then (if (wrap64 (Int.tdiv (rd l1 x6_1) 64)) < (x5_1.length : Int) then (if 0 ≤ (IntKind.u64.wrap (Int.tmod (rd l1 x6_1) 64)) then (portolanref02_Without.l0 k1 l1 (x5_1.set ((wrap64 (Int.tdiv (rd l1 x6_1) 64)) : Int).toNat (IntKind.u64.wrap ((rd x5_1 (wrap64 (Int.tdiv (rd l1 x6_1) 64))) - (shl .u64 1 (IntKind.u64.wrap (Int.tmod (rd l1 x6_1) 64)))))) (wrap64 (x6_1 + 1))) else (none)) else (none)) else (none)) else (portolanref02_Without.l0 k1 l1 x5_1 (wrap64 (x6_1 + 1)))) = some r := H
      have A9 := Aside0.mk A90
      clear A90
      by_cases c10 : t419 = true
      ·
       subst c10
       have H1 : (if 0 ≤ (wrap64 (Int.tdiv (rd l1 x6_1) 64)) then (if (wrap64 (Int.tdiv (rd l1 x6_1) 64)) < (x5_1.length : Int) then (if 0 ≤ (IntKind.u64.wrap (Int.tmod (rd l1 x6_1) 64)) then (portolanref02_Without.l0 k1 l1 (x5_1.set ((wrap64 (Int.tdiv (rd l1 x6_1) 64)) : Int).toNat (IntKind.u64.wrap ((rd x5_1 (wrap64 (Int.tdiv (rd l1 x6_1) 64))) - (shl .u64 1 (IntKind.u64.wrap (Int.tmod (rd l1 x6_1) 64)))))) (wrap64 (x6_1 + 1))) else (none)) else (none)) else (none)) = some r := by rw [if_pos rfl] at H; exact H
       clear H
       have H := H1
       clear H1
       obtain ⟨ji11, hji11⟩ : ∃ j_ : Int, (wrap64 (Int.tdiv (rd l1 x6_1) 64)) = j_ := ⟨_, rfl⟩
       replace H : (if 0 ≤ (ji11) then (if (ji11) < (x5_1.length : Int) then (if 0 ≤ (IntKind.u64.wrap (Int.tmod (rd l1 x6_1) 64)) then (portolanref02_Without.l0 k1 l1 (x5_1.set ((ji11) : Int).toNat (IntKind.u64.wrap ((rd x5_1 (ji11)) - (shl .u64 1 (IntKind.u64.wrap (Int.tmod (rd l1 x6_1) 64)))))) (wrap64 (x6_1 + 1))) else (none)) else (none)) else (none)) = some r := by first | (rw [hji11] at H; exact H) | (simp only [hji11] at H ⊢; exact H)
       (try rw [hji11] at A9)
       have hji11w : (IntKind.i64.wrap (Int.tdiv (rd l1 x6_1) 64)) = ji11 := (i64_w _).trans hji11
       by_cases c12 : 0 ≤ (ji11)
       ·
        rw [if_pos c12] at H
        have c12b0 : decide (0 ≤ (ji11)) = true := decide_eq_true c12
        clear c12
        by_cases c13 : (ji11) < (x5_1.length : Int)
        ·
         rw [if_pos c13] at H
         have c13b0 : decide ((ji11) < (x5_1.length : Int)) = true := decide_eq_true c13
         clear c13
         obtain ⟨ji14, hji14⟩ : ∃ j_ : Int, (IntKind.u64.wrap (Int.tmod (rd l1 x6_1) 64)) = j_ := ⟨_, rfl⟩
         replace H : (if 0 ≤ (ji14) then (portolanref02_Without.l0 k1 l1 (x5_1.set ((ji11) : Int).toNat (IntKind.u64.wrap ((rd x5_1 (ji11)) - (shl .u64 1 (ji14))))) (wrap64 (x6_1 + 1))) else (none)) = some r := by first | (rw [hji14] at H; exact H) | (simp only [hji14] at H ⊢; exact H)
         (try rw [hji14] at A9)
         by_cases c15 : 0 ≤ (ji14)
         ·
          rw [if_pos c15] at H
          have c15b0 := eq_true c15
          have c15b1 : decide (0 ≤ (ji14)) = true := decide_eq_true c15
          clear c15
          obtain ⟨ji16, hji16⟩ : ∃ j_ : Int, (shl .u64 1 (ji14)) = j_ := ⟨_, rfl⟩
          replace H : (portolanref02_Without.l0 k1 l1 (x5_1.set ((ji11) : Int).toNat (IntKind.u64.wrap ((rd x5_1 (ji11)) - (ji16)))) (wrap64 (x6_1 + 1))) = some r := by first | (rw [hji16] at H; exact H) | (simp only [hji16] at H ⊢; exact H)
          (try rw [hji16] at A9)
          have hji16_ : (IntKind.u64.wrap (1 * 2 ^ min (ji14).toNat 64)) = ji16 := hji16
          have hji16z : (ji14) ≤ 64 → (IntKind.u64.wrap (1 * 2 ^ (ji14).toNat)) = ji16 := shl_small hji16
          have hji16u : (IntKind.u64.wrap (2 ^ min (ji14).toNat 64)) = ji16 := by have h_ := hji16_; rw [Int.one_mul] at h_; exact h_
          have hji16v : (ji14) ≤ 64 → (IntKind.u64.wrap (2 ^ (ji14).toNat)) = ji16 := fun hle_ => by have h_ := hji16z hle_; rw [Int.one_mul] at h_; exact h_
          obtain ⟨y424, hy424⟩ : ∃ y_ : List Int, y_ = (x5_1.set ((ji11) : Int).toNat (IntKind.u64.wrap ((rd x5_1 (ji11)) - (ji16)))) := ⟨_, rfl⟩
          replace H : (portolanref02_Without.l0 k1 l1 y424 (wrap64 (x6_1 + 1))) = some r := by first | (rw [hy424]; with_reducible exact H) | (have H2_ := (Option.bind_some _ _).symm.trans H; rw [hy424]; with_reducible exact H2_) | (have H2_ := (Option.bind_some _ _).symm.trans H; with_reducible exact H2_) | with_reducible exact H | (rw [hy424]; exact H) | exact H
          have Ny424 := Aside0.mk hy424
          clear hy424
          have H' := Aside0.mk H
          clear H
          have p418 : 0 ≤ (x6_1 : Int) := of_decide_eq_true (by assumption)
          have q418 : x6_1 < (l1.length : Int) := of_decide_eq_true (by assumption)
          obtain ⟨ad418, e418, hx418_0⟩ := Kd.at_int HR1.out x6_1 p418 q418
          cases e418
          replace hx418_0 := (HB.out.cell (World.block_lt_of_cell? w _ hx418_0)).trans hx418_0
          replace p418 := eq_true p418
          replace q418 := eq_true q418
          obtain ⟨Ao18, co18, eo18⟩ := Kd.R_slice HO_5.out
          subst eo18
          try go_wp2_with (first | ((with_reducible refine gate_callee (f := 30) rfl ?_); refine goesL_ (some 21) rfl rfl Tryd.func30 (by kernel_rfl) rfl #[.slice Ao18 x5_1.length co18, .int .i64 (rd l1 x6_1)] rfl (by (try simp only [List.map_toArray, List.map_cons, List.map_nil]); first | done | rfl) ?_; (with_reducible refine (portolanref02_Has.calls _ _ x5_1 (rd l1 x6_1) true _ ?side1 ?side2 A9.out).mono ?_); (case side1 => exact Kd.Cx ((Kd.R_reads' HO_5.out).2.2)); (case side2 => exact (Kd.R_reads' HO_5.out).2.1); rintro e w' ⟨rfl, ⟨nd, rfl⟩⟩; refine ⟨_, rfl, ?_⟩; (try (rw [drewN_self wr]; generalize hq_ : World.drewN wr _ = wr; have n0_ : Aside0 (Kd.R (Kd.int .u64) 67 wr w.heap.size (fun _ => True) (.slice Ao18 x5_1.length co18) x5_1) := ⟨by rw [← hq_]; exact (Kd.Rx HO_5.out)⟩; have n1_ : Aside0 (Below w.heap.size w wr) := ⟨by rw [← hq_]; exact (bl HB)⟩; clear HO_5 HB hq_; have HO_5 := n0_; have HB := n1_; clear n0_ n1_))))
          replace HO_5 := Aside0.mk (Kd.R_drew HO_5.out); replace HB := Aside0.mk (below_drew1 HB.out)
          have p420 : 0 ≤ (x6_1 : Int) := of_decide_eq_true (by assumption)
          have q420 : x6_1 < (l1.length : Int) := of_decide_eq_true (by assumption)
          obtain ⟨ad420, e420, hx420_0⟩ := Kd.at_int HR1.out x6_1 p420 q420
          have hw420_0 := hx420_0
          obtain rfl : ad418 = ad420 := (by injection e420)
          replace hx420_0 := (HB.out.cell (World.block_lt_of_cell? w _ hx420_0)).trans hx420_0
          replace p420 := eq_true p420
          replace q420 := eq_true q420
          have p421 : 0 ≤ (x6_1 : Int) := of_decide_eq_true (by assumption)
          have q421 : x6_1 < (l1.length : Int) := of_decide_eq_true (by assumption)
          obtain ⟨ad421, e421, hx421_0⟩ := Kd.at_int HR1.out x6_1 p421 q421
          have hw421_0 := hx421_0
          obtain rfl : ad418 = ad421 := (by injection e421)
          replace hx421_0 := (HB.out.cell (World.block_lt_of_cell? w _ hx421_0)).trans hx421_0
          replace p421 := eq_true p421
          replace q421 := eq_true q421
          have p422 : 0 ≤ ((ji11) : Int) := of_decide_eq_true (by assumption)
          have q422 : (ji11) < (x5_1.length : Int) := of_decide_eq_true (by assumption)
          obtain ⟨ad422, e422, hx422_0⟩ := Kd.at_int (Kd.R_reads' HO_5.out).2.2 (ji11) p422 q422
          cases e422
          replace p422 := eq_true p422
          replace q422 := eq_true q422
          have p423 : 0 ≤ (x6_1 : Int) := of_decide_eq_true (by assumption)
          have q423 : x6_1 < (l1.length : Int) := of_decide_eq_true (by assumption)
          obtain ⟨ad423, e423, hx423_0⟩ := Kd.at_int HR1.out x6_1 p423 q423
          have hw423_0 := hx423_0
          obtain rfl : ad418 = ad423 := (by injection e423)
          replace hx423_0 := (HB.out.cell (World.block_lt_of_cell? w _ hx423_0)).trans hx423_0
          replace p423 := eq_true p423
          replace q423 := eq_true q423
          have p17 : 0 ≤ ((ji11) : Int) := of_decide_eq_true (by assumption)
          have q17 : ((ji11) : Int) < ((x5_1.length : Int) : Int) := of_decide_eq_true (by assumption)
          obtain ⟨go17, co17, eo17, gb17, gl17, cl17, HG17⟩ := Kd.R_form HO_5.out (by omega)
          (first | cases eo17 | (injection eo17 with ea_ en_ ec_; (first | subst ea_ | (injection ea_ with ea_; subst ea_)); subst ec_; clear en_))
          have GB17 := Aside0.mk gb17
          have GG17 := Aside0.mk HG17
          clear gb17 gl17 HG17
          (first | simp only [add_plain] at hx422_0 | skip)
          obtain ⟨hx17_0, hf17_0⟩ := Kd.R_celln 0 HO_5.out ((ji11) : Int) p17 q17
          replace p17 := eq_true p17
          replace q17 := eq_true q17
          have HP20 := Kd.R_putn HO_5.out ((ji11) : Int) (IntKind.u64.wrap ((rd x5_1 (ji11)) - (ji16)))
          rw [← Ny424.out] at HP20
          have HQ20 := Aside0.mk HP20
          clear HP20
          refine start_ (n := 24) (S := fun w' => w'.cell? (ad418.add (x6_1).toNat) = some (.int .i64 (rd l1 x6_1)) ∧ w'.cell? (ad418.add (x6_1).toNat) = some (.int .i64 (rd l1 x6_1)) ∧ w'.cell? ⟨go17, ((ji11)).toNat, none⟩ = some (.int .u64 (rd x5_1 (ji11))) ∧ w'.cell? (ad418.add (x6_1).toNat) = some (.int .i64 (rd l1 x6_1))) (ds := [23]) #[false, false, false, false, false, false, false, false, false, false, false, false, false, false, false, false, false, false, false, false, false, false, false, false] (by kernel_rfl) rfl rfl ⟨((HB.out.cell (World.block_lt_of_cell? w _ hw420_0)).trans hw420_0), ((HB.out.cell (World.block_lt_of_cell? w _ hw421_0)).trans hw421_0), hx422_0, ((HB.out.cell (World.block_lt_of_cell? w _ hw423_0)).trans hw423_0)⟩ (fun hHeld => ?_); refine with_tabW portolanref02_Without.tab6 portolanref02_Without.bits6 (fun HT_ HW_ => ?_)
          generalize wr.drew = w19 at HO_5 HB GG17 HQ20 hf17_0 hx17_0 hx420_0 hx421_0 hx422_0 hx423_0 hHeld ⊢
          refine pure_ (i := 0) (N := some 22) (v := ?_) (a' := ?_) #[true, false, false, false, false, false, false, false, false, false, false, false, false, false, false, false, false, false, false, false, false, false, false, false] rfl rfl (any_of HT_.out (by kernel_rfl)) (fun _ _ _ h => h) (Or.inl ⟨by rfl, ?_⟩) ?_ ?_
          rotate_left
          ·
           intro w'
           go_simp
           with_reducible rfl
          rotate_left
          ·
           simp only [Act.put, List.setIfInBounds_toArray, List.set_cons_zero, List.set_cons_succ, i64_w, i32_w]
           rfl
          refine pure_ (i := 1) (N := some 23) (v := ?_) (a' := ?_) #[true, true, false, false, false, false, false, false, false, false, false, false, false, false, false, false, false, false, false, false, false, false, false, false] rfl rfl (any_of HT_.out (by kernel_rfl)) (fun _ _ _ h => h) (Or.inl ⟨by rfl, ?_⟩) ?_ ?_
          rotate_left
          ·
           intro w'
           go_simp
           with_reducible rfl
          rotate_left
          ·
           simp only [Act.put, List.setIfInBounds_toArray, List.set_cons_zero, List.set_cons_succ, i64_w, i32_w]
           rfl
          refine pure_ (i := 2) (N := some 24) (v := ?_) (a' := ?_) #[true, true, true, false, false, false, false, false, false, false, false, false, false, false, false, false, false, false, false, false, false, false, false, false] rfl rfl (any_of HT_.out (by kernel_rfl)) (fun _ _ _ h => h) (Or.inl ⟨by rfl, ?_⟩) ?_ ?_
          rotate_left
          ·
           intro w'
           go_simp
           with_reducible rfl
          rotate_left
          ·
           simp only [Act.put, List.setIfInBounds_toArray, List.set_cons_zero, List.set_cons_succ, i64_w, i32_w]
           rfl
          refine pure_ (i := 3) (N := some 25) (v := ?_) (a' := ?_) #[true, true, true, true, false, false, false, false, false, false, false, false, false, false, false, false, false, false, false, false, false, false, false, false] rfl rfl (any_of HT_.out (by kernel_rfl)) (fun _ _ _ h => h) (Or.inl ⟨by rfl, ?_⟩) ?_ ?_
          rotate_left
          ·
           intro w'
           go_simp
           with_reducible rfl
          rotate_left
          ·
           simp only [Act.put, List.setIfInBounds_toArray, List.set_cons_zero, List.set_cons_succ, i64_w, i32_w]
           rfl
          refine pure_ (i := 6) (N := some 28) (v := ?_) (a' := ?_) #[true, true, true, true, false, false, true, false, false, false, false, false, false, false, false, false, false, false, false, false, false, false, false, false] rfl rfl (any_of HT_.out (by kernel_rfl)) (fun _ _ _ h => h) (Or.inl ⟨by rfl, ?_⟩) ?_ ?_
          rotate_left
          ·
           intro w'
           go_simp
           with_reducible rfl
          rotate_left
          ·
           simp only [Act.put, List.setIfInBounds_toArray, List.set_cons_zero, List.set_cons_succ, i64_w, i32_w]
           rfl
          refine pure_ (i := 7) (N := some 29) (v := ?_) (a' := ?_) #[true, true, true, true, false, false, true, true, false, false, false, false, false, false, false, false, false, false, false, false, false, false, false, false] rfl rfl (any_of HT_.out (by kernel_rfl)) (fun _ _ _ h => h) (Or.inl ⟨by rfl, ?_⟩) ?_ ?_
          rotate_left
          ·
           intro w'
           go_simp
           with_reducible rfl
          rotate_left
          ·
           simp only [Act.put, List.setIfInBounds_toArray, List.set_cons_zero, List.set_cons_succ, i64_w, i32_w]
           rfl
          refine pure_ (i := 8) (N := some 30) (v := ?_) (a' := ?_) #[true, true, true, true, false, false, true, true, true, false, false, false, false, false, false, false, false, false, false, false, false, false, false, false] rfl rfl (any_of HT_.out (by kernel_rfl)) (fun _ _ _ h => h) (Or.inl ⟨by rfl, ?_⟩) ?_ ?_
          rotate_left
          ·
           intro w'
           go_simp
           with_reducible rfl
          rotate_left
          ·
           simp only [Act.put, List.setIfInBounds_toArray, List.set_cons_zero, List.set_cons_succ, i64_w, i32_w]
           rfl
          refine pure_ (i := 9) (N := some 31) (v := ?_) (a' := ?_) #[true, true, true, true, false, false, true, true, true, true, false, false, false, false, false, false, false, false, false, false, false, false, false, false] rfl rfl (any_of HT_.out (by kernel_rfl)) (fun _ _ _ h => h) (Or.inl ⟨by rfl, ?_⟩) ?_ ?_
          rotate_left
          ·
           intro w'
           go_simp
           with_reducible rfl
          rotate_left
          ·
           simp only [Act.put, List.setIfInBounds_toArray, List.set_cons_zero, List.set_cons_succ, i64_w, i32_w]
           rfl
          refine pure_ (i := 14) (N := some 36) (v := ?_) (a' := ?_) #[true, true, true, true, false, false, true, true, true, true, false, false, false, false, true, false, false, false, false, false, false, false, false, false] rfl rfl (any_of HT_.out (by kernel_rfl)) (fun _ _ _ h => h) (Or.inl ⟨by rfl, ?_⟩) ?_ ?_
          rotate_left
          ·
           intro w'
           go_simp
           with_reducible rfl
          rotate_left
          ·
           simp only [Act.put, List.setIfInBounds_toArray, List.set_cons_zero, List.set_cons_succ, i64_w, i32_w]
           rfl
          refine pure_ (i := 15) (N := some 37) (v := ?_) (a' := ?_) #[true, true, true, true, false, false, true, true, true, true, false, false, false, false, true, true, false, false, false, false, false, false, false, false] rfl rfl (any_of HT_.out (by kernel_rfl)) (fun _ _ _ h => h) (Or.inl ⟨by rfl, ?_⟩) ?_ ?_
          rotate_left
          ·
           intro w'
           go_simp
           with_reducible rfl
          rotate_left
          ·
           simp only [Act.put, List.setIfInBounds_toArray, List.set_cons_zero, List.set_cons_succ, i64_w, i32_w]
           rfl
          refine pure_ (i := 16) (N := some 38) (v := ?_) (a' := ?_) #[true, true, true, true, false, false, true, true, true, true, false, false, false, false, true, true, true, false, false, false, false, false, false, false] rfl rfl (any_of HT_.out (by kernel_rfl)) (fun _ _ _ h => h) (Or.inl ⟨by rfl, ?_⟩) ?_ ?_
          rotate_left
          ·
           intro w'
           go_simp
           with_reducible rfl
          rotate_left
          ·
           simp only [Act.put, List.setIfInBounds_toArray, List.set_cons_zero, List.set_cons_succ, i64_w, i32_w]
           rfl
          refine take_ (i := 4) (N := some 26) (v := ?_) (a' := ?_) #[true, true, true, true, true, false, true, true, true, true, false, false, false, false, true, true, true, false, false, false, false, false, false, false] rfl rfl (take_ofW HT_.out HW_.out (by kernel_rfl)) (fun _ _ _ h => h) (Or.inl ⟨by rfl, ?_⟩) hHeld ?_ ?_
          rotate_left
          ·
           rintro w' ⟨s0, s1, s2, s3⟩
           go_simp
           with_reducible rfl
          rotate_left
          ·
           simp only [Act.put, List.setIfInBounds_toArray, List.set_cons_zero, List.set_cons_succ, i64_w, i32_w]
           rfl
          refine pure_ (i := 5) (N := some 27) (v := ?_) (a' := ?_) #[true, true, true, true, true, true, true, true, true, true, false, false, false, false, true, true, true, false, false, false, false, false, false, false] rfl rfl (any_of HT_.out (by kernel_rfl)) (fun _ _ _ h => h) (Or.inl ⟨by rfl, ?_⟩) ?_ ?_
          rotate_left
          ·
           intro w'
           go_simp
           with_reducible rfl
          rotate_left
          ·
           simp only [Act.put, List.setIfInBounds_toArray, List.set_cons_zero, List.set_cons_succ, i64_w, i32_w]
           rfl
          refine take_ (i := 10) (N := some 32) (v := ?_) (a' := ?_) #[true, true, true, true, true, true, true, true, true, true, true, false, false, false, true, true, true, false, false, false, false, false, false, false] rfl rfl (take_ofW HT_.out HW_.out (by kernel_rfl)) (fun _ _ _ h => h) (Or.inl ⟨by rfl, ?_⟩) hHeld ?_ ?_
          rotate_left
          ·
           rintro w' ⟨s0, s1, s2, s3⟩
           go_simp
           with_reducible rfl
          rotate_left
          ·
           simp only [Act.put, List.setIfInBounds_toArray, List.set_cons_zero, List.set_cons_succ, i64_w, i32_w]
           rfl
          refine pure_ (i := 11) (N := some 33) (v := ?_) (a' := ?_) #[true, true, true, true, true, true, true, true, true, true, true, true, false, false, true, true, true, false, false, false, false, false, false, false] rfl rfl (any_of HT_.out (by kernel_rfl)) (fun _ _ _ h => h) (Or.inl ⟨by rfl, ?_⟩) ?_ ?_
          rotate_left
          ·
           intro w'
           go_simp
           with_reducible rfl
          rotate_left
          ·
           simp only [Act.put, List.setIfInBounds_toArray, List.set_cons_zero, List.set_cons_succ, i64_w, i32_w]
           rfl
          refine pure_ (i := 12) (N := some 34) (v := ?_) (a' := ?_) #[true, true, true, true, true, true, true, true, true, true, true, true, true, false, true, true, true, false, false, false, false, false, false, false] rfl rfl (any_of HT_.out (by kernel_rfl)) (fun _ _ _ h => h) (Or.inl ⟨by rfl, ?_⟩) ?_ ?_
          rotate_left
          ·
           intro w'
           go_simp
           with_reducible rfl
          rotate_left
          ·
           simp only [Act.put, List.setIfInBounds_toArray, List.set_cons_zero, List.set_cons_succ, i64_w, i32_w]
           rfl
          refine take_ (i := 13) (N := some 35) (v := ?_) (a' := ?_) #[true, true, true, true, true, true, true, true, true, true, true, true, true, true, true, true, true, false, false, false, false, false, false, false] rfl rfl (take_ofW HT_.out HW_.out (by kernel_rfl)) (fun _ _ _ h => h) (Or.inl ⟨by rfl, ?_⟩) hHeld ?_ ?_
          rotate_left
          ·
           rintro w' ⟨s0, s1, s2, s3⟩
           go_simp
           with_reducible rfl
          rotate_left
          ·
           simp only [Act.put, List.setIfInBounds_toArray, List.set_cons_zero, List.set_cons_succ, i64_w, i32_w]
           rfl
          refine take_ (i := 17) (N := some 39) (v := ?_) (a' := ?_) #[true, true, true, true, true, true, true, true, true, true, true, true, true, true, true, true, true, true, false, false, false, false, false, false] rfl rfl (take_ofW HT_.out HW_.out (by kernel_rfl)) (fun _ _ _ h => h) (Or.inl ⟨by rfl, ?_⟩) hHeld ?_ ?_
          rotate_left
          ·
           rintro w' ⟨s0, s1, s2, s3⟩
           go_simp
           with_reducible rfl
          rotate_left
          ·
           simp only [Act.put, List.setIfInBounds_toArray, List.set_cons_zero, List.set_cons_succ, i64_w, i32_w]
           rfl
          refine pure_ (i := 18) (N := some 40) (v := ?_) (a' := ?_) #[true, true, true, true, true, true, true, true, true, true, true, true, true, true, true, true, true, true, true, false, false, false, false, false] rfl rfl (any_of HT_.out (by kernel_rfl)) (fun _ _ _ h => h) (Or.inl ⟨by rfl, ?_⟩) ?_ ?_
          rotate_left
          ·
           intro w'
           go_simp
           with_reducible rfl
          rotate_left
          ·
           simp only [Act.put, List.setIfInBounds_toArray, List.set_cons_zero, List.set_cons_succ, i64_w, i32_w]
           rfl
          refine pure_ (i := 19) (N := some 41) (v := ?_) (a' := ?_) #[true, true, true, true, true, true, true, true, true, true, true, true, true, true, true, true, true, true, true, true, false, false, false, false] rfl rfl (any_of HT_.out (by kernel_rfl)) (fun _ _ _ h => h) (Or.inl ⟨by rfl, ?_⟩) ?_ ?_
          rotate_left
          ·
           intro w'
           go_simp
           with_reducible rfl
          rotate_left
          ·
           simp only [Act.put, List.setIfInBounds_toArray, List.set_cons_zero, List.set_cons_succ, i64_w, i32_w]
           rfl
          refine pure_ (i := 20) (N := some 42) (v := ?_) (a' := ?_) #[true, true, true, true, true, true, true, true, true, true, true, true, true, true, true, true, true, true, true, true, true, false, false, false] rfl rfl (any_of HT_.out (by kernel_rfl)) (fun _ _ _ h => h) (Or.inl ⟨by rfl, ?_⟩) ?_ ?_
          rotate_left
          ·
           intro w'
           go_simp
           with_reducible rfl
          rotate_left
          ·
           simp only [Act.put, List.setIfInBounds_toArray, List.set_cons_zero, List.set_cons_succ, i64_w, i32_w]
           rfl
          refine pure_ (i := 21) (N := some 43) (v := ?_) (a' := ?_) #[true, true, true, true, true, true, true, true, true, true, true, true, true, true, true, true, true, true, true, true, true, true, false, false] rfl rfl (any_of HT_.out (by kernel_rfl)) (fun _ _ _ h => h) (Or.inl ⟨by rfl, ?_⟩) ?_ ?_
          rotate_left
          ·
           intro w'
           go_simp
           with_reducible rfl
          rotate_left
          ·
           simp only [Act.put, List.setIfInBounds_toArray, List.set_cons_zero, List.set_cons_succ, i64_w, i32_w]
           rfl
          refine pure_ (i := 22) (N := some 44) (v := ?_) (a' := ?_) #[true, true, true, true, true, true, true, true, true, true, true, true, true, true, true, true, true, true, true, true, true, true, true, false] rfl rfl (any_of HT_.out (by kernel_rfl)) (fun _ _ _ h => h) (Or.inl ⟨by rfl, ?_⟩) ?_ ?_
          rotate_left
          ·
           intro w'
           go_simp
           with_reducible rfl
          rotate_left
          ·
           simp only [Act.put, List.setIfInBounds_toArray, List.set_cons_zero, List.set_cons_succ, i64_w, i32_w]
           rfl
          refine last_ (i := 23) (N := none) #[true, true, true, true, true, true, true, true, true, true, true, true, true, true, true, true, true, true, true, true, true, true, true, true] rfl rfl (one_of HT_.out (by kernel_rfl)) (by decide) (fun K hK => ?_)
          refine skip_ (w1 := ?_) (by rfl) rfl ?_ ?_
          rotate_left
          ·
           go_simp
           rfl
          refine hK.out _ _ ?_
          clear hK K
          refine done_ (done_of HT_.out (by kernel_rfl)) ?_
          try go_wp2
          go_roundg k1
          case measure => have := HK1.out; omega
          case rel => exact ⟨(y424), (wrap64 (x6_1 + 1)), (by first | rfl | (simp; done) | (simp [*]; done)), H', ⟨by have := HK1.out; omega⟩, ⟨Kd.Rx HQ20.out⟩, ⟨by repeat (first | (with_reducible first | exact HB.out | apply below_alloc | apply pw_below_drewN | apply below_drew1 | refine below_set ?_ GB17.out) | exact HB.out)⟩⟩
         rw [if_neg c15] at H
         exact absurd H (by simp)
        rw [if_neg c13] at H
        exact absurd H (by simp)
       rw [if_neg c12] at H
       exact absurd H (by simp)
      replace c10 := Bool.eq_false_iff.mpr c10
      subst c10
      have H1 : (portolanref02_Without.l0 k1 l1 x5_1 (wrap64 (x6_1 + 1))) = some r := by rw [if_neg (show ¬ (false = true) by decide)] at H; exact H
      clear H
      have H := H1
      clear H1
      have H' := Aside0.mk H
      clear H
      have p418 : 0 ≤ (x6_1 : Int) := of_decide_eq_true (by assumption)
      have q418 : x6_1 < (l1.length : Int) := of_decide_eq_true (by assumption)
      obtain ⟨ad418, e418, hx418_0⟩ := Kd.at_int HR1.out x6_1 p418 q418
      cases e418
      replace hx418_0 := (HB.out.cell (World.block_lt_of_cell? w _ hx418_0)).trans hx418_0
      replace p418 := eq_true p418
      replace q418 := eq_true q418
      obtain ⟨Ao21, co21, eo21⟩ := Kd.R_slice HO_5.out
      subst eo21
      go_wp2_with (first | ((with_reducible refine gate_callee (f := 30) rfl ?_); refine goesL_ (some 21) rfl rfl Tryd.func30 (by kernel_rfl) rfl #[.slice Ao21 x5_1.length co21, .int .i64 (rd l1 x6_1)] rfl (by (try simp only [List.map_toArray, List.map_cons, List.map_nil]); first | done | rfl) ?_; (with_reducible refine (portolanref02_Has.calls _ _ x5_1 (rd l1 x6_1) false _ ?side1 ?side2 A9.out).mono ?_); (case side1 => exact Kd.Cx ((Kd.R_reads' HO_5.out).2.2)); (case side2 => exact (Kd.R_reads' HO_5.out).2.1); rintro e w' ⟨rfl, ⟨nd, rfl⟩⟩; refine ⟨_, rfl, ?_⟩))
      go_roundg k1
      case measure => have := HK1.out; omega
      case rel => exact ⟨(x5_1), (wrap64 (x6_1 + 1)), (by first | rfl | (simp; done) | (simp [*]; done)), H', ⟨by have := HK1.out; omega⟩, ⟨Kd.Rx HO_5.out⟩, ⟨bl HB⟩⟩
     rw [if_neg c8] at H
     exact absurd H (by simp)
    rw [if_neg c7] at H
    have c7b0 : decide (x6_1 < (l1.length : Int)) = false := decide_eq_false c7
    clear c7
    replace H := Option.bind_eq_some_iff.mp H
    obtain ⟨t425, A220, H⟩ := H
    replace H : (some t425) = some r := H
    have A22 := Aside0.mk A220
    clear A220
    obtain rfl := Option.some.inj H
    obtain ⟨Ao23, co23, eo23⟩ := Kd.R_slice HO_5.out
    subst eo23
    go_wp2_with (first | ((with_reducible refine gate_callee (f := 44) rfl ?_); refine goesL_ (some 46) rfl rfl Tryd.func44 (by kernel_rfl) rfl #[.slice Ao23 x5_1.length co23] rfl (by (try simp only [List.map_toArray, List.map_cons, List.map_nil]); first | done | rfl) ?_; (with_reducible refine (portolanref02_Neat.calls _ _ x5_1 t425 _ ?side1 ?side2 A22.out).mono ?_); (case side1 => exact Kd.Cx ((Kd.R_reads' HO_5.out).2.2)); (case side2 => exact (Kd.R_reads' HO_5.out).2.1); rintro e w24 ⟨v426, rfl, ho0, hb⟩; refine ⟨_, rfl, ?_⟩; have HO427 := Aside0.mk (Kd.R_lower (Kd.R_new' ho0 (Kd.R_lt (Kd.Rx HO_5.out))) (below_size (bl HB))); replace HO_5 := Aside0.mk (Kd.R_elder' (Kd.Rx HO_5.out) (Kd.R_base ho0) hb); replace HB := Aside0.mk (below_step (bl HB) hb); (try clear hb); (try clear hb2); (try clear hk); (try clear hi); (try clear ho0)))
    go_ret
    exact ⟨_, by first | rfl | (simp [errW_none, errW_some] <;> rfl) | (simp [*, errW_none, errW_some] <;> rfl), by (with_reducible repeat (first | apply Kd.R_alloc | apply Kd.R_drewN | apply Kd.R_drew)); exact Kd.R_mono HO427.out (fun _ hk => trivial), bl HB⟩
 rw [if_neg c3] at H
 exact absurd H (by simp)
end Go.Proofs.YtdmimhjmbdkhmaaDoor.X
