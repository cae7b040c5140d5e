/- Part of a proof about the Go function named in the last text of this claim. -/
import Derived.Test.YtdmimhjmbdkhmaaDoorZw
import Derived.Test.YtdmimhjmbdkhmaaDoorXx0
import Derived.Test.YtdmimhjmbdkhmaaDoorXx5
import Derived.Test.YtdmimhjmbdkhmaaDoorXx6
import Derived.Test.YtdmimhjmbdkhmaaDoorXx8
import Derived.Test.YtdmimhjmbdkhmaaDoorXx10
import Derived.Test.YtdmimhjmbdkhmaaDoorZg
set_option linter.unusedVariables false
set_option linter.unusedSimpArgs false
namespace Go.Proofs.YtdmimhjmbdkhmaaDoor.X
open Go.RowKit Go.Proofs.YtdmimhjmbdkhmaaDoorW.PrintWords Go.Proofs.YtdmimhjmbdkhmaaDoorW.PrintLast Go.Proofs.YtdmimhjmbdkhmaaDoorW.PrintMore
attribute [local go_sem] max2_int min2_int max_two min_two max_three min_three max_four min_four
set_option linter.unusedVariables false
set_option linter.unusedSimpArgs false
def portolanlaw11_out.l0 : Nat → Int → Int → List (S30) → Option (Bool)
 | 0, _, _, _ => none
 | k + 1, x3, x4, x395000 => if x4 < (x395000.length : Int) then (if x4 < 9 then (if 0 ≤ x4 then (portolanlaw11_out.l0 k (mx (mx x3 (((rd_T30 x395000 x4).f4).length : Int)) (wrap64 ((((rd_T30 x395000 x4).f0).length : Int) / 2))) (wrap64 (x4 + 1)) x395000) else (none)) else (if x3 > 16 then (some true) else ((portolanref03_Great.f k x395000).bind fun t397 => (if t397 = true then (some true) else ((portolanref04_Check.f k x395000).bind fun t398 => (some (t398 != 0))))))) else (if x3 > 16 then (some true) else ((portolanref03_Great.f k x395000).bind fun t399 => (if t399 = true then (some true) else ((portolanref04_Check.f k x395000).bind fun t400 => (some (t400 != 0))))))
def portolanlaw11_out.f (k : Nat) (l0_0 : List (S30)) : Option (Bool) := portolanlaw11_out.l0 k 0 0 l0_0
set_option maxHeartbeats 8000000 in
set_option maxRecDepth 100000 in
theorem portolanlaw11_out.calls (k : Nat) (A0_0 : Option Addr) (c0_0 : Nat) (l0_0 : List (S30)) (r : Bool) (w : World) (hr0_0 : Kd.C k30 w A0_0 l0_0.length l0_0) (hc0_0 : l0_0.length ≤ c0_0) (h : portolanlaw11_out.f k l0_0 = some r) :
  Calls Tryd.prog 8 #[.agg #[.slice A0_0 l0_0.length c0_0]] w fun e w' => e = .returned (.bool r) ∧ Below w.heap.size w w' := by
 have hu24 := Tryd.underlying24
 have HR0_0 := Aside0.mk hr0_0
 have HC0_0 := Aside0.mk hc0_0
 clear hr0_0 hc0_0
 have HB := Aside0.mk (Below.refl w.heap.size w)
 have H : (portolanlaw11_out.l0 k 0 0 l0_0) = some r := h
 clear h
 have H' := Aside0.mk H
 clear H
 go_enter Tryd.func8, Tryd.ntmps8
 go_wp2_with (first | ((with_reducible refine gate_dst (N := 1) rfl ?_); refine box_event ?hg (N := 1) ?hd (cs := #[.slice A0_0 l0_0.length c0_0]) (t := 24) ?hr ?_; (case hd => rfl); (case hg => rfl); (case hr => first | (go_simp; done) | (go_simp; rfl)); intro gb394 hg w2 hbox hb; have BK394 := Aside0.mk (hbox); have GW394 := ge hg (bl HB); have GE394 := ge hg (bl HB); replace HB := Aside0.mk (below_step (bl HB) hb); clear hb hbox hg))
 repeat (go_quiet (first | ((with_reducible refine gate_dst (N := 1) rfl ?_); refine box_event ?hg (N := 1) ?hd (cs := #[.slice A0_0 l0_0.length c0_0]) (t := 24) ?hr ?_; (case hd => rfl); (case hg => rfl); (case hr => first | (go_simp; done) | (go_simp; rfl)); intro gb394 hg w2 hbox hb; have BK394 := Aside0.mk (hbox); have GW394 := ge hg (bl HB); have GE394 := ge hg (bl HB); replace HB := Aside0.mk (below_step (bl HB) hb); clear hb hbox hg)); try go_wp2_with (first | ((with_reducible refine gate_dst (N := 1) rfl ?_); refine box_event ?hg (N := 1) ?hd (cs := #[.slice A0_0 l0_0.length c0_0]) (t := 24) ?hr ?_; (case hd => rfl); (case hg => rfl); (case hr => first | (go_simp; done) | (go_simp; rfl)); intro gb394 hg w2 hbox hb; have BK394 := Aside0.mk (hbox); have GW394 := ge hg (bl HB); have GE394 := ge hg (bl HB); replace HB := Aside0.mk (below_step (bl HB) hb); clear hb hbox hg)))
 go_loopg [3, 4] k (fun kq v3 v4 w' => ∃ (x3_1 : Int) (x4_1 : Int), v3 = .int .i64 x3_1 ∧ v4 = .int .i64 x4_1 ∧ Aside0 (portolanlaw11_out.l0 kq x3_1 x4_1 l0_0 = some r) ∧ Aside0 (kq ≤ k) ∧ Aside0 (w'.heap[gb394]? = some (.cells #[(.slice A0_0 l0_0.length c0_0)] 24 (0, 0))) ∧ Aside0 (Below w.heap.size w w'))
 case atStart => exact ⟨(0), (0), (by first | rfl | (simp; done) | (simp [*]; done)), (by first | rfl | (simp; done) | (simp [*]; done)), H', ⟨Nat.le_refl _⟩, ⟨bx BK394.out⟩, ⟨bl HB⟩⟩
 case round =>
  clear H'
  try clear p2
  obtain ⟨x3_1, x4_1, rfl, rfl, HA, HK1, BK394, HB⟩ := hrel
  cases gk with
  | zero => exact absurd HA.out (by simp [portolanlaw11_out.l0])
  | succ k1 =>
   have H := HA.out
   clear HA
   simp only [portolanlaw11_out.l0] at H
   by_cases c3 : x4_1 < (l0_0.length : Int)
   ·
    rw [if_pos c3] at H
    have c3b0 : decide (x4_1 < (l0_0.length : Int)) = true := decide_eq_true c3
    clear c3
    by_cases c4 : x4_1 < 9
    ·
     rw [if_pos c4] at H
     have c4b0 : decide (x4_1 < 9) = true := decide_eq_true c4
     clear c4
     by_cases c5 : 0 ≤ x4_1
     ·
      rw [if_pos c5] at H
      have c5b0 : decide (0 ≤ x4_1) = true := decide_eq_true c5
      clear c5
      obtain ⟨ji6, hji6⟩ : ∃ j_ : Int, (mx x3_1 (((rd_T30 l0_0 x4_1).f4).length : Int)) = j_ := ⟨_, rfl⟩
      replace H : (portolanlaw11_out.l0 k1 (mx (ji6) (wrap64 ((((rd_T30 l0_0 x4_1).f0).length : Int) / 2))) (wrap64 (x4_1 + 1)) l0_0) = some r := by first | (rw [hji6] at H; exact H) | (simp only [hji6] at H ⊢; exact H)
      have hji6_ : (if x3_1 < (((rd_T30 l0_0 x4_1).f4).length : Int) then (((rd_T30 l0_0 x4_1).f4).length : Int) else x3_1) = ji6 := hji6
      obtain ⟨ji7, hji7⟩ : ∃ j_ : Int, (mx (ji6) (wrap64 ((((rd_T30 l0_0 x4_1).f0).length : Int) / 2))) = j_ := ⟨_, rfl⟩
      replace H : (portolanlaw11_out.l0 k1 ji7 (wrap64 (x4_1 + 1)) l0_0) = some r := by first | (rw [hji7] at H; exact H) | (simp only [hji7] at H ⊢; exact H)
      have hji7_ : (if (ji6) < (wrap64 ((((rd_T30 l0_0 x4_1).f0).length : Int) / 2)) then (wrap64 ((((rd_T30 l0_0 x4_1).f0).length : Int) / 2)) else (ji6)) = ji7 := hji7
      have H' := Aside0.mk H
      clear H
      have hcz8_0 := bk1 BK394.out
      have hfz8_0 := bf BK394.out
      have p395 : 0 ≤ (x4_1 : Int) := of_decide_eq_true (by assumption)
      have q395 : x4_1 < (l0_0.length : Int) := of_decide_eq_true (by assumption)
      obtain ⟨ad395, A395_0, c395_0, A395_1, c395_1, A395_4, c395_4, e395, hx395_0, hx395_1, hx395_2, hx395_3, hx395_4, hl395_0, hi395_0, hl395_1, hi395_1, hl395_4, hi395_4⟩ := at_T30 HR0_0.out x4_1 p395 q395
      cases e395
      replace hx395_0 := (HB.out.cell (World.block_lt_of_cell? w _ hx395_0)).trans hx395_0
      replace hx395_1 := (HB.out.cell (World.block_lt_of_cell? w _ hx395_1)).trans hx395_1
      replace hx395_2 := (HB.out.cell (World.block_lt_of_cell? w _ hx395_2)).trans hx395_2
      replace hx395_3 := (HB.out.cell (World.block_lt_of_cell? w _ hx395_3)).trans hx395_3
      replace hx395_4 := (HB.out.cell (World.block_lt_of_cell? w _ hx395_4)).trans hx395_4
      have HR395_0 := Aside0.mk hi395_0
      have HC395_0 := Aside0.mk hl395_0
      clear hi395_0 hl395_0
      have HR395_1 := Aside0.mk hi395_1
      have HC395_1 := Aside0.mk hl395_1
      clear hi395_1 hl395_1
      have HR395_4 := Aside0.mk hi395_4
      have HC395_4 := Aside0.mk hl395_4
      clear hi395_4 hl395_4
      replace p395 := eq_true p395
      replace q395 := eq_true q395
      have p396 : 0 ≤ (x4_1 : Int) := of_decide_eq_true (by assumption)
      have q396 : x4_1 < (l0_0.length : Int) := of_decide_eq_true (by assumption)
      obtain ⟨ad396, A396_0, c396_0, A396_1, c396_1, A396_4, c396_4, e396, hx396_0, hx396_1, hx396_2, hx396_3, hx396_4, hl396_0, hi396_0, hl396_1, hi396_1, hl396_4, hi396_4⟩ := at_T30 HR0_0.out x4_1 p396 q396
      obtain rfl : ad395 = ad396 := (by injection e396)
      replace hx396_0 := (HB.out.cell (World.block_lt_of_cell? w _ hx396_0)).trans hx396_0
      replace hx396_1 := (HB.out.cell (World.block_lt_of_cell? w _ hx396_1)).trans hx396_1
      replace hx396_2 := (HB.out.cell (World.block_lt_of_cell? w _ hx396_2)).trans hx396_2
      replace hx396_3 := (HB.out.cell (World.block_lt_of_cell? w _ hx396_3)).trans hx396_3
      replace hx396_4 := (HB.out.cell (World.block_lt_of_cell? w _ hx396_4)).trans hx396_4
      have HR396_0 := Aside0.mk hi396_0
      have HC396_0 := Aside0.mk hl396_0
      clear hi396_0 hl396_0
      have HR396_1 := Aside0.mk hi396_1
      have HC396_1 := Aside0.mk hl396_1
      clear hi396_1 hl396_1
      have HR396_4 := Aside0.mk hi396_4
      have HC396_4 := Aside0.mk hl396_4
      clear hi396_4 hl396_4
      replace p396 := eq_true p396
      replace q396 := eq_true q396
      have ea_ := Option.some.inj (hx395_0.symm.trans hx396_0)
      injection ea_ with ea_ en_ ec_
      subst ea_
      subst ec_
      clear en_
      have ea_ := Option.some.inj (hx395_1.symm.trans hx396_1)
      injection ea_ with ea_ en_ ec_
      subst ea_
      subst ec_
      clear en_
      have ea_ := Option.some.inj (hx395_4.symm.trans hx396_4)
      injection ea_ with ea_ en_ ec_
      subst ea_
      subst ec_
      clear en_
      go_wp2
      repeat (go_quiet (fail); try go_wp2)
      go_roundg k1
      case measure => have := HK1.out; omega
      case rel => exact ⟨(ji7), (wrap64 (x4_1 + 1)), (by first | rfl | (simp; done) | (simp only [← hji7] <;> (first | rfl | simp)) | (simp [*]; done)), (by first | rfl | (simp; done) | (simp [*]; done)), H', ⟨by have := HK1.out; omega⟩, ⟨bx BK394.out⟩, ⟨bl HB⟩⟩
     ·
      rw [if_neg c5] at H
      exact absurd H (by simp)
    ·
     rw [if_neg c4] at H
     have c4b0 : decide (x4_1 < 9) = false := decide_eq_false c4
     clear c4
     by_cases c9 : x3_1 > 16
     ·
      rw [if_pos c9] at H
      have c9b0 : decide (16 < x3_1) = true := decide_eq_true c9
      clear c9
      obtain rfl := Option.some.inj H
      have hcz10_0 := bk1 BK394.out
      have hfz10_0 := bf BK394.out
      go_wp2
      repeat (go_quiet (fail); try go_wp2)
      go_ret
      exact ⟨by first | rfl | (simp [errW_none, errW_some] <;> rfl) | (simp [*, errW_none, errW_some] <;> rfl), bl HB⟩
     ·
      rw [if_neg c9] at H
      have c9b0 : decide (16 < x3_1) = false := decide_eq_false c9
      clear c9
      replace H := Option.bind_eq_some_iff.mp H
      obtain ⟨t397, A110, H⟩ := H
      replace H : (if t397 = true then (some true) else ((portolanref04_Check.f k1 l0_0).bind fun t398 => (some (t398 != 0)))) = some r := H
      have A11 := Aside0.mk A110
      clear A110
      by_cases c12 : t397 = true
      ·
       subst c12
       have H1 : (some true) = some r := by rw [if_pos rfl] at H; exact H
       clear H
       have H := H1
       clear H1
       obtain rfl := Option.some.inj H
       have hcz13_0 := bk1 BK394.out
       have hfz13_0 := bf BK394.out
       go_wp2_with (first | (go_at_call 34; (with_reducible refine (portolanref03_Great.calls k1 _ _ l0_0 true _ ?side1 ?side2 A11.out).mono ?_); (case side1 => exact Kd.Cx (Kd.C_below HR0_0.out HB.out)); (case side2 => exact HC0_0.out); rintro e w14 ⟨rfl, hb⟩; replace BK394 := Aside0.mk (blk_below (bx BK394.out) hb); replace HB := Aside0.mk (below_step (bl HB) hb); (try clear hb); (try clear hb2); (try clear hk); (try clear hi)))
       repeat (go_quiet (first | (go_at_call 34; (with_reducible refine (portolanref03_Great.calls k1 _ _ l0_0 true _ ?side1 ?side2 A11.out).mono ?_); (case side1 => exact Kd.Cx (Kd.C_below HR0_0.out HB.out)); (case side2 => exact HC0_0.out); rintro e w14 ⟨rfl, hb⟩; replace BK394 := Aside0.mk (blk_below (bx BK394.out) hb); replace HB := Aside0.mk (below_step (bl HB) hb); (try clear hb); (try clear hb2); (try clear hk); (try clear hi))); try go_wp2_with (first | (go_at_call 34; (with_reducible refine (portolanref03_Great.calls k1 _ _ l0_0 true _ ?side1 ?side2 A11.out).mono ?_); (case side1 => exact Kd.Cx (Kd.C_below HR0_0.out HB.out)); (case side2 => exact HC0_0.out); rintro e w14 ⟨rfl, hb⟩; replace BK394 := Aside0.mk (blk_below (bx BK394.out) hb); replace HB := Aside0.mk (below_step (bl HB) hb); (try clear hb); (try clear hb2); (try clear hk); (try clear hi))))
       go_ret
       exact ⟨by first | rfl | (simp [errW_none, errW_some] <;> rfl) | (simp [*, errW_none, errW_some] <;> rfl), bl HB⟩
      ·
       replace c12 := Bool.eq_false_iff.mpr c12
       subst c12
       have H1 : ((portolanref04_Check.f k1 l0_0).bind fun t398 => (some (t398 != 0))) = some r := by rw [if_neg (show ¬ (false = true) by decide)] at H; exact H
       clear H
       have H := H1
       clear H1
       replace H := Option.bind_eq_some_iff.mp H
       obtain ⟨t398, A150, H⟩ := H
       replace H : (some (t398 != 0)) = some r := H
       have A15 := Aside0.mk A150
       clear A150
       obtain rfl := Option.some.inj H
       have hcz16_0 := bk1 BK394.out
       have hfz16_0 := bf BK394.out
       go_wp2_with (first | (go_at_call 34; (with_reducible refine (portolanref03_Great.calls k1 _ _ l0_0 false _ ?side1 ?side2 A11.out).mono ?_); (case side1 => exact Kd.Cx (Kd.C_below HR0_0.out HB.out)); (case side2 => exact HC0_0.out); rintro e w17 ⟨rfl, hb⟩; replace BK394 := Aside0.mk (blk_below (bx BK394.out) hb); replace HB := Aside0.mk (below_step (bl HB) hb); (try clear hb); (try clear hb2); (try clear hk); (try clear hi); have hcz18_0 := bk1 BK394.out; have hfz18_0 := bf BK394.out) | (go_at_call 35; (with_reducible refine (portolanref04_Check.calls k1 _ _ l0_0 t398 _ ?side1 ?side2 A15.out).mono ?_); (case side1 => exact Kd.Cx (Kd.C_below HR0_0.out HB.out)); (case side2 => exact HC0_0.out); rintro e w19 ⟨rfl, hb⟩; replace BK394 := Aside0.mk (blk_below (bx BK394.out) hb); replace HB := Aside0.mk (below_step (bl HB) hb); (try clear hb); (try clear hb2); (try clear hk); (try clear hi)))
       repeat (go_quiet (first | (go_at_call 34; (with_reducible refine (portolanref03_Great.calls k1 _ _ l0_0 false _ ?side1 ?side2 A11.out).mono ?_); (case side1 => exact Kd.Cx (Kd.C_below HR0_0.out HB.out)); (case side2 => exact HC0_0.out); rintro e w17 ⟨rfl, hb⟩; replace BK394 := Aside0.mk (blk_below (bx BK394.out) hb); replace HB := Aside0.mk (below_step (bl HB) hb); (try clear hb); (try clear hb2); (try clear hk); (try clear hi); have hcz18_0 := bk1 BK394.out; have hfz18_0 := bf BK394.out) | (go_at_call 35; (with_reducible refine (portolanref04_Check.calls k1 _ _ l0_0 t398 _ ?side1 ?side2 A15.out).mono ?_); (case side1 => exact Kd.Cx (Kd.C_below HR0_0.out HB.out)); (case side2 => exact HC0_0.out); rintro e w19 ⟨rfl, hb⟩; replace BK394 := Aside0.mk (blk_below (bx BK394.out) hb); replace HB := Aside0.mk (below_step (bl HB) hb); (try clear hb); (try clear hb2); (try clear hk); (try clear hi))); try go_wp2_with (first | (go_at_call 34; (with_reducible refine (portolanref03_Great.calls k1 _ _ l0_0 false _ ?side1 ?side2 A11.out).mono ?_); (case side1 => exact Kd.Cx (Kd.C_below HR0_0.out HB.out)); (case side2 => exact HC0_0.out); rintro e w17 ⟨rfl, hb⟩; replace BK394 := Aside0.mk (blk_below (bx BK394.out) hb); replace HB := Aside0.mk (below_step (bl HB) hb); (try clear hb); (try clear hb2); (try clear hk); (try clear hi); have hcz18_0 := bk1 BK394.out; have hfz18_0 := bf BK394.out) | (go_at_call 35; (with_reducible refine (portolanref04_Check.calls k1 _ _ l0_0 t398 _ ?side1 ?side2 A15.out).mono ?_); (case side1 => exact Kd.Cx (Kd.C_below HR0_0.out HB.out)); (case side2 => exact HC0_0.out); rintro e w19 ⟨rfl, hb⟩; replace BK394 := Aside0.mk (blk_below (bx BK394.out) hb); replace HB := Aside0.mk (below_step (bl HB) hb); (try clear hb); (try clear hb2); (try clear hk); (try clear hi))))
       go_ret
       exact ⟨by first | rfl | (simp [errW_none, errW_some] <;> rfl) | (simp [*, errW_none, errW_some] <;> rfl), bl HB⟩
   ·
    rw [if_neg c3] at H
    have c3b0 : decide (x4_1 < (l0_0.length : Int)) = false := decide_eq_false c3
    clear c3
    by_cases c20 : x3_1 > 16
    ·
     rw [if_pos c20] at H
     have c20b0 : decide (16 < x3_1) = true := decide_eq_true c20
     clear c20
     obtain rfl := Option.some.inj H
     have hcz21_0 := bk1 BK394.out
     have hfz21_0 := bf BK394.out
     go_wp2
     repeat (go_quiet (fail); try go_wp2)
     go_ret
     exact ⟨by first | rfl | (simp [errW_none, errW_some] <;> rfl) | (simp [*, errW_none, errW_some] <;> rfl), bl HB⟩
    ·
     rw [if_neg c20] at H
     have c20b0 : decide (16 < x3_1) = false := decide_eq_false c20
     clear c20
     replace H := Option.bind_eq_some_iff.mp H
     obtain ⟨t399, A220, H⟩ := H
     replace H : (if t399 = true then (some true) else ((portolanref04_Check.f k1 l0_0).bind fun t400 => (some (t400 != 0)))) = some r := H
     have A22 := Aside0.mk A220
     clear A220
     by_cases c23 : t399 = true
     ·
      subst c23
      have H1 : (some true) = some r := by rw [if_pos rfl] at H; exact H
      clear H
      have H := H1
      clear H1
      obtain rfl := Option.some.inj H
      have hcz24_0 := bk1 BK394.out
      have hfz24_0 := bf BK394.out
      go_wp2_with (first | (go_at_call 34; (with_reducible refine (portolanref03_Great.calls k1 _ _ l0_0 true _ ?side1 ?side2 A22.out).mono ?_); (case side1 => exact Kd.Cx (Kd.C_below HR0_0.out HB.out)); (case side2 => exact HC0_0.out); rintro e w25 ⟨rfl, hb⟩; replace BK394 := Aside0.mk (blk_below (bx BK394.out) hb); replace HB := Aside0.mk (below_step (bl HB) hb); (try clear hb); (try clear hb2); (try clear hk); (try clear hi)))
      repeat (go_quiet (first | (go_at_call 34; (with_reducible refine (portolanref03_Great.calls k1 _ _ l0_0 true _ ?side1 ?side2 A22.out).mono ?_); (case side1 => exact Kd.Cx (Kd.C_below HR0_0.out HB.out)); (case side2 => exact HC0_0.out); rintro e w25 ⟨rfl, hb⟩; replace BK394 := Aside0.mk (blk_below (bx BK394.out) hb); replace HB := Aside0.mk (below_step (bl HB) hb); (try clear hb); (try clear hb2); (try clear hk); (try clear hi))); try go_wp2_with (first | (go_at_call 34; (with_reducible refine (portolanref03_Great.calls k1 _ _ l0_0 true _ ?side1 ?side2 A22.out).mono ?_); (case side1 => exact Kd.Cx (Kd.C_below HR0_0.out HB.out)); (case side2 => exact HC0_0.out); rintro e w25 ⟨rfl, hb⟩; replace BK394 := Aside0.mk (blk_below (bx BK394.out) hb); replace HB := Aside0.mk (below_step (bl HB) hb); (try clear hb); (try clear hb2); (try clear hk); (try clear hi))))
      go_ret
      exact ⟨by first | rfl | (simp [errW_none, errW_some] <;> rfl) | (simp [*, errW_none, errW_some] <;> rfl), bl HB⟩
     ·
      replace c23 := Bool.eq_false_iff.mpr c23
      subst c23
      have H1 : ((portolanref04_Check.f k1 l0_0).bind fun t400 => (some (t400 != 0))) = some r := by rw [if_neg (show ¬ (false = true) by decide)] at H; exact H
      clear H
      have H := H1
      clear H1
      replace H := Option.bind_eq_some_iff.mp H
      obtain ⟨t400, A260, H⟩ := H
      replace H : (some (t400 != 0)) = some r := H
      have A26 := Aside0.mk A260
      clear A260
      obtain rfl := Option.some.inj H
      have hcz27_0 := bk1 BK394.out
      have hfz27_0 := bf BK394.out
      go_wp2_with (first | (go_at_call 34; (with_reducible refine (portolanref03_Great.calls k1 _ _ l0_0 false _ ?side1 ?side2 A22.out).mono ?_); (case side1 => exact Kd.Cx (Kd.C_below HR0_0.out HB.out)); (case side2 => exact HC0_0.out); rintro e w28 ⟨rfl, hb⟩; replace BK394 := Aside0.mk (blk_below (bx BK394.out) hb); replace HB := Aside0.mk (below_step (bl HB) hb); (try clear hb); (try clear hb2); (try clear hk); (try clear hi); have hcz29_0 := bk1 BK394.out; have hfz29_0 := bf BK394.out) | (go_at_call 35; (with_reducible refine (portolanref04_Check.calls k1 _ _ l0_0 t400 _ ?side1 ?side2 A26.out).mono ?_); (case side1 => exact Kd.Cx (Kd.C_below HR0_0.out HB.out)); (case side2 => exact HC0_0.out); rintro e w30 ⟨rfl, hb⟩; replace BK394 := Aside0.mk (blk_below (bx BK394.out) hb); replace HB := Aside0.mk (below_step (bl HB) hb); (try clear hb); (try clear hb2); (try clear hk); (try clear hi)))
      repeat (go_quiet (first | (go_at_call 34; (with_reducible refine (portolanref03_Great.calls k1 _ _ l0_0 false _ ?side1 ?side2 A22.out).mono ?_); (case side1 => exact Kd.Cx (Kd.C_below HR0_0.out HB.out)); (case side2 => exact HC0_0.out); rintro e w28 ⟨rfl, hb⟩; replace BK394 := Aside0.mk (blk_below (bx BK394.out) hb); replace HB := Aside0.mk (below_step (bl HB) hb); (try clear hb); (try clear hb2); (try clear hk); (try clear hi); have hcz29_0 := bk1 BK394.out; have hfz29_0 := bf BK394.out) | (go_at_call 35; (with_reducible refine (portolanref04_Check.calls k1 _ _ l0_0 t400 _ ?side1 ?side2 A26.out).mono ?_); (case side1 => exact Kd.Cx (Kd.C_below HR0_0.out HB.out)); (case side2 => exact HC0_0.out); rintro e w30 ⟨rfl, hb⟩; replace BK394 := Aside0.mk (blk_below (bx BK394.out) hb); replace HB := Aside0.mk (below_step (bl HB) hb); (try clear hb); (try clear hb2); (try clear hk); (try clear hi))); try go_wp2_with (first | (go_at_call 34; (with_reducible refine (portolanref03_Great.calls k1 _ _ l0_0 false _ ?side1 ?side2 A22.out).mono ?_); (case side1 => exact Kd.Cx (Kd.C_below HR0_0.out HB.out)); (case side2 => exact HC0_0.out); rintro e w28 ⟨rfl, hb⟩; replace BK394 := Aside0.mk (blk_below (bx BK394.out) hb); replace HB := Aside0.mk (below_step (bl HB) hb); (try clear hb); (try clear hb2); (try clear hk); (try clear hi); have hcz29_0 := bk1 BK394.out; have hfz29_0 := bf BK394.out) | (go_at_call 35; (with_reducible refine (portolanref04_Check.calls k1 _ _ l0_0 t400 _ ?side1 ?side2 A26.out).mono ?_); (case side1 => exact Kd.Cx (Kd.C_below HR0_0.out HB.out)); (case side2 => exact HC0_0.out); rintro e w30 ⟨rfl, hb⟩; replace BK394 := Aside0.mk (blk_below (bx BK394.out) hb); replace HB := Aside0.mk (below_step (bl HB) hb); (try clear hb); (try clear hb2); (try clear hk); (try clear hi))))
      go_ret
      exact ⟨by first | rfl | (simp [errW_none, errW_some] <;> rfl) | (simp [*, errW_none, errW_some] <;> rfl), bl HB⟩
def portolanref05_Next.f (l0_0 : List Int) (l0_1 : List Int) (a0_2 : Int) (a0_3 : Int) (l0_4 : List (S40)) (a1 : Int) : Option (List Int) := if a1 < 0 then (some ([] : List Int)) else (if a1 ≥ (l0_4.length : Int) then (some ([] : List Int)) else (if 0 ≤ a1 then (if a1 < (l0_4.length : Int) then (if (((rd_T40 l0_4 a1).f0).length : Int) = 0 then (some ([] : List Int)) else (if 0 ≤ (wrap64 ((((rd_T40 l0_4 a1).f0).length : Int) - 1)) then (if (wrap64 ((((rd_T40 l0_4 a1).f0).length : Int) - 1)) < (((rd_T40 l0_4 a1).f0).length : Int) then ((portolanref04_Next.f ((rd_T44 ((rd_T40 l0_4 a1).f0) (wrap64 ((((rd_T40 l0_4 a1).f0).length : Int) - 1))).f0) ((rd_T44 ((rd_T40 l0_4 a1).f0) (wrap64 ((((rd_T40 l0_4 a1).f0).length : Int) - 1))).f1) ((rd_T44 ((rd_T40 l0_4 a1).f0) (wrap64 ((((rd_T40 l0_4 a1).f0).length : Int) - 1))).f2) ((rd_T44 ((rd_T40 l0_4 a1).f0) (wrap64 ((((rd_T40 l0_4 a1).f0).length : Int) - 1))).f3) ((rd_T44 ((rd_T40 l0_4 a1).f0) (wrap64 ((((rd_T40 l0_4 a1).f0).length : Int) - 1))).f4) ((rd_T44 ((rd_T40 l0_4 a1).f0) (wrap64 ((((rd_T40 l0_4 a1).f0).length : Int) - 1))).f5) ((rd_T44 ((rd_T40 l0_4 a1).f0) (wrap64 ((((rd_T40 l0_4 a1).f0).length : Int) - 1))).f6)).bind fun t405 => (some t405)) else (none)) else (none))) else (none)) else (none)))
set_option maxHeartbeats 8000000 in
set_option maxRecDepth 100000 in
theorem portolanref05_Next.calls (A0_0 : Option Addr) (c0_0 : Nat) (l0_0 : List Int) (A0_1 : Option Addr) (c0_1 : Nat) (l0_1 : List Int) (a0_2 : Int) (a0_3 : Int) (A0_4 : Option Addr) (c0_4 : Nat) (l0_4 : List (S40)) (a1 : Int) (r : List Int) (w : World) (hr0_0 : Kd.C (Kd.int .i64) w A0_0 l0_0.length l0_0) (hc0_0 : l0_0.length ≤ c0_0) (hr0_1 : Kd.C (Kd.int .i64) w A0_1 l0_1.length l0_1) (hc0_1 : l0_1.length ≤ c0_1) (hr0_4 : Kd.C k40 w A0_4 l0_4.length l0_4) (hc0_4 : l0_4.length ≤ c0_4) (h : portolanref05_Next.f l0_0 l0_1 a0_2 a0_3 l0_4 a1 = some r) :
  Calls Tryd.prog 9 #[.agg #[.slice A0_0 l0_0.length c0_0, .slice A0_1 l0_1.length c0_1, .int .i64 a0_2, .int .i64 a0_3, .slice A0_4 l0_4.length c0_4], .int .i64 a1] w fun e w' => ∃ v0_ : Value, e = .returned (v0_) ∧ Kd.R (Kd.int .i64) 3 w' w.heap.size (fun _ => True) v0_ r ∧ Below w.heap.size w w' := by
 have hu30 := Tryd.underlying30
 have hu44 := Tryd.underlying44
 have HR0_0 := Aside0.mk hr0_0
 have HC0_0 := Aside0.mk hc0_0
 clear hr0_0 hc0_0
 have HR0_1 := Aside0.mk hr0_1
 have HC0_1 := Aside0.mk hc0_1
 clear hr0_1 hc0_1
 have HR0_4 := Aside0.mk hr0_4
 have HC0_4 := Aside0.mk hc0_4
 clear hr0_4 hc0_4
 have HB := Aside0.mk (Below.refl w.heap.size w)
 have H : (if a1 < 0 then (some ([] : List Int)) else (if a1 ≥ (l0_4.length : Int) then (some ([] : List Int)) else (if 0 ≤ a1 then (if a1 < (l0_4.length : Int) then (if (((rd_T40 l0_4 a1).f0).length : Int) = 0 then (some ([] : List Int)) else (if 0 ≤ (wrap64 ((((rd_T40 l0_4 a1).f0).length : Int) - 1)) then (if (wrap64 ((((rd_T40 l0_4 a1).f0).length : Int) - 1)) < (((rd_T40 l0_4 a1).f0).length : Int) then ((portolanref04_Next.f ((rd_T44 ((rd_T40 l0_4 a1).f0) (wrap64 ((((rd_T40 l0_4 a1).f0).length : Int) - 1))).f0) ((rd_T44 ((rd_T40 l0_4 a1).f0) (wrap64 ((((rd_T40 l0_4 a1).f0).length : Int) - 1))).f1) ((rd_T44 ((rd_T40 l0_4 a1).f0) (wrap64 ((((rd_T40 l0_4 a1).f0).length : Int) - 1))).f2) ((rd_T44 ((rd_T40 l0_4 a1).f0) (wrap64 ((((rd_T40 l0_4 a1).f0).length : Int) - 1))).f3) ((rd_T44 ((rd_T40 l0_4 a1).f0) (wrap64 ((((rd_T40 l0_4 a1).f0).length : Int) - 1))).f4) ((rd_T44 ((rd_T40 l0_4 a1).f0) (wrap64 ((((rd_T40 l0_4 a1).f0).length : Int) - 1))).f5) ((rd_T44 ((rd_T40 l0_4 a1).f0) (wrap64 ((((rd_T40 l0_4 a1).f0).length : Int) - 1))).f6)).bind fun t405 => (some t405)) else (none)) else (none))) else (none)) else (none)))) = some r := h
 clear h
 by_cases c3 : a1 < 0
 ·
  rw [if_pos c3] at H
  have c3b0 : decide (a1 < 0) = true := decide_eq_true c3
  clear c3
  obtain rfl := Option.some.inj H
  go_enter Tryd.func9, Tryd.ntmps9
  go_wp2_with (first | ((with_reducible refine gate_dst (N := 2) rfl ?_); (try (refine gate_guard (by rfl) ?_; dsimp only)); refine box_event ?hg (N := 2) ?hd (cs := #[.slice A0_0 l0_0.length c0_0, .slice A0_1 l0_1.length c0_1, .int .i64 a0_2, .int .i64 a0_3, .slice A0_4 l0_4.length c0_4]) (t := 30) ?hr ?_; (case hd => rfl); (case hg => rfl); (case hr => first | (go_simp; done) | (go_simp; rfl)); intro gb401 hg w4 hbox hb; have BK401 := Aside0.mk (hbox); have GW401 := ge hg (bl HB); have GE401 := ge hg (bl HB); replace HB := Aside0.mk (below_step (bl HB) hb); clear hb hbox hg))
  go_ret
  exact ⟨_, by first | rfl | (simp [errW_none, errW_some] <;> rfl) | (simp [*, errW_none, errW_some] <;> rfl), by first | exact Kd.R_nil _ _ _ _ _ | exact Kd.N_nil _ _ _ _ _ | exact Kd.V_nil _ _ _ _ _ | exact Kd.Q_nil _ _ _ _ _ | exact Kd.S_nil _ _ _ _ _, bl HB⟩
 ·
  rw [if_neg c3] at H
  have c3b0 : decide (a1 < 0) = false := decide_eq_false c3
  clear c3
  by_cases c5 : a1 ≥ (l0_4.length : Int)
  ·
   rw [if_pos c5] at H
   have c5b0 : decide ((l0_4.length : Int) ≤ a1) = true := decide_eq_true c5
   clear c5
   obtain rfl := Option.some.inj H
   go_enter Tryd.func9, Tryd.ntmps9
   go_wp2_with (first | ((with_reducible refine gate_dst (N := 2) rfl ?_); (try (refine gate_guard (by rfl) ?_; dsimp only)); refine box_event ?hg (N := 2) ?hd (cs := #[.slice A0_0 l0_0.length c0_0, .slice A0_1 l0_1.length c0_1, .int .i64 a0_2, .int .i64 a0_3, .slice A0_4 l0_4.length c0_4]) (t := 30) ?hr ?_; (case hd => rfl); (case hg => rfl); (case hr => first | (go_simp; done) | (go_simp; rfl)); intro gb401 hg w6 hbox hb; have BK401 := Aside0.mk (hbox); have GW401 := ge hg (bl HB); have GE401 := ge hg (bl HB); replace HB := Aside0.mk (below_step (bl HB) hb); clear hb hbox hg; obtain ⟨hcz7_0, hcz7_1, hcz7_2, hcz7_3, hcz7_4⟩ := bk5 BK401.out; have hfz7_0 := bf BK401.out))
   go_ret
   exact ⟨_, by first | rfl | (simp [errW_none, errW_some] <;> rfl) | (simp [*, errW_none, errW_some] <;> rfl), by first | exact Kd.R_nil _ _ _ _ _ | exact Kd.N_nil _ _ _ _ _ | exact Kd.V_nil _ _ _ _ _ | exact Kd.Q_nil _ _ _ _ _ | exact Kd.S_nil _ _ _ _ _, bl HB⟩
  ·
   rw [if_neg c5] at H
   have c5b0 : decide ((l0_4.length : Int) ≤ a1) = false := decide_eq_false c5
   clear c5
   by_cases c8 : 0 ≤ a1
   ·
    rw [if_pos c8] at H
    have c8b0 : decide (0 ≤ a1) = true := decide_eq_true c8
    clear c8
    by_cases c9 : a1 < (l0_4.length : Int)
    ·
     rw [if_pos c9] at H
     have c9b0 : decide (a1 < (l0_4.length : Int)) = true := decide_eq_true c9
     clear c9
     by_cases c10 : (((rd_T40 l0_4 a1).f0).length : Int) = 0
     ·
      rw [if_pos c10] at H
      have c10b0 : ((((rd_T40 l0_4 a1).f0).length : Int) == 0) = true := beq_iff_eq.mpr c10
      have c10b1 : ((((rd_T40 l0_4 a1).f0).length : Int) != 0) = false := bne_eq_false_iff_eq.mpr c10
      clear c10
      obtain rfl := Option.some.inj H
      go_enter Tryd.func9, Tryd.ntmps9
      go_wp2_with (first | ((with_reducible refine gate_dst (N := 2) rfl ?_); (try (refine gate_guard (by rfl) ?_; dsimp only)); refine box_event ?hg (N := 2) ?hd (cs := #[.slice A0_0 l0_0.length c0_0, .slice A0_1 l0_1.length c0_1, .int .i64 a0_2, .int .i64 a0_3, .slice A0_4 l0_4.length c0_4]) (t := 30) ?hr ?_; (case hd => rfl); (case hg => rfl); (case hr => first | (go_simp; done) | (go_simp; rfl)); intro gb401 hg w11 hbox hb; have BK401 := Aside0.mk (hbox); have GW401 := ge hg (bl HB); have GE401 := ge hg (bl HB); replace HB := Aside0.mk (below_step (bl HB) hb); clear hb hbox hg; obtain ⟨hcz12_0, hcz12_1, hcz12_2, hcz12_3, hcz12_4⟩ := bk5 BK401.out; have hfz12_0 := bf BK401.out; have p402 : 0 ≤ (a1 : Int) := of_decide_eq_true (by assumption); have q402 : a1 < (l0_4.length : Int) := of_decide_eq_true (by assumption); obtain ⟨ad402, A402_0, c402_0, e402, hx402_0, hl402_0, hi402_0⟩ := at_T40 HR0_4.out a1 p402 q402; cases e402; replace hx402_0 := (HB.out.cell (World.block_lt_of_cell? w _ hx402_0)).trans hx402_0; have HR402_0 := Aside0.mk hi402_0; have HC402_0 := Aside0.mk hl402_0; clear hi402_0 hl402_0; replace p402 := eq_true p402; replace q402 := eq_true q402))
      go_ret
      exact ⟨_, by first | rfl | (simp [errW_none, errW_some] <;> rfl) | (simp [*, errW_none, errW_some] <;> rfl), by first | exact Kd.R_nil _ _ _ _ _ | exact Kd.N_nil _ _ _ _ _ | exact Kd.V_nil _ _ _ _ _ | exact Kd.Q_nil _ _ _ _ _ | exact Kd.S_nil _ _ _ _ _, bl HB⟩
     ·
      rw [if_neg c10] at H
      have c10b0 : ((((rd_T40 l0_4 a1).f0).length : Int) == 0) = false := beq_eq_false_iff_ne.mpr c10
      have c10b1 : ((((rd_T40 l0_4 a1).f0).length : Int) != 0) = true := bne_iff_ne.mpr c10
      have c10b2 : ¬ (((rd_T40 l0_4 a1).f0) = []) := fun h_ => c10 (by rw [h_]; rfl)
      obtain ⟨ji13, hji13⟩ : ∃ j_ : Int, (wrap64 ((((rd_T40 l0_4 a1).f0).length : Int) - 1)) = j_ := ⟨_, rfl⟩
      replace H : (if 0 ≤ (ji13) then (if (ji13) < (((rd_T40 l0_4 a1).f0).length : Int) then ((portolanref04_Next.f ((rd_T44 ((rd_T40 l0_4 a1).f0) (ji13)).f0) ((rd_T44 ((rd_T40 l0_4 a1).f0) (ji13)).f1) ((rd_T44 ((rd_T40 l0_4 a1).f0) (ji13)).f2) ((rd_T44 ((rd_T40 l0_4 a1).f0) (ji13)).f3) ((rd_T44 ((rd_T40 l0_4 a1).f0) (ji13)).f4) ((rd_T44 ((rd_T40 l0_4 a1).f0) (ji13)).f5) ((rd_T44 ((rd_T40 l0_4 a1).f0) (ji13)).f6)).bind fun t405 => (some t405)) else (none)) else (none)) = some r := by first | (rw [hji13] at H; exact H) | (simp only [hji13] at H ⊢; exact H)
      have hji13w : (IntKind.i64.wrap ((((rd_T40 l0_4 a1).f0).length : Int) - 1)) = ji13 := (i64_w _).trans hji13
      by_cases c14 : 0 ≤ (ji13)
      ·
       rw [if_pos c14] at H
       have c14b0 : decide (0 ≤ (ji13)) = true := decide_eq_true c14
       clear c14
       by_cases c15 : (ji13) < (((rd_T40 l0_4 a1).f0).length : Int)
       ·
        rw [if_pos c15] at H
        have c15b0 : decide ((ji13) < (((rd_T40 l0_4 a1).f0).length : Int)) = true := decide_eq_true c15
        clear c15
        replace H := Option.bind_eq_some_iff.mp H
        obtain ⟨t405, A160, H⟩ := H
        replace H : (some t405) = some r := H
        have A16 := Aside0.mk A160
        clear A160
        obtain rfl := Option.some.inj H
        go_enter Tryd.func9, Tryd.ntmps9
        go_wp2_with (first | ((with_reducible refine gate_dst (N := 2) rfl ?_); (try (refine gate_guard (by rfl) ?_; dsimp only)); refine box_event ?hg (N := 2) ?hd (cs := #[.slice A0_0 l0_0.length c0_0, .slice A0_1 l0_1.length c0_1, .int .i64 a0_2, .int .i64 a0_3, .slice A0_4 l0_4.length c0_4]) (t := 30) ?hr ?_; (case hd => rfl); (case hg => rfl); (case hr => first | (go_simp; done) | (go_simp; rfl)); intro gb401 hg w17 hbox hb; have BK401 := Aside0.mk (hbox); have GW401 := ge hg (bl HB); have GE401 := ge hg (bl HB); replace HB := Aside0.mk (below_step (bl HB) hb); clear hb hbox hg; obtain ⟨hcz18_0, hcz18_1, hcz18_2, hcz18_3, hcz18_4⟩ := bk5 BK401.out; have hfz18_0 := bf BK401.out; have p402 : 0 ≤ (a1 : Int) := of_decide_eq_true (by assumption); have q402 : a1 < (l0_4.length : Int) := of_decide_eq_true (by assumption); obtain ⟨ad402, A402_0, c402_0, e402, hx402_0, hl402_0, hi402_0⟩ := at_T40 HR0_4.out a1 p402 q402; cases e402; replace hx402_0 := (HB.out.cell (World.block_lt_of_cell? w _ hx402_0)).trans hx402_0; have HR402_0 := Aside0.mk hi402_0; have HC402_0 := Aside0.mk hl402_0; clear hi402_0 hl402_0; replace p402 := eq_true p402; replace q402 := eq_true q402; have p403 : 0 ≤ (a1 : Int) := of_decide_eq_true (by assumption); have q403 : a1 < (l0_4.length : Int) := of_decide_eq_true (by assumption); obtain ⟨ad403, A403_0, c403_0, e403, hx403_0, hl403_0, hi403_0⟩ := at_T40 HR0_4.out a1 p403 q403; obtain rfl : ad402 = ad403 := (by injection e403); replace hx403_0 := (HB.out.cell (World.block_lt_of_cell? w _ hx403_0)).trans hx403_0; have HR403_0 := Aside0.mk hi403_0; have HC403_0 := Aside0.mk hl403_0; clear hi403_0 hl403_0; replace p403 := eq_true p403; replace q403 := eq_true q403; have ea_ := Option.some.inj (hx402_0.symm.trans hx403_0); injection ea_ with ea_ en_ ec_; subst ea_; subst ec_; clear en_; have p404 : 0 ≤ ((ji13) : Int) := of_decide_eq_true (by assumption); have q404 : (ji13) < (((rd_T40 l0_4 a1).f0).length : Int) := of_decide_eq_true (by assumption); obtain ⟨ad404, A404_6, c404_6, e404, hx404_0, hx404_1, hx404_2, hx404_3, hx404_4, hx404_5, hx404_6, hl404_6, hi404_6⟩ := at_T44 HR403_0.out (ji13) p404 q404; cases e404; replace hx404_0 := (HB.out.cell (World.block_lt_of_cell? w _ hx404_0)).trans hx404_0; replace hx404_1 := (HB.out.cell (World.block_lt_of_cell? w _ hx404_1)).trans hx404_1; replace hx404_2 := (HB.out.cell (World.block_lt_of_cell? w _ hx404_2)).trans hx404_2; replace hx404_3 := (HB.out.cell (World.block_lt_of_cell? w _ hx404_3)).trans hx404_3; replace hx404_4 := (HB.out.cell (World.block_lt_of_cell? w _ hx404_4)).trans hx404_4; replace hx404_5 := (HB.out.cell (World.block_lt_of_cell? w _ hx404_5)).trans hx404_5; replace hx404_6 := (HB.out.cell (World.block_lt_of_cell? w _ hx404_6)).trans hx404_6; have HR404_6 := Aside0.mk hi404_6; have HC404_6 := Aside0.mk hl404_6; clear hi404_6 hl404_6; replace p404 := eq_true p404; replace q404 := eq_true q404) | ((with_reducible refine gate_callee (f := 36) rfl ?_); refine goesL_ (some 37) rfl rfl Tryd.func36 (by kernel_rfl) rfl #[.agg #[.int .i64 ((rd_T44 ((rd_T40 l0_4 a1).f0) (ji13)).f0), .int .i64 ((rd_T44 ((rd_T40 l0_4 a1).f0) (ji13)).f1), .int .i64 ((rd_T44 ((rd_T40 l0_4 a1).f0) (ji13)).f2), .int .i64 ((rd_T44 ((rd_T40 l0_4 a1).f0) (ji13)).f3), .int .i64 ((rd_T44 ((rd_T40 l0_4 a1).f0) (ji13)).f4), .int .i64 ((rd_T44 ((rd_T40 l0_4 a1).f0) (ji13)).f5), .slice A404_6 ((rd_T44 ((rd_T40 l0_4 a1).f0) (ji13)).f6).length c404_6]] rfl (by (try simp only [List.map_toArray, List.map_cons, List.map_nil]); first | done | (simp only [hji13]; rfl) | rfl | (simp only [List.length_drop, List.length_take]; rfl)) ?_; (with_reducible refine (portolanref04_Next.calls ((rd_T44 ((rd_T40 l0_4 a1).f0) (ji13)).f0) ((rd_T44 ((rd_T40 l0_4 a1).f0) (ji13)).f1) ((rd_T44 ((rd_T40 l0_4 a1).f0) (ji13)).f2) ((rd_T44 ((rd_T40 l0_4 a1).f0) (ji13)).f3) ((rd_T44 ((rd_T40 l0_4 a1).f0) (ji13)).f4) ((rd_T44 ((rd_T40 l0_4 a1).f0) (ji13)).f5) _ _ ((rd_T44 ((rd_T40 l0_4 a1).f0) (ji13)).f6) t405 _ ?side1 ?side2 A16.out).mono ?_); (case side1 => exact Kd.Cx (Kd.C_below HR404_6.out HB.out)); (case side2 => exact HC404_6.out); rintro e w19 ⟨v406, rfl, ho0, hb⟩; refine ⟨_, rfl, ?_⟩; have HO407 := Aside0.mk (Kd.R_lower ho0 (below_size (bl HB))); replace BK401 := Aside0.mk (blk_below (bx BK401.out) hb); replace HB := Aside0.mk (below_step (bl HB) hb); (try clear hb); (try clear hb2); (try clear hk); (try clear hi); (try clear ho0)))
        go_ret
        exact ⟨_, by first | rfl | (simp [errW_none, errW_some] <;> rfl) | (simp only [← hji13]; first | rfl | (simp [errW_none, errW_some] <;> rfl)) | (simp [*, errW_none, errW_some] <;> rfl), by (with_reducible repeat (first | apply Kd.R_alloc | apply Kd.R_drewN | apply Kd.R_drew)); exact HO407.out, bl HB⟩
       ·
        rw [if_neg c15] at H
        exact absurd H (by simp)
      ·
       rw [if_neg c14] at H
       exact absurd H (by simp)
    ·
     rw [if_neg c9] at H
     exact absurd H (by simp)
   ·
    rw [if_neg c8] at H
    exact absurd H (by simp)
def portolanref02_at.f (l0 : List Int) (a1 : Int) : Option (Int) := if a1 < (l0.length : Int) then (if 0 ≤ a1 then (some (rd l0 a1)) else (none)) else (some 0)
set_option maxHeartbeats 8000000 in
set_option maxRecDepth 100000 in
theorem portolanref02_at.calls (A0 : Option Addr) (c0 : Nat) (l0 : List Int) (a1 : Int) (r : Int) (w : World) (hr0 : Kd.C (Kd.int .u64) w A0 l0.length l0) (hc0 : l0.length ≤ c0) (h : portolanref02_at.f l0 a1 = some r) :
  Calls Tryd.prog 59 #[.slice A0 l0.length c0, .int .i64 a1] w fun e w' => e = .returned (.int .u64 r) ∧ Drawn0 w w' := by
 have HR0 := Aside0.mk hr0
 have HC0 := Aside0.mk hc0
 clear hr0 hc0
 have H : (if a1 < (l0.length : Int) then (if 0 ≤ a1 then (some (rd l0 a1)) else (none)) else (some 0)) = some r := h
 clear h
 by_cases c3 : a1 < (l0.length : Int)
 ·
  rw [if_pos c3] at H
  have c3b0 : decide (a1 < (l0.length : Int)) = true := decide_eq_true c3
  clear c3
  by_cases c4 : 0 ≤ a1
  ·
   rw [if_pos c4] at H
   have c4b0 : decide (0 ≤ a1) = true := decide_eq_true c4
   clear c4
   obtain rfl := Option.some.inj H
   have p408 : 0 ≤ (a1 : Int) := of_decide_eq_true (by assumption)
   have q408 : a1 < (l0.length : Int) := of_decide_eq_true (by assumption)
   obtain ⟨ad408, e408, hx408_0⟩ := Kd.at_int HR0.out a1 p408 q408
   cases e408
   replace p408 := eq_true p408
   replace q408 := eq_true q408
   go_enter Tryd.func59, Tryd.ntmps59
   go_wp2
   go_ret
   exact ⟨by first | rfl | (simp; done) | (simp [*]; done), by repeat (first | exact Drawn0.refl _ | apply Drawn0.step)⟩
  ·
   rw [if_neg c4] at H
   exact absurd H (by simp)
 ·
  rw [if_neg c3] at H
  have c3b0 : decide (a1 < (l0.length : Int)) = false := decide_eq_false c3
  clear c3
  obtain rfl := Option.some.inj H
  go_enter Tryd.func59, Tryd.ntmps59
  go_wp2
  go_ret
  exact ⟨by first | rfl | (simp; done) | (simp [*]; done), by repeat (first | exact Drawn0.refl _ | apply Drawn0.step)⟩
def portolanref02_each.l0 : Nat → List Int → List Int → Int → List Int → Int → Option (List Int)
 | 0, _, _, _, _, _ => none
 | k + 1, x0, x1, x2, x7, x8 => if x8 < (mx (x0.length : Int) (x1.length : Int)) then (if x2 = 0 then ((portolanref02_at.f x0 x8).bind fun t412 => ((portolanref02_at.f x1 x8).bind fun t413 => (if x7.length < 17592186044416 then (portolanref02_each.l0 k x0 x1 x2 (x7 ++ [Go.bits .or .u64 t412 t413]) (wrap64 (x8 + 1))) else (none)))) else (if x2 = 1 then ((portolanref02_at.f x0 x8).bind fun t417 => ((portolanref02_at.f x1 x8).bind fun t418 => (if x7.length < 17592186044416 then (portolanref02_each.l0 k x0 x1 x2 (x7 ++ [Go.bits .and .u64 t417 t418]) (wrap64 (x8 + 1))) else (none)))) else ((portolanref02_at.f x0 x8).bind fun t422 => ((portolanref02_at.f x1 x8).bind fun t423 => (if x7.length < 17592186044416 then (portolanref02_each.l0 k x0 x1 x2 (x7 ++ [Go.bits .andNot .u64 t422 t423]) (wrap64 (x8 + 1))) else (none)))))) else ((portolanref02_Neat.f x7).bind fun t409 => (some t409))
def portolanref02_each.f (k : Nat) (l0 : List Int) (l1 : List Int) (a2 : Int) : Option (List Int) := portolanref02_each.l0 k l0 l1 a2 ([] : List Int) 0
theorem portolanref02_each.mono_l : ∀ k, (∀ y0 y1 y2 y3 y4, LeO (portolanref02_each.l0 k y0 y1 y2 y3 y4) (portolanref02_each.l0 (k + 1) y0 y1 y2 y3 y4))
 | 0 => fun _ _ _ _ _ r h => by simp [portolanref02_each.l0] at h
 | k + 1 => by
  have ih0 := portolanref02_each.mono_l k
  ·
   intro y0 y1 y2 y3 y4
   unfold portolanref02_each.l0
   repeat' first
   | (with_reducible exact ih0 _ _ _ _ _)
   | (with_reducible exact LeO.refl _)
   | (with_reducible exact LeO.none _)
   | (with_reducible refine LeO.ite ?_ ?_)
   | (with_reducible refine LeO.bind ?_ (fun _ => ?_))
   | exact ih0 _ _ _ _ _
   | exact LeO.none _
   | refine LeO.ite ?_ ?_
   | refine LeO.bind ?_ (fun _ => ?_)
theorem portolanref02_each.mono : ∀ a0 a1 a2 k, LeO (portolanref02_each.f k a0 a1 a2) (portolanref02_each.f (k + 1) a0 a1 a2) := by
 intro a0 a1 a2 k
 have ih0 := portolanref02_each.mono_l k
 unfold portolanref02_each.f
 repeat' first
   | (with_reducible exact ih0 _ _ _ _ _)
   | (with_reducible exact LeO.refl _)
   | (with_reducible exact LeO.none _)
   | (with_reducible refine LeO.ite ?_ ?_)
   | (with_reducible refine LeO.bind ?_ (fun _ => ?_))
   | exact ih0 _ _ _ _ _
   | exact LeO.none _
   | refine LeO.ite ?_ ?_
   | refine LeO.bind ?_ (fun _ => ?_)
set_option maxHeartbeats 8000000 in
set_option maxRecDepth 100000 in
theorem portolanref02_each.calls (k : Nat) (A0 : Option Addr) (c0 : Nat) (l0 : List Int) (A1 : Option Addr) (c1 : Nat) (l1 : List Int) (a2 : Int) (r : List Int) (w : World) (hr0 : Kd.C (Kd.int .u64) w A0 l0.length l0) (hc0 : l0.length ≤ c0) (hr1 : Kd.C (Kd.int .u64) w A1 l1.length l1) (hc1 : l1.length ≤ c1) (h : portolanref02_each.f k l0 l1 a2 = some r) :
  Calls Tryd.prog 37 #[.slice A0 l0.length c0, .slice A1 l1.length c1, .int .i64 a2] w fun e w' => ∃ v0_ : Value, e = .returned (v0_) ∧ Kd.R (Kd.int .u64) 67 w' w.heap.size (fun _ => True) v0_ r ∧ Below w.heap.size w w' := by
 have HR0 := Aside0.mk hr0
 have HC0 := Aside0.mk hc0
 clear hr0 hc0
 have HR1 := Aside0.mk hr1
 have HC1 := Aside0.mk hc1
 clear hr1 hc1
 have HB := Aside0.mk (Below.refl w.heap.size w)
 have H : (portolanref02_each.l0 k l0 l1 a2 ([] : List Int) 0) = some r := h
 clear h
 have H' := Aside0.mk H
 clear H
 go_enter Tryd.func37, Tryd.ntmps37
 go_wp2
 go_loopg [7, 8] k (fun kq v7 v8 w' => ∃ (x7_1 : List Int) (x8_1 : Int), v8 = .int .i64 x8_1 ∧ Aside0 (portolanref02_each.l0 kq l0 l1 a2 x7_1 x8_1 = some r) ∧ Aside0 (kq ≤ k) ∧ Aside0 (Kd.R (Kd.int .u64) 67 w' w.heap.size (fun _ => True) v7 x7_1) ∧ Aside0 (Below w.heap.size w w'))
 case atStart => exact ⟨(([] : List Int)), (0), (by first | rfl | (simp; done) | (simp [*]; done)), H', ⟨Nat.le_refl _⟩, ⟨by first | exact Kd.R_nil _ _ _ _ _ | exact Kd.N_nil _ _ _ _ _ | exact Kd.V_nil _ _ _ _ _ | exact Kd.Q_nil _ _ _ _ _ | exact Kd.S_nil _ _ _ _ _⟩, ⟨bl HB⟩⟩
 case round =>
  clear H'
  try clear c1
  try clear p2
  try clear c3
  obtain ⟨x7_1, x8_1, rfl, HA, HK1, HO_7, HB⟩ := hrel
  cases gk with
  | zero => exact absurd HA.out (by simp [portolanref02_each.l0])
  | succ k1 =>
   have H := HA.out
   clear HA
   simp only [portolanref02_each.l0] at H
   obtain ⟨ji4, hji4⟩ : ∃ j_ : Int, (mx (l0.length : Int) (l1.length : Int)) = j_ := ⟨_, rfl⟩
   replace H : (if x8_1 < (ji4) then (if a2 = 0 then ((portolanref02_at.f l0 x8_1).bind fun t412 => ((portolanref02_at.f l1 x8_1).bind fun t413 => (if x7_1.length < 17592186044416 then (portolanref02_each.l0 k1 l0 l1 a2 (x7_1 ++ [Go.bits .or .u64 t412 t413]) (wrap64 (x8_1 + 1))) else (none)))) else (if a2 = 1 then ((portolanref02_at.f l0 x8_1).bind fun t417 => ((portolanref02_at.f l1 x8_1).bind fun t418 => (if x7_1.length < 17592186044416 then (portolanref02_each.l0 k1 l0 l1 a2 (x7_1 ++ [Go.bits .and .u64 t417 t418]) (wrap64 (x8_1 + 1))) else (none)))) else ((portolanref02_at.f l0 x8_1).bind fun t422 => ((portolanref02_at.f l1 x8_1).bind fun t423 => (if x7_1.length < 17592186044416 then (portolanref02_each.l0 k1 l0 l1 a2 (x7_1 ++ [Go.bits .andNot .u64 t422 t423]) (wrap64 (x8_1 + 1))) else (none)))))) else ((portolanref02_Neat.f x7_1).bind fun t409 => (some t409))) = some r := by first | (rw [hji4] at H; exact H) | (simp only [hji4] at H ⊢; exact H)
   have hji4_ : (if (l0.length : Int) < (l1.length : Int) then (l1.length : Int) else (l0.length : Int)) = ji4 := hji4
   have hji4n : (if l0.length < l1.length then (l1.length : Int) else (l0.length : Int)) = ji4 := by rw [← hji4]; simp only [mx, Int.ofNat_lt]
   by_cases c5 : x8_1 < (ji4)
   ·
    rw [if_pos c5] at H
    have c5b0 : decide (x8_1 < (ji4)) = true := decide_eq_true c5
    clear c5
    by_cases c6 : a2 = 0
    ·
     rw [if_pos c6] at H
     have c6b0 : (a2 == 0) = true := beq_iff_eq.mpr c6
     have c6b1 : (a2 != 0) = false := bne_eq_false_iff_eq.mpr c6
     clear c6
     replace H := Option.bind_eq_some_iff.mp H
     obtain ⟨t412, A70, H⟩ := H
     replace H : ((portolanref02_at.f l1 x8_1).bind fun t413 => (if x7_1.length < 17592186044416 then (portolanref02_each.l0 k1 l0 l1 a2 (x7_1 ++ [Go.bits .or .u64 t412 t413]) (wrap64 (x8_1 + 1))) else (none))) = some r := H
     have A7 := Aside0.mk A70
     clear A70
     replace H := Option.bind_eq_some_iff.mp H
     obtain ⟨t413, A80, H⟩ := H
     replace H : (if x7_1.length < 17592186044416 then (portolanref02_each.l0 k1 l0 l1 a2 (x7_1 ++ [Go.bits .or .u64 t412 t413]) (wrap64 (x8_1 + 1))) else (none)) = some r := H
     have A8 := Aside0.mk A80
     clear A80
     by_cases c9 : x7_1.length < 17592186044416
     ·
      rw [if_pos c9] at H
      have LMc9 := Aside0.mk c9
      clear c9
      obtain ⟨y414, hy414⟩ : ∃ y_ : List Int, y_ = (x7_1 ++ [Go.bits .or .u64 t412 t413]) := ⟨_, rfl⟩
      replace H : (portolanref02_each.l0 k1 l0 l1 a2 y414 (wrap64 (x8_1 + 1))) = some r := by first | (rw [hy414]; with_reducible exact H) | (have H2_ := (Option.bind_some _ _).symm.trans H; rw [hy414]; with_reducible exact H2_) | (have H2_ := (Option.bind_some _ _).symm.trans H; with_reducible exact H2_) | with_reducible exact H | (rw [hy414]; exact H) | exact H
      have Ny414 := Aside0.mk hy414
      clear hy414
      have H' := Aside0.mk H
      clear H
      go_wp2_with (first | ((with_reducible refine gate_callee (f := 59) rfl ?_); refine goesL_ (some 34) rfl rfl Tryd.func59 (by kernel_rfl) rfl #[.slice A0 l0.length c0, .int .i64 x8_1] rfl (by (try simp only [List.map_toArray, List.map_cons, List.map_nil]); first | done | rfl) ?_; (with_reducible refine (portolanref02_at.calls _ _ l0 x8_1 t412 _ ?side1 ?side2 A7.out).mono ?_); (case side1 => exact Kd.Cx (Kd.C_below HR0.out HB.out)); (case side2 => exact HC0.out); rintro e w' ⟨rfl, ⟨nd, rfl⟩⟩; refine ⟨_, rfl, ?_⟩) | ((with_reducible refine gate_callee (f := 59) rfl ?_); refine goesL_ (some 37) rfl rfl Tryd.func59 (by kernel_rfl) rfl #[.slice A1 l1.length c1, .int .i64 x8_1] rfl (by (try simp only [List.map_toArray, List.map_cons, List.map_nil]); first | done | rfl) ?_; (with_reducible refine (portolanref02_at.calls _ _ l1 x8_1 t413 _ ?side1 ?side2 A8.out).mono ?_); (case side1 => exact (Kd.C_below HR1.out (bl HB))); (case side2 => exact HC1.out); rintro e w' ⟨rfl, ⟨nd, rfl⟩⟩; refine ⟨_, rfl, ?_⟩) | ((with_reducible refine gate_builtin (b := .append) (xs := #[.tmp 31, .tmp 39]) rfl ?_); at_builtin; refine Kd.R_append (Kd.int .u64) (w0 := w) w.heap.size rfl (.tmp 31) (.tmp 39) 31 67 (.int .u64 0) 8 rfl Tryd.underlying31 info67 rfl (by decide) (by omega) u7 x7_1 (Go.bits .or .u64 t412 t413) [.int .u64 (Go.bits .or .u64 t412 t413)] (fun _ => True) (fun _ => False) rfl rfl ?aP (fun _ hk => hk.elim) ?aF ?aO ?aB ?aS ?aL ?_; (case aP => exact rfl); (case aB => exact (bl HB)); (case aF => exact (fun _ _ => trivial)); (case aO => exact (Kd.Rx HO_7.out)); (case aS => exact (below_size (bl HB))); (case aL => have := LMc9.out; omega); intro v415 w10 ho hb hg hat; rw [← Ny414.out] at ho; replace HB := Aside0.mk (hb); have HO416 := Aside0.mk (ho); clear HO_7; clear ho hb hg hat))
      go_roundg k1
      case measure => have := HK1.out; omega
      case rel => exact ⟨(y414), (wrap64 (x8_1 + 1)), (by first | rfl | (simp; done) | (simp [*]; done)), H', ⟨by have := HK1.out; omega⟩, ⟨by (with_reducible repeat (first | apply Kd.R_alloc | apply Kd.R_drewN | apply Kd.R_drew)); exact HO416.out⟩, ⟨bl HB⟩⟩
     ·
      rw [if_neg c9] at H
      exact absurd H (by simp)
    ·
     rw [if_neg c6] at H
     have c6b0 : (a2 == 0) = false := beq_eq_false_iff_ne.mpr c6
     have c6b1 : (a2 != 0) = true := bne_iff_ne.mpr c6
     by_cases c11 : a2 = 1
     ·
      rw [if_pos c11] at H
      have c11b0 : (a2 == 1) = true := beq_iff_eq.mpr c11
      have c11b1 : (a2 != 1) = false := bne_eq_false_iff_eq.mpr c11
      clear c11
      replace H := Option.bind_eq_some_iff.mp H
      obtain ⟨t417, A120, H⟩ := H
      replace H : ((portolanref02_at.f l1 x8_1).bind fun t418 => (if x7_1.length < 17592186044416 then (portolanref02_each.l0 k1 l0 l1 a2 (x7_1 ++ [Go.bits .and .u64 t417 t418]) (wrap64 (x8_1 + 1))) else (none))) = some r := H
      have A12 := Aside0.mk A120
      clear A120
      replace H := Option.bind_eq_some_iff.mp H
      obtain ⟨t418, A130, H⟩ := H
      replace H : (if x7_1.length < 17592186044416 then (portolanref02_each.l0 k1 l0 l1 a2 (x7_1 ++ [Go.bits .and .u64 t417 t418]) (wrap64 (x8_1 + 1))) else (none)) = some r := H
      have A13 := Aside0.mk A130
      clear A130
      by_cases c14 : x7_1.length < 17592186044416
      ·
       rw [if_pos c14] at H
       have LMc14 := Aside0.mk c14
       clear c14
       obtain ⟨y419, hy419⟩ : ∃ y_ : List Int, y_ = (x7_1 ++ [Go.bits .and .u64 t417 t418]) := ⟨_, rfl⟩
       replace H : (portolanref02_each.l0 k1 l0 l1 a2 y419 (wrap64 (x8_1 + 1))) = some r := by first | (rw [hy419]; with_reducible exact H) | (have H2_ := (Option.bind_some _ _).symm.trans H; rw [hy419]; with_reducible exact H2_) | (have H2_ := (Option.bind_some _ _).symm.trans H; with_reducible exact H2_) | with_reducible exact H | (rw [hy419]; exact H) | exact H
       have Ny419 := Aside0.mk hy419
       clear hy419
       have H' := Aside0.mk H
       clear H
       go_wp2_with (first | ((with_reducible refine gate_callee (f := 59) rfl ?_); refine goesL_ (some 46) rfl rfl Tryd.func59 (by kernel_rfl) rfl #[.slice A0 l0.length c0, .int .i64 x8_1] rfl (by (try simp only [List.map_toArray, List.map_cons, List.map_nil]); first | done | rfl) ?_; (with_reducible refine (portolanref02_at.calls _ _ l0 x8_1 t417 _ ?side1 ?side2 A12.out).mono ?_); (case side1 => exact Kd.Cx (Kd.C_below HR0.out HB.out)); (case side2 => exact HC0.out); rintro e w' ⟨rfl, ⟨nd, rfl⟩⟩; refine ⟨_, rfl, ?_⟩) | ((with_reducible refine gate_callee (f := 59) rfl ?_); refine goesL_ (some 49) rfl rfl Tryd.func59 (by kernel_rfl) rfl #[.slice A1 l1.length c1, .int .i64 x8_1] rfl (by (try simp only [List.map_toArray, List.map_cons, List.map_nil]); first | done | rfl) ?_; (with_reducible refine (portolanref02_at.calls _ _ l1 x8_1 t418 _ ?side1 ?side2 A13.out).mono ?_); (case side1 => exact (Kd.C_below HR1.out (bl HB))); (case side2 => exact HC1.out); rintro e w' ⟨rfl, ⟨nd, rfl⟩⟩; refine ⟨_, rfl, ?_⟩) | ((with_reducible refine gate_builtin (b := .append) (xs := #[.tmp 43, .tmp 51]) rfl ?_); at_builtin; refine Kd.R_append (Kd.int .u64) (w0 := w) w.heap.size rfl (.tmp 43) (.tmp 51) 31 67 (.int .u64 0) 8 rfl Tryd.underlying31 info67 rfl (by decide) (by omega) u7 x7_1 (Go.bits .and .u64 t417 t418) [.int .u64 (Go.bits .and .u64 t417 t418)] (fun _ => True) (fun _ => False) rfl rfl ?aP (fun _ hk => hk.elim) ?aF ?aO ?aB ?aS ?aL ?_; (case aP => exact rfl); (case aB => exact (bl HB)); (case aF => exact (fun _ _ => trivial)); (case aO => exact (Kd.Rx HO_7.out)); (case aS => exact (below_size (bl HB))); (case aL => have := LMc14.out; omega); intro v420 w15 ho hb hg hat; rw [← Ny419.out] at ho; replace HB := Aside0.mk (hb); have HO421 := Aside0.mk (ho); clear HO_7; clear ho hb hg hat))
       go_roundg k1
       case measure => have := HK1.out; omega
       case rel => exact ⟨(y419), (wrap64 (x8_1 + 1)), (by first | rfl | (simp; done) | (simp [*]; done)), H', ⟨by have := HK1.out; omega⟩, ⟨by (with_reducible repeat (first | apply Kd.R_alloc | apply Kd.R_drewN | apply Kd.R_drew)); exact HO421.out⟩, ⟨bl HB⟩⟩
      ·
       rw [if_neg c14] at H
       exact absurd H (by simp)
     ·
      rw [if_neg c11] at H
      have c11b0 : (a2 == 1) = false := beq_eq_false_iff_ne.mpr c11
      have c11b1 : (a2 != 1) = true := bne_iff_ne.mpr c11
      replace H := Option.bind_eq_some_iff.mp H
      obtain ⟨t422, A160, H⟩ := H
      replace H : ((portolanref02_at.f l1 x8_1).bind fun t423 => (if x7_1.length < 17592186044416 then (portolanref02_each.l0 k1 l0 l1 a2 (x7_1 ++ [Go.bits .andNot .u64 t422 t423]) (wrap64 (x8_1 + 1))) else (none))) = some r := H
      have A16 := Aside0.mk A160
      clear A160
      replace H := Option.bind_eq_some_iff.mp H
      obtain ⟨t423, A170, H⟩ := H
      replace H : (if x7_1.length < 17592186044416 then (portolanref02_each.l0 k1 l0 l1 a2 (x7_1 ++ [Go.bits .andNot .u64 t422 t423]) (wrap64 (x8_1 + 1))) else (none)) = some r := H
      have A17 := Aside0.mk A170
      clear A170
      by_cases c18 : x7_1.length < 17592186044416
      ·
       rw [if_pos c18] at H
       have LMc18 := Aside0.mk c18
       clear c18
       obtain ⟨y424, hy424⟩ : ∃ y_ : List Int, y_ = (x7_1 ++ [Go.bits .andNot .u64 t422 t423]) := ⟨_, rfl⟩
       replace H : (portolanref02_each.l0 k1 l0 l1 a2 y424 (wrap64 (x8_1 + 1))) = some r := by first | (rw [hy424]; with_reducible exact H) | (have H2_ := (Option.bind_some _ _).symm.trans H; rw [hy424]; with_reducible exact H2_) | (have H2_ := (Option.bind_some _ _).symm.trans H; with_reducible exact H2_) | with_reducible exact H | (rw [hy424]; exact H) | exact H
       have Ny424 := Aside0.mk hy424
       clear hy424
       have H' := Aside0.mk H
       clear H
       go_wp2_with (first | ((with_reducible refine gate_callee (f := 59) rfl ?_); refine goesL_ (some 22) rfl rfl Tryd.func59 (by kernel_rfl) rfl #[.slice A0 l0.length c0, .int .i64 x8_1] rfl (by (try simp only [List.map_toArray, List.map_cons, List.map_nil]); first | done | rfl) ?_; (with_reducible refine (portolanref02_at.calls _ _ l0 x8_1 t422 _ ?side1 ?side2 A16.out).mono ?_); (case side1 => exact Kd.Cx (Kd.C_below HR0.out HB.out)); (case side2 => exact HC0.out); rintro e w' ⟨rfl, ⟨nd, rfl⟩⟩; refine ⟨_, rfl, ?_⟩) | ((with_reducible refine gate_callee (f := 59) rfl ?_); refine goesL_ (some 25) rfl rfl Tryd.func59 (by kernel_rfl) rfl #[.slice A1 l1.length c1, .int .i64 x8_1] rfl (by (try simp only [List.map_toArray, List.map_cons, List.map_nil]); first | done | rfl) ?_; (with_reducible refine (portolanref02_at.calls _ _ l1 x8_1 t423 _ ?side1 ?side2 A17.out).mono ?_); (case side1 => exact (Kd.C_below HR1.out (bl HB))); (case side2 => exact HC1.out); rintro e w' ⟨rfl, ⟨nd, rfl⟩⟩; refine ⟨_, rfl, ?_⟩) | ((with_reducible refine gate_builtin (b := .append) (xs := #[.tmp 19, .tmp 27]) rfl ?_); at_builtin; refine Kd.R_append (Kd.int .u64) (w0 := w) w.heap.size rfl (.tmp 19) (.tmp 27) 31 67 (.int .u64 0) 8 rfl Tryd.underlying31 info67 rfl (by decide) (by omega) u7 x7_1 (Go.bits .andNot .u64 t422 t423) [.int .u64 (Go.bits .andNot .u64 t422 t423)] (fun _ => True) (fun _ => False) rfl rfl ?aP (fun _ hk => hk.elim) ?aF ?aO ?aB ?aS ?aL ?_; (case aP => exact rfl); (case aB => exact (bl HB)); (case aF => exact (fun _ _ => trivial)); (case aO => exact (Kd.Rx HO_7.out)); (case aS => exact (below_size (bl HB))); (case aL => have := LMc18.out; omega); intro v425 w19 ho hb hg hat; rw [← Ny424.out] at ho; replace HB := Aside0.mk (hb); have HO426 := Aside0.mk (ho); clear HO_7; clear ho hb hg hat))
       go_roundg k1
       case measure => have := HK1.out; omega
       case rel => exact ⟨(y424), (wrap64 (x8_1 + 1)), (by first | rfl | (simp; done) | (simp [*]; done)), H', ⟨by have := HK1.out; omega⟩, ⟨by (with_reducible repeat (first | apply Kd.R_alloc | apply Kd.R_drewN | apply Kd.R_drew)); exact HO426.out⟩, ⟨bl HB⟩⟩
      ·
       rw [if_neg c18] at H
       exact absurd H (by simp)
   ·
    rw [if_neg c5] at H
    have c5b0 : decide (x8_1 < (ji4)) = false := decide_eq_false c5
    clear c5
    replace H := Option.bind_eq_some_iff.mp H
    obtain ⟨t409, A200, H⟩ := H
    replace H : (some t409) = some r := H
    have A20 := Aside0.mk A200
    clear A200
    obtain rfl := Option.some.inj H
    obtain ⟨Ao21, co21, eo21⟩ := Kd.R_slice HO_7.out
    subst eo21
    go_wp2_with (first | ((with_reducible refine gate_callee (f := 44) rfl ?_); refine goesL_ (some 54) rfl rfl Tryd.func44 (by kernel_rfl) rfl #[.slice Ao21 x7_1.length co21] rfl (by (try simp only [List.map_toArray, List.map_cons, List.map_nil]); first | done | rfl) ?_; (with_reducible refine (portolanref02_Neat.calls _ _ x7_1 t409 _ ?side1 ?side2 A20.out).mono ?_); (case side1 => exact Kd.Cx ((Kd.R_reads' HO_7.out).2.2)); (case side2 => exact (Kd.R_reads' HO_7.out).2.1); rintro e w22 ⟨v410, rfl, ho0, hb⟩; refine ⟨_, rfl, ?_⟩; have HO411 := Aside0.mk (Kd.R_lower (Kd.R_new' ho0 (Kd.R_lt (Kd.Rx HO_7.out))) (below_size (bl HB))); replace HO_7 := Aside0.mk (Kd.R_elder' (Kd.Rx HO_7.out) (Kd.R_base ho0) hb); replace HB := Aside0.mk (below_step (bl HB) hb); (try clear hb); (try clear hb2); (try clear hk); (try clear hi); (try clear ho0)))
    go_ret
    exact ⟨_, by first | rfl | (simp [errW_none, errW_some] <;> rfl) | (simp only [← hji4]; first | rfl | (simp [errW_none, errW_some] <;> rfl)) | (simp [*, errW_none, errW_some] <;> rfl), by (with_reducible repeat (first | apply Kd.R_alloc | apply Kd.R_drewN | apply Kd.R_drew)); exact Kd.R_mono HO411.out (fun _ hk => trivial), bl HB⟩
def portolanref02_Join.l0 : Nat → List (List Int) → List Int → Int → Option (List Int)
 | 0, _, _, _ => none
 | k + 1, x0, x3, x4 => if x4 < (x0.length : Int) then (if 0 ≤ x4 then ((portolanref02_each.f k x3 (rd_L1 x0 x4) 0).bind fun t428 => (portolanref02_Join.l0 k x0 t428 (wrap64 (x4 + 1)))) else (none)) else (some x3)
def portolanref02_Join.f (k : Nat) (l0 : List (List Int)) : Option (List Int) := portolanref02_Join.l0 k l0 ([] : List Int) 0
set_option maxHeartbeats 8000000 in
set_option maxRecDepth 100000 in
theorem portolanref02_Join.calls (k : Nat) (A0 : Option Addr) (c0 : Nat) (l0 : List (List Int)) (r : List Int) (w : World) (hr0 : Kd.C (Kd.slice 67 (Kd.int .u64)) w A0 l0.length l0) (hc0 : l0.length ≤ c0) (h : portolanref02_Join.f k l0 = some r) :
  Calls Tryd.prog 10 #[.slice A0 l0.length c0] w fun e w' => ∃ v0_ : Value, e = .returned (v0_) ∧ Kd.R (Kd.int .u64) 67 w' w.heap.size (fun _ => True) v0_ r ∧ Below w.heap.size w w' := by
 have HR0 := Aside0.mk hr0
 have HC0 := Aside0.mk hc0
 clear hr0 hc0
 have HB := Aside0.mk (Below.refl w.heap.size w)
 have H : (portolanref02_Join.l0 k l0 ([] : List Int) 0) = some r := h
 clear h
 have H' := Aside0.mk H
 clear H
 go_enter Tryd.func10, Tryd.ntmps10
 go_wp2
 go_loopg [3, 4] k (fun kq v3 v4 w' => ∃ (x3_1 : List Int) (x4_1 : Int), v4 = .int .i64 x4_1 ∧ Aside0 (portolanref02_Join.l0 kq l0 x3_1 x4_1 = some r) ∧ Aside0 (kq ≤ k) ∧ Aside0 (Kd.R (Kd.int .u64) 67 w' w.heap.size (fun _ => True) v3 x3_1) ∧ Aside0 (Below w.heap.size w w'))
 case atStart => exact ⟨(([] : List Int)), (0), (by first | rfl | (simp; done) | (simp [*]; done)), H', ⟨Nat.le_refl _⟩, ⟨by first | exact Kd.R_nil _ _ _ _ _ | exact Kd.N_nil _ _ _ _ _ | exact Kd.V_nil _ _ _ _ _ | exact Kd.Q_nil _ _ _ _ _ | exact Kd.S_nil _ _ _ _ _⟩, ⟨bl HB⟩⟩
 case round =>
  clear H'
  try clear c1
  obtain ⟨x3_1, x4_1, rfl, HA, HK1, HO_3, HB⟩ := hrel
  cases gk with
  | zero => exact absurd HA.out (by simp [portolanref02_Join.l0])
  | succ k1 =>
   have H := HA.out
   clear HA
   simp only [portolanref02_Join.l0] at H
   by_cases c2 : x4_1 < (l0.length : Int)
   ·
    rw [if_pos c2] at H
    have c2b0 : decide (x4_1 < (l0.length : Int)) = true := decide_eq_true c2
    clear c2
    by_cases c3 : 0 ≤ x4_1
    ·
     rw [if_pos c3] at H
     have c3b0 : decide (0 ≤ x4_1) = true := decide_eq_true c3
     clear c3
     replace H := Option.bind_eq_some_iff.mp H
     obtain ⟨t428, A40, H⟩ := H
     replace H : (portolanref02_Join.l0 k1 l0 t428 (wrap64 (x4_1 + 1))) = some r := H
     have A4 := Aside0.mk A40
     clear A40
     have H' := Aside0.mk H
     clear H
     have p427 : 0 ≤ (x4_1 : Int) := of_decide_eq_true (by assumption)
     have q427 : x4_1 < (l0.length : Int) := of_decide_eq_true (by assumption)
     obtain ⟨ad427, A427_0, c427_0, e427, hx427_0, hl427_0, hi427_0⟩ := at_L1 HR0.out x4_1 p427 q427
     cases e427
     replace hx427_0 := (HB.out.cell (World.block_lt_of_cell? w _ hx427_0)).trans hx427_0
     have HR427_0 := Aside0.mk hi427_0
     have HC427_0 := Aside0.mk hl427_0
     clear hi427_0 hl427_0
     replace p427 := eq_true p427
     replace q427 := eq_true q427
     obtain ⟨Ao5, co5, eo5⟩ := Kd.R_slice HO_3.out
     subst eo5
     go_wp2_with (first | ((with_reducible refine gate_callee (f := 37) rfl ?_); refine goesL_ (some 16) rfl rfl Tryd.func37 (by kernel_rfl) rfl #[.slice Ao5 x3_1.length co5, .slice A427_0 (rd_L1 l0 x4_1).length c427_0, .int .i64 0] rfl (by (try simp only [List.map_toArray, List.map_cons, List.map_nil]); first | done | rfl) ?_; (with_reducible refine (portolanref02_each.calls k1 _ _ x3_1 _ _ (rd_L1 l0 x4_1) 0 t428 _ ?side1 ?side2 ?side3 ?side4 A4.out).mono ?_); (case side1 => exact Kd.Cx ((Kd.R_reads' HO_3.out).2.2)); (case side2 => exact (Kd.R_reads' HO_3.out).2.1); (case side3 => exact Kd.Cx (Kd.C_below HR427_0.out HB.out)); (case side4 => exact HC427_0.out); rintro e w6 ⟨v429, rfl, ho0, hb⟩; refine ⟨_, rfl, ?_⟩; have HO430 := Aside0.mk (Kd.R_lower (Kd.R_new' ho0 (Kd.R_lt (Kd.Rx HO_3.out))) (below_size (bl HB))); replace HO_3 := Aside0.mk (Kd.R_elder' (Kd.Rx HO_3.out) (Kd.R_base ho0) hb); replace HB := Aside0.mk (below_step (bl HB) hb); (try clear hb); (try clear hb2); (try clear hk); (try clear hi); (try clear ho0)))
     go_roundg k1
     case measure => have := HK1.out; omega
     case rel => exact ⟨(t428), (wrap64 (x4_1 + 1)), (by first | rfl | (simp; done) | (simp [*]; done)), H', ⟨by have := HK1.out; omega⟩, ⟨by (with_reducible repeat (first | apply Kd.R_alloc | apply Kd.R_drewN | apply Kd.R_drew)); exact Kd.R_mono HO430.out (fun _ hk => trivial)⟩, ⟨bl HB⟩⟩
    ·
     rw [if_neg c3] at H
     exact absurd H (by simp)
   ·
    rw [if_neg c2] at H
    have c2b0 : decide (x4_1 < (l0.length : Int)) = false := decide_eq_false c2
    clear c2
    obtain rfl := Option.some.inj H
    go_wp2
    go_ret
    exact ⟨_, by first | rfl | (simp [errW_none, errW_some] <;> rfl) | (simp [*, errW_none, errW_some] <;> rfl), by (with_reducible repeat (first | apply Kd.R_alloc | apply Kd.R_drewN | apply Kd.R_drew)); exact HO_3.out, bl HB⟩
def live_In.f (k : Nat) (l0_0 : List Int) (l0_1 : List Int) (a0_2 : Int) (a0_3 : Int) (l0_4 : List (S40)) (a1 : Int) : Option (List Int) := (live_Ahead.f k l0_0 l0_1 a0_2 a0_3 l0_4 a1 0).bind fun t432 => (some t432)
set_option maxHeartbeats 8000000 in
set_option maxRecDepth 100000 in
theorem live_In.calls (k : Nat) (A0_0 : Option Addr) (c0_0 : Nat) (l0_0 : List Int) (A0_1 : Option Addr) (c0_1 : Nat) (l0_1 : List Int) (a0_2 : Int) (a0_3 : Int) (A0_4 : Option Addr) (c0_4 : Nat) (l0_4 : List (S40)) (a1 : Int) (r : List Int) (w : World) (hGG : GG w) (hr0_0 : Kd.C (Kd.int .i64) w A0_0 l0_0.length l0_0) (hc0_0 : l0_0.length ≤ c0_0) (hr0_1 : Kd.C (Kd.int .i64) w A0_1 l0_1.length l0_1) (hc0_1 : l0_1.length ≤ c0_1) (hr0_4 : Kd.C k40 w A0_4 l0_4.length l0_4) (hc0_4 : l0_4.length ≤ c0_4) (h : live_In.f k l0_0 l0_1 a0_2 a0_3 l0_4 a1 = some r) :
  Calls Tryd.prog 11 #[.agg #[.slice A0_0 l0_0.length c0_0, .slice A0_1 l0_1.length c0_1, .int .i64 a0_2, .int .i64 a0_3, .slice A0_4 l0_4.length c0_4], .int .i64 a1] w fun e w' => ∃ v0_ : Value, e = .returned (v0_) ∧ Kd.V (Kd.int .u64) 67 w' w.heap.size (fun k_ => (w.heap.size ≤ k_)) v0_ r ∧ Below w.heap.size w w' := by
 have hu30 := Tryd.underlying30
 have HGG := Aside0.mk hGG
 clear hGG
 have HR0_0 := Aside0.mk hr0_0
 have HC0_0 := Aside0.mk hc0_0
 clear hr0_0 hc0_0
 have HR0_1 := Aside0.mk hr0_1
 have HC0_1 := Aside0.mk hc0_1
 clear hr0_1 hc0_1
 have HR0_4 := Aside0.mk hr0_4
 have HC0_4 := Aside0.mk hc0_4
 clear hr0_4 hc0_4
 have HB := Aside0.mk (Below.refl w.heap.size w)
 have H : ((live_Ahead.f k l0_0 l0_1 a0_2 a0_3 l0_4 a1 0).bind fun t432 => (some t432)) = some r := h
 clear h
 replace H := Option.bind_eq_some_iff.mp H
 obtain ⟨t432, A30, H⟩ := H
 replace H : (some t432) = some r := H
 have A3 := Aside0.mk A30
 clear A30
 obtain rfl := Option.some.inj H
 go_enter Tryd.func11, Tryd.ntmps11
 go_wp2_with (first | ((with_reducible refine gate_dst (N := 2) rfl ?_); refine box_event ?hg (N := 2) ?hd (cs := #[.slice A0_0 l0_0.length c0_0, .slice A0_1 l0_1.length c0_1, .int .i64 a0_2, .int .i64 a0_3, .slice A0_4 l0_4.length c0_4]) (t := 30) ?hr ?_; (case hd => rfl); (case hg => rfl); (case hr => first | (go_simp; done) | (go_simp; rfl)); intro gb431 hg w4 hbox hb; have BK431 := Aside0.mk (hbox); have GW431 := ge hg (bl HB); have GE431 := ge hg (bl HB); replace HB := Aside0.mk (below_step (bl HB) hb); clear hb hbox hg; obtain ⟨hcz5_0, hcz5_1, hcz5_2, hcz5_3, hcz5_4⟩ := bk5 BK431.out; have hfz5_0 := bf BK431.out) | ((with_reducible refine gate_callee (f := 20) rfl ?_); refine goesL_ (some 7) rfl rfl Tryd.func20 (by kernel_rfl) rfl #[.agg #[.slice A0_0 l0_0.length c0_0, .slice A0_1 l0_1.length c0_1, .int .i64 a0_2, .int .i64 a0_3, .slice A0_4 l0_4.length c0_4], .int .i64 a1, .int .i64 0] rfl (by (try simp only [List.map_toArray, List.map_cons, List.map_nil]); first | done | rfl) ?_; (with_reducible refine (live_Ahead.calls k _ _ l0_0 _ _ l0_1 a0_2 a0_3 _ _ l0_4 a1 0 t432 _ ?side7 ?side1 ?side2 ?side3 ?side4 ?side5 ?side6 A3.out).mono ?_); (case side1 => exact Kd.Cx (Kd.C_below HR0_0.out HB.out)); (case side2 => exact HC0_0.out); (case side3 => exact Kd.Cx (Kd.C_below HR0_1.out HB.out)); (case side4 => exact HC0_1.out); (case side5 => exact Kd.Cx (Kd.C_below HR0_4.out HB.out)); (case side6 => exact HC0_4.out); (case side7 => exact GG_below HGG.out (bl HB)); rintro e w6 ⟨v433, rfl, ho0, hb⟩; refine ⟨_, rfl, ?_⟩; have HO434 := Aside0.mk (Kd.V_lower (Kd.V_mono (ok' := fun k_ => (w.heap.size ≤ k_) ∧ k_ ≠ gb431) ho0 (fun k_ hk_ => ⟨(Nat.le_trans (below_size (bl HB)) hk_), (Kd.freshB (g := gb431) (o := .cells #[.slice A0_0 l0_0.length c0_0, .slice A0_1 l0_1.length c0_1, .int .i64 a0_2, .int .i64 a0_3, .slice A0_4 l0_4.length c0_4] 30 (0, 0)) (bx BK431.out) k_ hk_)⟩)) (below_size (bl HB))); replace BK431 := Aside0.mk (blk_below (bx BK431.out) hb); replace HB := Aside0.mk (below_step (bl HB) hb); (try clear hb); (try clear hb2); (try clear hk); (try clear hi); (try clear ho0)))
 go_ret
 exact ⟨_, by first | rfl | (simp [errW_none, errW_some] <;> rfl) | (simp [*, errW_none, errW_some] <;> rfl), by (with_reducible repeat (first | apply Kd.V_alloc | apply Kd.V_drewN | apply Kd.V_drew)); exact Kd.V_mono HO434.out (fun _ hk => hk.1), bl HB⟩
def portolanref02_Same.l0 : Nat → List Int → List Int → Int → Option (Bool)
 | 0, _, _, _ => none
 | k + 1, x0, x1, x5 => if x5 < (mx (x0.length : Int) (x1.length : Int)) then ((portolanref02_at.f x0 x5).bind fun t435 => ((portolanref02_at.f x1 x5).bind fun t436 => (if t435 = t436 then (portolanref02_Same.l0 k x0 x1 (wrap64 (x5 + 1))) else (some false)))) else (some true)
def portolanref02_Same.f (k : Nat) (l0 : List Int) (l1 : List Int) : Option (Bool) := portolanref02_Same.l0 k l0 l1 0
theorem portolanref02_Same.mono_l : ∀ k, (∀ y0 y1 y2, LeO (portolanref02_Same.l0 k y0 y1 y2) (portolanref02_Same.l0 (k + 1) y0 y1 y2))
 | 0 => fun _ _ _ r h => by simp [portolanref02_Same.l0] at h
 | k + 1 => by
  have ih0 := portolanref02_Same.mono_l k
  ·
   intro y0 y1 y2
   unfold portolanref02_Same.l0
   repeat' first
   | (with_reducible exact ih0 _ _ _)
   | (with_reducible exact LeO.refl _)
   | (with_reducible exact LeO.none _)
   | (with_reducible refine LeO.ite ?_ ?_)
   | (with_reducible refine LeO.bind ?_ (fun _ => ?_))
   | exact ih0 _ _ _
   | exact LeO.none _
   | refine LeO.ite ?_ ?_
   | refine LeO.bind ?_ (fun _ => ?_)
theorem portolanref02_Same.mono : ∀ a0 a1 k, LeO (portolanref02_Same.f k a0 a1) (portolanref02_Same.f (k + 1) a0 a1) := by
 intro a0 a1 k
 have ih0 := portolanref02_Same.mono_l k
 unfold portolanref02_Same.f
 repeat' first
   | (with_reducible exact ih0 _ _ _)
   | (with_reducible exact LeO.refl _)
   | (with_reducible exact LeO.none _)
   | (with_reducible refine LeO.ite ?_ ?_)
   | (with_reducible refine LeO.bind ?_ (fun _ => ?_))
   | exact ih0 _ _ _
   | exact LeO.none _
   | refine LeO.ite ?_ ?_
   | refine LeO.bind ?_ (fun _ => ?_)
set_option maxHeartbeats 8000000 in
set_option maxRecDepth 100000 in
theorem portolanref02_Same.calls (k : Nat) (A0 : Option Addr) (c0 : Nat) (l0 : List Int) (A1 : Option Addr) (c1 : Nat) (l1 : List Int) (r : Bool) (w : World) (hr0 : Kd.C (Kd.int .u64) w A0 l0.length l0) (hc0 : l0.length ≤ c0) (hr1 : Kd.C (Kd.int .u64) w A1 l1.length l1) (hc1 : l1.length ≤ c1) (h : portolanref02_Same.f k l0 l1 = some r) :
  Calls Tryd.prog 38 #[.slice A0 l0.length c0, .slice A1 l1.length c1] w fun e w' => e = .returned (.bool r) ∧ Below w.heap.size w w' := by
 have HR0 := Aside0.mk hr0
 have HC0 := Aside0.mk hc0
 clear hr0 hc0
 have HR1 := Aside0.mk hr1
 have HC1 := Aside0.mk hc1
 clear hr1 hc1
 have HB := Aside0.mk (Below.refl w.heap.size w)
 have H : (portolanref02_Same.l0 k l0 l1 0) = some r := h
 clear h
 have H' := Aside0.mk H
 clear H
 go_enter Tryd.func38, Tryd.ntmps38
 go_wp2
 go_loopg [5] k (fun kq v5 w' => ∃ (x5_1 : Int), v5 = .int .i64 x5_1 ∧ Aside0 (portolanref02_Same.l0 kq l0 l1 x5_1 = some r) ∧ Aside0 (kq ≤ k) ∧ Aside0 (Below w.heap.size w w'))
 case atStart => exact ⟨(0), (by first | rfl | (simp; done) | (simp [*]; done)), H', ⟨Nat.le_refl _⟩, ⟨bl HB⟩⟩
 case round =>
  clear H'
  try clear c1
  try clear p2
  obtain ⟨x5_1, rfl, HA, HK1, HB⟩ := hrel
  cases gk with
  | zero => exact absurd HA.out (by simp [portolanref02_Same.l0])
  | succ k1 =>
   have H := HA.out
   clear HA
   simp only [portolanref02_Same.l0] at H
   obtain ⟨ji3, hji3⟩ : ∃ j_ : Int, (mx (l0.length : Int) (l1.length : Int)) = j_ := ⟨_, rfl⟩
   replace H : (if x5_1 < (ji3) then ((portolanref02_at.f l0 x5_1).bind fun t435 => ((portolanref02_at.f l1 x5_1).bind fun t436 => (if t435 = t436 then (portolanref02_Same.l0 k1 l0 l1 (wrap64 (x5_1 + 1))) else (some false)))) else (some true)) = some r := by first | (rw [hji3] at H; exact H) | (simp only [hji3] at H ⊢; exact H)
   have hji3_ : (if (l0.length : Int) < (l1.length : Int) then (l1.length : Int) else (l0.length : Int)) = ji3 := hji3
   have hji3n : (if l0.length < l1.length then (l1.length : Int) else (l0.length : Int)) = ji3 := by rw [← hji3]; simp only [mx, Int.ofNat_lt]
   by_cases c4 : x5_1 < (ji3)
   ·
    rw [if_pos c4] at H
    have c4b0 : decide (x5_1 < (ji3)) = true := decide_eq_true c4
    clear c4
    replace H := Option.bind_eq_some_iff.mp H
    obtain ⟨t435, A50, H⟩ := H
    replace H : ((portolanref02_at.f l1 x5_1).bind fun t436 => (if t435 = t436 then (portolanref02_Same.l0 k1 l0 l1 (wrap64 (x5_1 + 1))) else (some false))) = some r := H
    have A5 := Aside0.mk A50
    clear A50
    replace H := Option.bind_eq_some_iff.mp H
    obtain ⟨t436, A60, H⟩ := H
    replace H : (if t435 = t436 then (portolanref02_Same.l0 k1 l0 l1 (wrap64 (x5_1 + 1))) else (some false)) = some r := H
    have A6 := Aside0.mk A60
    clear A60
    by_cases c7 : t435 = t436
    ·
     rw [if_pos c7] at H
     have c7b0 : (t435 == t436) = true := beq_iff_eq.mpr c7
     have c7b1 : (t435 != t436) = false := bne_eq_false_iff_eq.mpr c7
     clear c7
     have H' := Aside0.mk H
     clear H
     go_wp2_with (first | ((with_reducible refine gate_callee (f := 59) rfl ?_); refine goesL_ (some 17) rfl rfl Tryd.func59 (by kernel_rfl) rfl #[.slice A0 l0.length c0, .int .i64 x5_1] rfl (by (try simp only [List.map_toArray, List.map_cons, List.map_nil]); first | done | rfl) ?_; (with_reducible refine (portolanref02_at.calls _ _ l0 x5_1 t435 _ ?side1 ?side2 A5.out).mono ?_); (case side1 => exact Kd.Cx (Kd.C_below HR0.out HB.out)); (case side2 => exact HC0.out); rintro e w' ⟨rfl, ⟨nd, rfl⟩⟩; refine ⟨_, rfl, ?_⟩) | ((with_reducible refine gate_callee (f := 59) rfl ?_); refine goesL_ (some 20) rfl rfl Tryd.func59 (by kernel_rfl) rfl #[.slice A1 l1.length c1, .int .i64 x5_1] rfl (by (try simp only [List.map_toArray, List.map_cons, List.map_nil]); first | done | rfl) ?_; (with_reducible refine (portolanref02_at.calls _ _ l1 x5_1 t436 _ ?side1 ?side2 A6.out).mono ?_); (case side1 => exact (Kd.C_below HR1.out (bl HB))); (case side2 => exact HC1.out); rintro e w' ⟨rfl, ⟨nd, rfl⟩⟩; refine ⟨_, rfl, ?_⟩))
     go_roundg k1
     case measure => have := HK1.out; omega
     case rel => exact ⟨(wrap64 (x5_1 + 1)), (by first | rfl | (simp; done) | (simp [*]; done)), H', ⟨by have := HK1.out; omega⟩, ⟨bl HB⟩⟩
    ·
     rw [if_neg c7] at H
     have c7b0 : (t435 == t436) = false := beq_eq_false_iff_ne.mpr c7
     have c7b1 : (t435 != t436) = true := bne_iff_ne.mpr c7
     obtain rfl := Option.some.inj H
     go_wp2_with (first | ((with_reducible refine gate_callee (f := 59) rfl ?_); refine goesL_ (some 17) rfl rfl Tryd.func59 (by kernel_rfl) rfl #[.slice A0 l0.length c0, .int .i64 x5_1] rfl (by (try simp only [List.map_toArray, List.map_cons, List.map_nil]); first | done | rfl) ?_; (with_reducible refine (portolanref02_at.calls _ _ l0 x5_1 t435 _ ?side1 ?side2 A5.out).mono ?_); (case side1 => exact Kd.Cx (Kd.C_below HR0.out HB.out)); (case side2 => exact HC0.out); rintro e w' ⟨rfl, ⟨nd, rfl⟩⟩; refine ⟨_, rfl, ?_⟩) | ((with_reducible refine gate_callee (f := 59) rfl ?_); refine goesL_ (some 20) rfl rfl Tryd.func59 (by kernel_rfl) rfl #[.slice A1 l1.length c1, .int .i64 x5_1] rfl (by (try simp only [List.map_toArray, List.map_cons, List.map_nil]); first | done | rfl) ?_; (with_reducible refine (portolanref02_at.calls _ _ l1 x5_1 t436 _ ?side1 ?side2 A6.out).mono ?_); (case side1 => exact (Kd.C_below HR1.out (bl HB))); (case side2 => exact HC1.out); rintro e w' ⟨rfl, ⟨nd, rfl⟩⟩; refine ⟨_, rfl, ?_⟩))
     go_ret
     exact ⟨by first | rfl | (simp [errW_none, errW_some] <;> rfl) | (simp only [← hji3]; first | rfl | (simp [errW_none, errW_some] <;> rfl)) | (simp [*, errW_none, errW_some] <;> rfl), bl HB⟩
   ·
    rw [if_neg c4] at H
    have c4b0 : decide (x5_1 < (ji3)) = false := decide_eq_false c4
    clear c4
    obtain rfl := Option.some.inj H
    go_wp2
    go_ret
    exact ⟨by first | rfl | (simp [errW_none, errW_some] <;> rfl) | (simp only [← hji3]; first | rfl | (simp [errW_none, errW_some] <;> rfl)) | (simp [*, errW_none, errW_some] <;> rfl), bl HB⟩
def portolanref02_Words.f (k : Nat) (l0 : List Int) (l1 : List Int) : Option (Bool) := if (l0.length : Int) = (l1.length : Int) then ((portolanref02_Same.f k l0 l1).bind fun t437 => (some t437)) else (some false)
theorem portolanref02_Words.mono : ∀ a0 a1 k, LeO (portolanref02_Words.f k a0 a1) (portolanref02_Words.f (k + 1) a0 a1) := by
 intro a0 a1 k
 unfold portolanref02_Words.f
 repeat' first
   | (with_reducible exact portolanref02_Same.mono _ _ _)
   | (with_reducible exact LeO.refl _)
   | (with_reducible exact LeO.none _)
   | (with_reducible refine LeO.ite ?_ ?_)
   | (with_reducible refine LeO.bind ?_ (fun _ => ?_))
   | exact portolanref02_Same.mono _ _ _
   | exact LeO.none _
   | refine LeO.ite ?_ ?_
   | refine LeO.bind ?_ (fun _ => ?_)
set_option maxHeartbeats 8000000 in
set_option maxRecDepth 100000 in
theorem portolanref02_Words.calls (k : Nat) (A0 : Option Addr) (c0 : Nat) (l0 : List Int) (A1 : Option Addr) (c1 : Nat) (l1 : List Int) (r : Bool) (w : World) (hr0 : Kd.C (Kd.int .u64) w A0 l0.length l0) (hc0 : l0.length ≤ c0) (hr1 : Kd.C (Kd.int .u64) w A1 l1.length l1) (hc1 : l1.length ≤ c1) (h : portolanref02_Words.f k l0 l1 = some r) :
  Calls Tryd.prog 12 #[.slice A0 l0.length c0, .slice A1 l1.length c1] w fun e w' => e = .returned (.bool r) ∧ Below w.heap.size w w' := by
 have HR0 := Aside0.mk hr0
 have HC0 := Aside0.mk hc0
 clear hr0 hc0
 have HR1 := Aside0.mk hr1
 have HC1 := Aside0.mk hc1
 clear hr1 hc1
 have HB := Aside0.mk (Below.refl w.heap.size w)
 have H : (if (l0.length : Int) = (l1.length : Int) then ((portolanref02_Same.f k l0 l1).bind fun t437 => (some t437)) else (some false)) = some r := h
 clear h
 by_cases c3 : (l0.length : Int) = (l1.length : Int)
 ·
  rw [if_pos c3] at H
  have c3b0 : ((l0.length : Int) == (l1.length : Int)) = true := beq_iff_eq.mpr c3
  have c3b1 : ((l0.length : Int) != (l1.length : Int)) = false := bne_eq_false_iff_eq.mpr c3
  have c3b2 : (l0.length == l1.length) = true := by first | simpa using c3 | (simp at c3 ⊢; omega)
  clear c3
  replace H := Option.bind_eq_some_iff.mp H
  obtain ⟨t437, A40, H⟩ := H
  replace H : (some t437) = some r := H
  have A4 := Aside0.mk A40
  clear A40
  obtain rfl := Option.some.inj H
  go_enter Tryd.func12, Tryd.ntmps12
  go_wp2_with (first | (go_at_call 38; (with_reducible refine (portolanref02_Same.calls k _ _ l0 _ _ l1 t437 _ ?side1 ?side2 ?side3 ?side4 A4.out).mono ?_); (case side1 => exact Kd.Cx HR0.out); (case side2 => exact HC0.out); (case side3 => exact Kd.Cx HR1.out); (case side4 => exact HC1.out); rintro e w5 ⟨rfl, hb⟩; replace HB := Aside0.mk (below_step (bl HB) hb); (try clear hb); (try clear hb2); (try clear hk); (try clear hi)))
  go_ret
  exact ⟨by first | rfl | (simp [errW_none, errW_some] <;> rfl) | (simp [*, errW_none, errW_some] <;> rfl), bl HB⟩
 ·
  rw [if_neg c3] at H
  have c3b0 : ((l0.length : Int) == (l1.length : Int)) = false := beq_eq_false_iff_ne.mpr c3
  have c3b1 : ((l0.length : Int) != (l1.length : Int)) = true := bne_iff_ne.mpr c3
  have c3b2 : (l0.length == l1.length) = false := by first | simpa using c3 | (simp at c3 ⊢; omega)
  obtain rfl := Option.some.inj H
  go_enter Tryd.func12, Tryd.ntmps12
  go_wp2
  go_ret
  exact ⟨by first | rfl | (simp [errW_none, errW_some] <;> rfl) | (simp [*, errW_none, errW_some] <;> rfl), bl HB⟩
end Go.Proofs.YtdmimhjmbdkhmaaDoor.X
