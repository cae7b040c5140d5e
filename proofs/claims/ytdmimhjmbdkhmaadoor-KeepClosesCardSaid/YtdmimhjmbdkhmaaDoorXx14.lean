/- Part of a proof about the Go function named in the last text of this claim. -/
import Derived.Test.YtdmimhjmbdkhmaaDoorZw
import Derived.Test.YtdmimhjmbdkhmaaDoorXx0
import Derived.Test.YtdmimhjmbdkhmaaDoorXx1
import Derived.Test.YtdmimhjmbdkhmaaDoorXx6
import Derived.Test.YtdmimhjmbdkhmaaDoorXx7
import Derived.Test.YtdmimhjmbdkhmaaDoorXx13
import Derived.Test.YtdmimhjmbdkhmaaDoorZg
import Derived.Test.YtdmimhjmbdkhmaaDoorZk
set_option linter.unusedVariables false
set_option linter.unusedSimpArgs false
namespace Go.Proofs.YtdmimhjmbdkhmaaDoor.X
open Go.RowKit Go.Proofs.YtdmimhjmbdkhmaaDoorW.PrintWords Go.Proofs.YtdmimhjmbdkhmaaDoorW.PrintLast Go.Proofs.YtdmimhjmbdkhmaaDoorW.PrintMore
attribute [local go_sem] max2_int min2_int max_two min_two max_three min_three max_four min_four
set_option linter.unusedVariables false
set_option linter.unusedSimpArgs false
mutual
def portolanlaw12_KeepCloses.j0 : Nat → List Int → Bool → List (S30) → Option (Bool)
 | 0, _, _, _ => none
 | k + 1, x1, x19, x455000 => if x19 = true then (some true) else (portolanlaw12_KeepCloses.l0 k x1 0 x455000)
def portolanlaw12_KeepCloses.l0 : Nat → List Int → Int → List (S30) → Option (Bool)
 | 0, _, _, _ => none
 | k + 1, x1, x5, x455000 => if x5 < (x455000.length : Int) then (if 0 ≤ x5 then ((keep_Close.f k ((rd_T30 x455000 x5).f0) ((rd_T30 x455000 x5).f1) ((rd_T30 x455000 x5).f2) ((rd_T30 x455000 x5).f3) ((rd_T30 x455000 x5).f4) x1).bind fun t459 => (portolanlaw12_KeepCloses.l1 k x1 x5 t459 0 x455000 ((rd_T30 x455000 x5).f0) ((rd_T30 x455000 x5).f1) ((rd_T30 x455000 x5).f2) ((rd_T30 x455000 x5).f3) ((rd_T30 x455000 x5).f4))) else (none)) else (some true)
def portolanlaw12_KeepCloses.l1 : Nat → List Int → Int → List Int → Int → List (S30) → List Int → List Int → Int → Int → List (S40) → Option (Bool)
 | 0, _, _, _, _, _, _, _, _, _, _ => none
 | k + 1, x1, x5, x7, x8, x455000, x459000, x459001, x459002, x459003, x459004 => if x8 < (x459000.length : Int) then ((portolanref02_Has.f x1 x8).bind fun t462 => (portolanlaw12_KeepCloses.l2 k x1 x5 x7 x8 t462 0 x455000 x459000 x459001 x459002 x459003 x459004)) else ((keep_Refs.f k x459000 x459001 x459002 x459003 x459004 x7).bind fun t467 => ((keep_Ders.f k x459000 x459001 x459002 x459003 x459004 x7).bind fun t470 => ((portolanref02_List.f k x7).bind fun t473 => (if (wrap64 ((t467.length : Int) + (t470.length : Int))) > (t473.length : Int) then (some false) else (portolanlaw12_KeepCloses.l0 k x1 (wrap64 (x5 + 1)) x455000)))))
def portolanlaw12_KeepCloses.l2 : Nat → List Int → Int → List Int → Int → Bool → Int → List (S30) → List Int → List Int → Int → Int → List (S40) → Option (Bool)
 | 0, _, _, _, _, _, _, _, _, _, _, _, _ => none
 | k + 1, x1, x5, x7, x8, x9, x10, x455000, x459000, x459001, x459002, x459003, x459004 => if x10 < (x459000.length : Int) then (if x9 = true then (portolanlaw12_KeepCloses.l2 k x1 x5 x7 x8 true (wrap64 (x10 + 1)) x455000 x459000 x459001 x459002 x459003 x459004) else (if 0 ≤ x10 then (if (rd x459000 x10) = 2 then (if x10 < (x459001.length : Int) then (if (rd x459001 x10) = x8 then ((portolanref02_Has.f x1 x10).bind fun t465 => (portolanlaw12_KeepCloses.l2 k x1 x5 x7 x8 t465 (wrap64 (x10 + 1)) x455000 x459000 x459001 x459002 x459003 x459004)) else (portolanlaw12_KeepCloses.l2 k x1 x5 x7 x8 false (wrap64 (x10 + 1)) x455000 x459000 x459001 x459002 x459003 x459004)) else (none)) else (portolanlaw12_KeepCloses.l2 k x1 x5 x7 x8 false (wrap64 (x10 + 1)) x455000 x459000 x459001 x459002 x459003 x459004)) else (none))) else ((portolanref02_Has.f x7 x8).bind fun t466 => (if (t466 != x9) = true then (some false) else (portolanlaw12_KeepCloses.l1 k x1 x5 x7 (wrap64 (x8 + 1)) x455000 x459000 x459001 x459002 x459003 x459004)))
end
def portolanlaw12_KeepCloses.f (k : Nat) (l0_0 : List (S30)) (l1 : List Int) : Option (Bool) := (portolanlaw12_alive.f k).bind fun t455 => (if t455 = true then ((portolanlaw12_out.f k l0_0).bind fun t456 => (if t456 = true then (portolanlaw12_KeepCloses.j0 k l1 true l0_0) else (portolanlaw12_KeepCloses.j0 k l1 (decide ((l1.length : Int) > 70)) l0_0))) else (some false))
def portolanlaw12_KeepCloses.T20 : Bool × List (List Nat × List Nat) := (true, [([], []), ([], []), ([0, 1], [0, 1]), ([2], [2]), ([], []), ([], []), ([4, 5, 2], [4, 5]), ([6], [6]), ([3, 7], [3, 7]), ([], []), ([9, 6], [9]), ([10], [10]), ([8, 11], [8, 11])])
def portolanlaw12_KeepCloses.B20 : List Nat := [0, 0, 3, 7, 0, 0, 55, 119, 255, 0, 631, 1655, 4095]
theorem portolanlaw12_KeepCloses.tab20 : rtab .any (opsOf Tryd.f6 20) = portolanlaw12_KeepCloses.T20 := by kernel_rfl
theorem portolanlaw12_KeepCloses.bits20 : waitsOk portolanlaw12_KeepCloses.T20.2 portolanlaw12_KeepCloses.B20 = true := by kernel_rfl
set_option maxHeartbeats 8000000 in
set_option maxRecDepth 100000 in
theorem portolanlaw12_KeepCloses.calls (k : Nat) (A0_0 : Option Addr) (c0_0 : Nat) (l0_0 : List (S30)) (A1 : Option Addr) (c1 : Nat) (l1 : List Int) (w : World) (hGG : GG w) (hGB : GB w) (hr0_0 : Kd.C k30 w A0_0 l0_0.length l0_0) (hc0_0 : l0_0.length ≤ c0_0) (hr1 : Kd.C (Kd.int .u64) w A1 l1.length l1) (hc1 : l1.length ≤ c1) (h : portolanlaw12_KeepCloses.f k l0_0 l1 = some true) :
 Calls Tryd.prog 6 #[.agg #[.slice A0_0 l0_0.length c0_0], .slice A1 l1.length c1] w fun e w' => e = .returned (.bool true) ∧ Below w.heap.size w w' := by
 have hu24 := Tryd.underlying24
 have hu30 := Tryd.underlying30
 have HGG := Aside0.mk hGG
 clear hGG
 have HGB := Aside0.mk hGB
 clear hGB
 have HR0_0 := Aside0.mk hr0_0
 have HC0_0 := Aside0.mk hc0_0
 clear hr0_0 hc0_0
 have HR1 := Aside0.mk hr1
 have HC1 := Aside0.mk hc1
 clear hr1 hc1
 have HB := Aside0.mk (Below.refl w.heap.size w)
 have H : ((portolanlaw12_alive.f k).bind fun t455 => (if t455 = true then ((portolanlaw12_out.f k l0_0).bind fun t456 => (if t456 = true then (portolanlaw12_KeepCloses.j0 k l1 true l0_0) else (portolanlaw12_KeepCloses.j0 k l1 (decide ((l1.length : Int) > 70)) l0_0))) else (some false))) = some true := h
 clear h
 replace H := Option.bind_eq_some_iff.mp H
 obtain ⟨t455, A30, H⟩ := H
 replace H : (if t455 = true then ((portolanlaw12_out.f k l0_0).bind fun t456 => (if t456 = true then (portolanlaw12_KeepCloses.j0 k l1 true l0_0) else (portolanlaw12_KeepCloses.j0 k l1 (decide ((l1.length : Int) > 70)) l0_0))) else (some false)) = some true := H
 have A3 := Aside0.mk A30
 clear A30
 by_cases c4 : t455 = true
 ·
  subst c4
  have H1 : ((portolanlaw12_out.f k l0_0).bind fun t456 => (if t456 = true then (portolanlaw12_KeepCloses.j0 k l1 true l0_0) else (portolanlaw12_KeepCloses.j0 k l1 (decide ((l1.length : Int) > 70)) l0_0))) = some true := by rw [if_pos rfl] at H; exact H
  clear H
  have H := H1
  clear H1
  have HC5 := Aside0.mk H
  clear H
  go_enter Tryd.func6, Tryd.ntmps6
  go_upto_region 3 with (first | ((with_reducible refine gate_dst (N := 2) rfl ?_); (try (refine gate_guard (by rfl) ?_; dsimp only)); refine box_event ?hg (N := 2) ?hd (cs := #[.slice A0_0 l0_0.length c0_0]) (t := 24) ?hr ?_; (case hd => rfl); (case hg => rfl); (case hr => first | (go_simp; done) | (go_simp; rfl)); intro gb454 hg w6 hbox hb; have BK454 := Aside0.mk (hbox); have GW454 := ge hg (bl HB); have GE454 := ge hg (bl HB); replace HB := Aside0.mk (below_step (bl HB) hb); clear hb hbox hg) | ((with_reducible refine gate_callee (f := 21) rfl ?_); refine goesL_ (some 11) rfl rfl Tryd.func21 (by kernel_rfl) rfl #[] rfl (by (try simp only [List.map_toArray, List.map_cons, List.map_nil]); first | done | rfl) ?_; (with_reducible refine (portolanlaw12_alive.calls k  true _ ?side1 ?side2 A3.out).mono ?_); (case side1 => exact GG_below HGG.out (bl HB)); (case side2 => exact GB_below HGB.out (bl HB)); rintro e w7 ⟨rfl, hb⟩; refine ⟨_, rfl, ?_⟩; replace BK454 := Aside0.mk (blk_below (bx BK454.out) hb); replace HB := Aside0.mk (below_step (bl HB) hb); (try clear hb); (try clear hb2); (try clear hk); (try clear hi)))
  (try simp only [Act.put, List.setIfInBounds_toArray, List.set_cons_zero, List.set_cons_succ])
  go_cut [19] (fun v19 wc => ∃ (kq : Nat) (x19_4 : Bool), v19 = .bool x19_4 ∧ Aside0 (portolanlaw12_KeepCloses.j0 kq l1 x19_4 l0_0 = some true) ∧ Aside0 (kq ≤ k) ∧ Aside0 (wc.heap[gb454]? = some (.cells #[(.slice A0_0 l0_0.length c0_0)] 24 (0, 0))) ∧ Aside0 (Below w.heap.size w wc))
  case first =>
   have H := HC5.out
   clear HC5
   replace H := Option.bind_eq_some_iff.mp H
   obtain ⟨t456, A80, H⟩ := H
   replace H : (if t456 = true then (portolanlaw12_KeepCloses.j0 k l1 true l0_0) else (portolanlaw12_KeepCloses.j0 k l1 (decide ((l1.length : Int) > 70)) l0_0)) = some true := H
   have A8 := Aside0.mk A80
   clear A80
   by_cases c9 : t456 = true
   ·
    subst c9
    have H1 : (portolanlaw12_KeepCloses.j0 k l1 true l0_0) = some true := by rw [if_pos rfl] at H; exact H
    clear H
    have H := H1
    clear H1
    have H' := Aside0.mk H
    clear H
    have hcz10_0 := bk1 BK454.out
    have hfz10_0 := bf BK454.out
    go_wp2_with (first | ((with_reducible refine gate_callee (f := 22) rfl ?_); refine goesL_ (some 14) rfl rfl Tryd.func22 (by kernel_rfl) rfl #[.agg #[.slice A0_0 l0_0.length c0_0]] rfl (by (try simp only [List.map_toArray, List.map_cons, List.map_nil]); first | done | rfl) ?_; (with_reducible refine (portolanlaw12_out.calls k _ _ l0_0 true _ ?side1 ?side2 A8.out).mono ?_); (case side1 => exact Kd.Cx (Kd.C_below HR0_0.out HB.out)); (case side2 => exact HC0_0.out); rintro e w11 ⟨rfl, hb⟩; refine ⟨_, rfl, ?_⟩; replace BK454 := Aside0.mk (blk_below (bx BK454.out) hb); replace HB := Aside0.mk (below_step (bl HB) hb); (try clear hb); (try clear hb2); (try clear hk); (try clear hi)))
    go_meet
    case rel => exact ⟨_, (true), (by first | rfl | (simp; done) | (simp [*]; done)), H', ⟨by first | omega | exact Nat.le_refl _⟩, ⟨bx BK454.out⟩, ⟨bl HB⟩⟩
   replace c9 := Bool.eq_false_iff.mpr c9
   subst c9
   have H1 : (portolanlaw12_KeepCloses.j0 k l1 (decide ((l1.length : Int) > 70)) l0_0) = some true := by rw [if_neg (show ¬ (false = true) by decide)] at H; exact H
   clear H
   have H := H1
   clear H1
   have H' := Aside0.mk H
   clear H
   have hcz12_0 := bk1 BK454.out
   have hfz12_0 := bf BK454.out
   go_wp2_with (first | ((with_reducible refine gate_callee (f := 22) rfl ?_); refine goesL_ (some 14) rfl rfl Tryd.func22 (by kernel_rfl) rfl #[.agg #[.slice A0_0 l0_0.length c0_0]] rfl (by (try simp only [List.map_toArray, List.map_cons, List.map_nil]); first | done | rfl) ?_; (with_reducible refine (portolanlaw12_out.calls k _ _ l0_0 false _ ?side1 ?side2 A8.out).mono ?_); (case side1 => exact Kd.Cx (Kd.C_below HR0_0.out HB.out)); (case side2 => exact HC0_0.out); rintro e w13 ⟨rfl, hb⟩; refine ⟨_, rfl, ?_⟩; replace BK454 := Aside0.mk (blk_below (bx BK454.out) hb); replace HB := Aside0.mk (below_step (bl HB) hb); (try clear hb); (try clear hb2); (try clear hk); (try clear hi)))
   go_meet
   case rel => exact ⟨_, (decide ((l1.length : Int) > 70)), (by first | rfl | (simp; done) | (simp [*]; done)), H', ⟨by first | omega | exact Nat.le_refl _⟩, ⟨bx BK454.out⟩, ⟨bl HB⟩⟩
  case rest =>
   clear HC5
   try clear c1
   try clear c2
   try clear p2
   try clear c4
   try clear c6
   try clear c9
   try clear hcz10_0
   try clear hcz12_0
   try clear hfz10_0
   try clear hfz12_0
   obtain ⟨kq, x19_4, rfl, HA, HJ4, BK454, HB⟩ := hcut
   cases kq with
   | zero => exact absurd HA.out (by simp [portolanlaw12_KeepCloses.j0])
   | succ kj4 =>
    have H := HA.out
    clear HA
    simp only [portolanlaw12_KeepCloses.j0] at H
    by_cases c14 : x19_4 = true
    ·
     subst c14
     have H1 : (some true) = some true := rfl
     clear H
     have H := H1
     clear H1
     clear H
     go_wp2
     go_ret
     exact ⟨by first | rfl | (simp [errW_none, errW_some] <;> rfl) | (simp [*, errW_none, errW_some] <;> rfl), bl HB⟩
    replace c14 := Bool.eq_false_iff.mpr c14
    subst c14
    have H1 : (portolanlaw12_KeepCloses.l0 kj4 l1 0 l0_0) = some true := by rw [if_neg (show ¬ (false = true) by decide)] at H; exact H
    clear H
    have H := H1
    clear H1
    have H' := Aside0.mk H
    clear H
    go_wp2
    go_loopg [5] kj4 (fun kq v5 w' => ∃ (x5_2 : Int), v5 = .int .i64 x5_2 ∧ Aside0 (portolanlaw12_KeepCloses.l0 kq l1 x5_2 l0_0 = some true) ∧ Aside0 (kq ≤ kj4) ∧ Aside0 (w'.heap[gb454]? = some (.cells #[(.slice A0_0 l0_0.length c0_0)] 24 (0, 0))) ∧ Aside0 (Below w.heap.size w w'))
    case atStart => exact ⟨(0), (by first | rfl | (simp; done) | (simp [*]; done)), H', ⟨Nat.le_refl _⟩, ⟨bx BK454.out⟩, ⟨bl HB⟩⟩
    case round =>
     clear H'
     try clear c1
     try clear c2
     try clear p2
     try clear c4
     try clear c6
     try clear c9
     try clear c14
     try clear hcz10_0
     try clear hcz12_0
     try clear hfz10_0
     try clear hfz12_0
     try clear p2
     obtain ⟨x5_2, rfl, HA, HK2, BK454, HB⟩ := hrel
     cases gk with
     | zero => exact absurd HA.out (by simp [portolanlaw12_KeepCloses.l0])
     | succ k2 =>
      have H := HA.out
      clear HA
      simp only [portolanlaw12_KeepCloses.l0] at H
      by_cases c15 : x5_2 < (l0_0.length : Int)
      ·
       rw [if_pos c15] at H
       have c15b0 : decide (x5_2 < (l0_0.length : Int)) = true := decide_eq_true c15
       clear c15
       by_cases c16 : 0 ≤ x5_2
       ·
        rw [if_pos c16] at H
        have c16b0 : decide (0 ≤ x5_2) = true := decide_eq_true c16
        clear c16
        replace H := Option.bind_eq_some_iff.mp H
        obtain ⟨t459, A170, H⟩ := H
        replace H : (portolanlaw12_KeepCloses.l1 k2 l1 x5_2 t459 0 l0_0 ((rd_T30 l0_0 x5_2).f0) ((rd_T30 l0_0 x5_2).f1) ((rd_T30 l0_0 x5_2).f2) ((rd_T30 l0_0 x5_2).f3) ((rd_T30 l0_0 x5_2).f4)) = some true := H
        have A17 := Aside0.mk A170
        clear A170
        have H' := Aside0.mk H
        clear H
        have hcz18_0 := bk1 BK454.out
        have hfz18_0 := bf BK454.out
        have p457 : 0 ≤ (x5_2 : Int) := of_decide_eq_true (by assumption)
        have q457 : x5_2 < (l0_0.length : Int) := of_decide_eq_true (by assumption)
        obtain ⟨ad457, A457_0, c457_0, A457_1, c457_1, A457_4, c457_4, e457, hx457_0, hx457_1, hx457_2, hx457_3, hx457_4, hl457_0, hi457_0, hl457_1, hi457_1, hl457_4, hi457_4⟩ := at_T30 HR0_0.out x5_2 p457 q457
        cases e457
        replace hx457_0 := (HB.out.cell (World.block_lt_of_cell? w _ hx457_0)).trans hx457_0
        replace hx457_1 := (HB.out.cell (World.block_lt_of_cell? w _ hx457_1)).trans hx457_1
        replace hx457_2 := (HB.out.cell (World.block_lt_of_cell? w _ hx457_2)).trans hx457_2
        replace hx457_3 := (HB.out.cell (World.block_lt_of_cell? w _ hx457_3)).trans hx457_3
        replace hx457_4 := (HB.out.cell (World.block_lt_of_cell? w _ hx457_4)).trans hx457_4
        have HR457_0 := Aside0.mk hi457_0
        have HC457_0 := Aside0.mk hl457_0
        clear hi457_0 hl457_0
        have HR457_1 := Aside0.mk hi457_1
        have HC457_1 := Aside0.mk hl457_1
        clear hi457_1 hl457_1
        have HR457_4 := Aside0.mk hi457_4
        have HC457_4 := Aside0.mk hl457_4
        clear hi457_4 hl457_4
        replace p457 := eq_true p457
        replace q457 := eq_true q457
        go_wp2_with (first | ((with_reducible refine gate_dst (N := 6) rfl ?_); (try (refine gate_guard (by rfl) ?_; dsimp only)); refine box_event ?hg (N := 6) ?hd (cs := #[.slice none 0 0, .slice none 0 0, .int .i64 0, .int .i64 0, .slice none 0 0]) (t := 30) ?hr ?_; (case hd => rfl); (case hg => rfl); (case hr => first | (go_simp; done) | (go_simp; rfl)); intro gb458 hg w19 hbox hb; have BK458 := Aside0.mk (hbox); have GW458 := ge hg (bl HB); have GE458 := ge hg (bl HB); replace HB := Aside0.mk (below_step (bl HB) hb); have NB454_458 := Aside0.mk ((by rw [hg]; exact Nat.ne_of_lt (blk_lt (g := gb454) (o := .cells #[.slice (some ad457) l0_0.length c0_0] 24 (0, 0)) (bx BK454.out)) : gb454 ≠ gb458)); have NB458_454 := Aside0.mk ((by rw [hg]; exact Nat.ne_of_gt (blk_lt (g := gb454) (o := .cells #[.slice (some ad457) l0_0.length c0_0] 24 (0, 0)) (bx BK454.out)) : gb458 ≠ gb454)); replace BK454 := Aside0.mk (blk_below (bx BK454.out) hb); clear hb hbox hg; have hnb20 := NB458_454.out; have hnc20 := NB454_458.out; obtain ⟨hcz21_0, hcz21_1, hcz21_2, hcz21_3, hcz21_4⟩ := bk5 BK458.out; have hfz21_0 := bf BK458.out) | ((with_reducible refine gate_callee (f := 23) rfl ?_); refine goesL_ (some 34) rfl rfl Tryd.func23 (by kernel_rfl) rfl #[.agg #[.slice A457_0 ((rd_T30 l0_0 x5_2).f0).length c457_0, .slice A457_1 ((rd_T30 l0_0 x5_2).f1).length c457_1, .int .i64 ((rd_T30 l0_0 x5_2).f2), .int .i64 ((rd_T30 l0_0 x5_2).f3), .slice A457_4 ((rd_T30 l0_0 x5_2).f4).length c457_4], .slice A1 l1.length c1] rfl (by (try simp only [List.map_toArray, List.map_cons, List.map_nil]); first | done | rfl) ?_; (with_reducible refine (keep_Close.calls k2 _ _ ((rd_T30 l0_0 x5_2).f0) _ _ ((rd_T30 l0_0 x5_2).f1) ((rd_T30 l0_0 x5_2).f2) ((rd_T30 l0_0 x5_2).f3) _ _ ((rd_T30 l0_0 x5_2).f4) _ _ l1 t459 _ ?side9 ?side1 ?side2 ?side3 ?side4 ?side5 ?side6 ?side7 ?side8 A17.out).mono ?_); (case side1 => exact Kd.C_below HR457_0.out (bl HB)); (case side2 => exact HC457_0.out); (case side3 => exact Kd.C_below HR457_1.out (bl HB)); (case side4 => exact HC457_1.out); (case side5 => exact Kd.C_below HR457_4.out (bl HB)); (case side6 => exact HC457_4.out); (case side7 => exact Kd.C_below HR1.out (bl HB)); (case side8 => exact HC1.out); (case side9 => exact GB_below HGB.out (bl HB)); rintro e w22 ⟨v460, rfl, ho0, hb⟩; refine ⟨_, rfl, ?_⟩; have HO461 := Aside0.mk (Kd.V_lower (Kd.V_mono (ok' := fun k_ => k_ ≠ gb454 ∧ k_ ≠ gb458) ho0 (fun k_ hk_ => ⟨(Kd.freshB (g := gb454) (o := .cells #[.slice (some ad457) l0_0.length c0_0] 24 (0, 0)) (by refine bp ?_; refine blk_far ?_ NB454_458.out _; refine bp ?_; refine blk_far ?_ NB454_458.out _; refine bp ?_; refine blk_far ?_ NB454_458.out _; refine bp ?_; refine blk_far ?_ NB454_458.out _; refine bp ?_; refine blk_far ?_ NB454_458.out _; refine bp ?_; exact BK454.out) k_ hk_), (Kd.freshB (g := gb458) (o := .cells #[.slice A457_0 ((rd_T30 l0_0 x5_2).f0).length c457_0, .slice A457_1 ((rd_T30 l0_0 x5_2).f1).length c457_1, .int .i64 ((rd_T30 l0_0 x5_2).f2), .int .i64 ((rd_T30 l0_0 x5_2).f3), .slice A457_4 ((rd_T30 l0_0 x5_2).f4).length c457_4] 30 (0, 0)) (by refine bp ?_; refine blk_put (cs := #[.slice A457_0 ((rd_T30 l0_0 x5_2).f0).length c457_0, .slice A457_1 ((rd_T30 l0_0 x5_2).f1).length c457_1, .int .i64 ((rd_T30 l0_0 x5_2).f2), .int .i64 ((rd_T30 l0_0 x5_2).f3), .slice none 0 0]) ?_ 4 _ rfl; refine bp ?_; refine blk_put (cs := #[.slice A457_0 ((rd_T30 l0_0 x5_2).f0).length c457_0, .slice A457_1 ((rd_T30 l0_0 x5_2).f1).length c457_1, .int .i64 ((rd_T30 l0_0 x5_2).f2), .int .i64 0, .slice none 0 0]) ?_ 3 _ rfl; refine bp ?_; refine blk_put (cs := #[.slice A457_0 ((rd_T30 l0_0 x5_2).f0).length c457_0, .slice A457_1 ((rd_T30 l0_0 x5_2).f1).length c457_1, .int .i64 0, .int .i64 0, .slice none 0 0]) ?_ 2 _ rfl; refine bp ?_; refine blk_put (cs := #[.slice A457_0 ((rd_T30 l0_0 x5_2).f0).length c457_0, .slice none 0 0, .int .i64 0, .int .i64 0, .slice none 0 0]) ?_ 1 _ rfl; refine bp ?_; refine blk_put (cs := #[.slice none 0 0, .slice none 0 0, .int .i64 0, .int .i64 0, .slice none 0 0]) ?_ 0 _ rfl; refine bp ?_; exact BK458.out) k_ hk_)⟩)) (below_size (bl HB))); replace BK454 := Aside0.mk (blk_below (g := gb454) (o := .cells #[.slice (some ad457) l0_0.length c0_0] 24 (0, 0)) (by refine bp ?_; refine blk_far ?_ NB454_458.out _; refine bp ?_; refine blk_far ?_ NB454_458.out _; refine bp ?_; refine blk_far ?_ NB454_458.out _; refine bp ?_; refine blk_far ?_ NB454_458.out _; refine bp ?_; refine blk_far ?_ NB454_458.out _; refine bp ?_; exact BK454.out) hb); replace BK458 := Aside0.mk (blk_below (g := gb458) (o := .cells #[.slice A457_0 ((rd_T30 l0_0 x5_2).f0).length c457_0, .slice A457_1 ((rd_T30 l0_0 x5_2).f1).length c457_1, .int .i64 ((rd_T30 l0_0 x5_2).f2), .int .i64 ((rd_T30 l0_0 x5_2).f3), .slice A457_4 ((rd_T30 l0_0 x5_2).f4).length c457_4] 30 (0, 0)) (by refine bp ?_; refine blk_put (cs := #[.slice A457_0 ((rd_T30 l0_0 x5_2).f0).length c457_0, .slice A457_1 ((rd_T30 l0_0 x5_2).f1).length c457_1, .int .i64 ((rd_T30 l0_0 x5_2).f2), .int .i64 ((rd_T30 l0_0 x5_2).f3), .slice none 0 0]) ?_ 4 _ rfl; refine bp ?_; refine blk_put (cs := #[.slice A457_0 ((rd_T30 l0_0 x5_2).f0).length c457_0, .slice A457_1 ((rd_T30 l0_0 x5_2).f1).length c457_1, .int .i64 ((rd_T30 l0_0 x5_2).f2), .int .i64 0, .slice none 0 0]) ?_ 3 _ rfl; refine bp ?_; refine blk_put (cs := #[.slice A457_0 ((rd_T30 l0_0 x5_2).f0).length c457_0, .slice A457_1 ((rd_T30 l0_0 x5_2).f1).length c457_1, .int .i64 0, .int .i64 0, .slice none 0 0]) ?_ 2 _ rfl; refine bp ?_; refine blk_put (cs := #[.slice A457_0 ((rd_T30 l0_0 x5_2).f0).length c457_0, .slice none 0 0, .int .i64 0, .int .i64 0, .slice none 0 0]) ?_ 1 _ rfl; refine bp ?_; refine blk_put (cs := #[.slice none 0 0, .slice none 0 0, .int .i64 0, .int .i64 0, .slice none 0 0]) ?_ 0 _ rfl; refine bp ?_; exact BK458.out) hb); replace HB := Aside0.mk (below_step (bl HB) hb); (try clear hb); (try clear hb2); (try clear hk); (try clear hi); (try clear ho0)))
        go_loopg [8] k2 (fun kq v8 w' => ∃ (x8_3 : Int), v8 = .int .i64 x8_3 ∧ Aside0 (portolanlaw12_KeepCloses.l1 kq l1 x5_2 t459 x8_3 l0_0 ((rd_T30 l0_0 x5_2).f0) ((rd_T30 l0_0 x5_2).f1) ((rd_T30 l0_0 x5_2).f2) ((rd_T30 l0_0 x5_2).f3) ((rd_T30 l0_0 x5_2).f4) = some true) ∧ Aside0 (kq ≤ k2) ∧ Aside0 (Kd.V (Kd.int .u64) 67 w' w.heap.size (fun k_ => k_ ≠ gb454 ∧ k_ ≠ gb458) v460 t459) ∧ Aside0 (w'.heap[gb454]? = some (.cells #[(.slice (some ad457) l0_0.length c0_0)] 24 (0, 0))) ∧ Aside0 (w'.heap[gb458]? = some (.cells #[(.slice A457_0 ((rd_T30 l0_0 x5_2).f0).length c457_0), (.slice A457_1 ((rd_T30 l0_0 x5_2).f1).length c457_1), .int .i64 ((rd_T30 l0_0 x5_2).f2), .int .i64 ((rd_T30 l0_0 x5_2).f3), (.slice A457_4 ((rd_T30 l0_0 x5_2).f4).length c457_4)] 30 (0, 0))) ∧ Aside0 (Below w.heap.size w w'))
        case atStart => exact ⟨(0), (by first | rfl | (simp; done) | (simp [*]; done)), H', ⟨Nat.le_refl _⟩, ⟨Kd.Vx HO461.out⟩, ⟨bx BK454.out⟩, ⟨bx BK458.out⟩, ⟨bl HB⟩⟩
        case round =>
         clear H'
         try clear c1
         try clear c2
         try clear p2
         try clear c4
         try clear p4
         try clear q4
         try clear hx4
         try clear c6
         try clear c9
         try clear c14
         try clear c15
         try clear c15b0
         try clear c16
         try clear c16b0
         try clear c20
         try clear c21
         try clear c22
         try clear hcz10_0
         try clear hcz12_0
         try clear hcz18_0
         try clear hcz21_0 hcz21_1 hcz21_2 hcz21_3 hcz21_4
         try clear hfz10_0
         try clear hfz12_0
         try clear hfz18_0
         try clear hfz21_0
         try clear hx457_0
         try clear hx457_1
         try clear hx457_2
         try clear hx457_3
         try clear hx457_4
         try clear p2
         try clear p457
         try clear q457
         obtain ⟨x8_3, rfl, HA, HK3, HO_7, BK454, BK458, HB⟩ := hrel
         cases gk with
         | zero => exact absurd HA.out (by simp [portolanlaw12_KeepCloses.l1])
         | succ k3 =>
          have H := HA.out
          clear HA
          simp only [portolanlaw12_KeepCloses.l1] at H
          by_cases c23 : x8_3 < (((rd_T30 l0_0 x5_2).f0).length : Int)
          ·
           rw [if_pos c23] at H
           have c23b0 : decide (x8_3 < (((rd_T30 l0_0 x5_2).f0).length : Int)) = true := decide_eq_true c23
           clear c23
           replace H := Option.bind_eq_some_iff.mp H
           obtain ⟨t462, A240, H⟩ := H
           replace H : (portolanlaw12_KeepCloses.l2 k3 l1 x5_2 t459 x8_3 t462 0 l0_0 ((rd_T30 l0_0 x5_2).f0) ((rd_T30 l0_0 x5_2).f1) ((rd_T30 l0_0 x5_2).f2) ((rd_T30 l0_0 x5_2).f3) ((rd_T30 l0_0 x5_2).f4)) = some true := H
           have A24 := Aside0.mk A240
           clear A240
           have H' := Aside0.mk H
           clear H
           have hnb25 := NB458_454.out
           have hnc25 := NB454_458.out
           obtain ⟨hcz26_0, hcz26_1, hcz26_2, hcz26_3, hcz26_4⟩ := bk5 BK458.out
           have hfz26_0 := bf BK458.out
           go_wp2_with (first | ((with_reducible refine gate_callee (f := 30) rfl ?_); refine goesL_ (some 44) rfl rfl Tryd.func30 (by kernel_rfl) rfl #[.slice A1 l1.length c1, .int .i64 x8_3] rfl (by (try simp only [List.map_toArray, List.map_cons, List.map_nil]); first | done | rfl) ?_; (with_reducible refine (portolanref02_Has.calls _ _ l1 x8_3 t462 _ ?side1 ?side2 A24.out).mono ?_); (case side1 => exact Kd.Cx (Kd.C_below HR1.out HB.out)); (case side2 => exact HC1.out); rintro e w' ⟨rfl, ⟨nd, rfl⟩⟩; refine ⟨_, rfl, ?_⟩))
           go_loopg [9, 10] k3 (fun kq v9 v10 w' => ∃ (x9_4 : Bool) (x10_4 : Int), v9 = .bool x9_4 ∧ v10 = .int .i64 x10_4 ∧ Aside0 (portolanlaw12_KeepCloses.l2 kq l1 x5_2 t459 x8_3 x9_4 x10_4 l0_0 ((rd_T30 l0_0 x5_2).f0) ((rd_T30 l0_0 x5_2).f1) ((rd_T30 l0_0 x5_2).f2) ((rd_T30 l0_0 x5_2).f3) ((rd_T30 l0_0 x5_2).f4) = some true) ∧ Aside0 (kq ≤ k3) ∧ Aside0 (Kd.V (Kd.int .u64) 67 w' w.heap.size (fun k_ => k_ ≠ gb454 ∧ k_ ≠ gb458) v460 t459) ∧ Aside0 (w'.heap[gb454]? = some (.cells #[(.slice (some ad457) l0_0.length c0_0)] 24 (0, 0))) ∧ Aside0 (w'.heap[gb458]? = some (.cells #[(.slice A457_0 ((rd_T30 l0_0 x5_2).f0).length c457_0), (.slice A457_1 ((rd_T30 l0_0 x5_2).f1).length c457_1), .int .i64 ((rd_T30 l0_0 x5_2).f2), .int .i64 ((rd_T30 l0_0 x5_2).f3), (.slice A457_4 ((rd_T30 l0_0 x5_2).f4).length c457_4)] 30 (0, 0))) ∧ Aside0 (Below w.heap.size w w'))
           case atStart => exact ⟨(t462), (0), (by first | rfl | (simp; done) | (simp [*]; done)), (by first | rfl | (simp; done) | (simp [*]; done)), H', ⟨Nat.le_refl _⟩, ⟨Kd.Vx HO_7.out⟩, ⟨bx BK454.out⟩, ⟨bx BK458.out⟩, ⟨bl HB⟩⟩
           case round =>
            clear H'
            try clear c1
            try clear c2
            try clear p2
            try clear c3
            try clear c4
            try clear p4
            try clear q4
            try clear hx4
            try clear c6
            try clear c9
            try clear c14
            try clear c15
            try clear c15b0
            try clear c16
            try clear c16b0
            try clear c20
            try clear c21
            try clear c22
            try clear c23
            try clear c23b0
            try clear c25
            try clear hcz10_0
            try clear hcz12_0
            try clear hcz18_0
            try clear hcz21_0 hcz21_1 hcz21_2 hcz21_3 hcz21_4
            try clear hcz26_0 hcz26_1 hcz26_2 hcz26_3 hcz26_4
            try clear hfz10_0
            try clear hfz12_0
            try clear hfz18_0
            try clear hfz21_0
            try clear hfz26_0
            try clear hx457_0
            try clear hx457_1
            try clear hx457_2
            try clear hx457_3
            try clear hx457_4
            try clear p2
            try clear p4
            try clear p457
            try clear q4
            try clear q457
            obtain ⟨x9_4, x10_4, rfl, rfl, HA, HK4, HO_7, BK454, BK458, HB⟩ := hrel
            cases gk with
            | zero => exact absurd HA.out (by simp [portolanlaw12_KeepCloses.l2])
            | succ k4 =>
             have H := HA.out
             clear HA
             simp only [portolanlaw12_KeepCloses.l2] at H
             by_cases c27 : x10_4 < (((rd_T30 l0_0 x5_2).f0).length : Int)
             ·
              rw [if_pos c27] at H
              have c27b0 : decide (x10_4 < (((rd_T30 l0_0 x5_2).f0).length : Int)) = true := decide_eq_true c27
              clear c27
              by_cases c28 : x9_4 = true
              ·
               subst c28
               have H1 : (portolanlaw12_KeepCloses.l2 k4 l1 x5_2 t459 x8_3 true (wrap64 (x10_4 + 1)) l0_0 ((rd_T30 l0_0 x5_2).f0) ((rd_T30 l0_0 x5_2).f1) ((rd_T30 l0_0 x5_2).f2) ((rd_T30 l0_0 x5_2).f3) ((rd_T30 l0_0 x5_2).f4)) = some true := by rw [if_pos rfl] at H; exact H
               clear H
               have H := H1
               clear H1
               have H' := Aside0.mk H
               clear H
               have hnb29 := NB458_454.out
               have hnc29 := NB454_458.out
               obtain ⟨hcz30_0, hcz30_1, hcz30_2, hcz30_3, hcz30_4⟩ := bk5 BK458.out
               have hfz30_0 := bf BK458.out
               go_wp2
               go_roundg k4
               case measure => have := HJ4.out; have := HK2.out; have := HK3.out; have := HK4.out; omega
               case rel => exact ⟨(true), (wrap64 (x10_4 + 1)), (by first | rfl | (simp; done) | (simp [*]; done)), (by first | rfl | (simp; done) | (simp [*]; done)), H', ⟨by have := HJ4.out; have := HK2.out; have := HK3.out; have := HK4.out; omega⟩, ⟨Kd.Vx HO_7.out⟩, ⟨bx BK454.out⟩, ⟨bx BK458.out⟩, ⟨bl HB⟩⟩
              replace c28 := Bool.eq_false_iff.mpr c28
              subst c28
              have H1 : (if 0 ≤ x10_4 then (if (rd ((rd_T30 l0_0 x5_2).f0) x10_4) = 2 then (if x10_4 < (((rd_T30 l0_0 x5_2).f1).length : Int) then (if (rd ((rd_T30 l0_0 x5_2).f1) x10_4) = x8_3 then ((portolanref02_Has.f l1 x10_4).bind fun t465 => (portolanlaw12_KeepCloses.l2 k4 l1 x5_2 t459 x8_3 t465 (wrap64 (x10_4 + 1)) l0_0 ((rd_T30 l0_0 x5_2).f0) ((rd_T30 l0_0 x5_2).f1) ((rd_T30 l0_0 x5_2).f2) ((rd_T30 l0_0 x5_2).f3) ((rd_T30 l0_0 x5_2).f4))) else (portolanlaw12_KeepCloses.l2 k4 l1 x5_2 t459 x8_3 false (wrap64 (x10_4 + 1)) l0_0 ((rd_T30 l0_0 x5_2).f0) ((rd_T30 l0_0 x5_2).f1) ((rd_T30 l0_0 x5_2).f2) ((rd_T30 l0_0 x5_2).f3) ((rd_T30 l0_0 x5_2).f4))) else (none)) else (portolanlaw12_KeepCloses.l2 k4 l1 x5_2 t459 x8_3 false (wrap64 (x10_4 + 1)) l0_0 ((rd_T30 l0_0 x5_2).f0) ((rd_T30 l0_0 x5_2).f1) ((rd_T30 l0_0 x5_2).f2) ((rd_T30 l0_0 x5_2).f3) ((rd_T30 l0_0 x5_2).f4))) else (none)) = some true := by rw [if_neg (show ¬ (false = true) by decide)] at H; exact H
              clear H
              have H := H1
              clear H1
              by_cases c31 : 0 ≤ x10_4
              ·
               rw [if_pos c31] at H
               have c31b0 : decide (0 ≤ x10_4) = true := decide_eq_true c31
               clear c31
               by_cases c32 : (rd ((rd_T30 l0_0 x5_2).f0) x10_4) = 2
               ·
                rw [if_pos c32] at H
                have c32b0 : ((rd ((rd_T30 l0_0 x5_2).f0) x10_4) == 2) = true := beq_iff_eq.mpr c32
                have c32b1 : ((rd ((rd_T30 l0_0 x5_2).f0) x10_4) != 2) = false := bne_eq_false_iff_eq.mpr c32
                clear c32
                by_cases c33 : x10_4 < (((rd_T30 l0_0 x5_2).f1).length : Int)
                ·
                 rw [if_pos c33] at H
                 have c33b0 : decide (x10_4 < (((rd_T30 l0_0 x5_2).f1).length : Int)) = true := decide_eq_true c33
                 clear c33
                 by_cases c34 : (rd ((rd_T30 l0_0 x5_2).f1) x10_4) = x8_3
                 ·
                  rw [if_pos c34] at H
                  have c34b0 : ((rd ((rd_T30 l0_0 x5_2).f1) x10_4) == x8_3) = true := beq_iff_eq.mpr c34
                  have c34b1 : ((rd ((rd_T30 l0_0 x5_2).f1) x10_4) != x8_3) = false := bne_eq_false_iff_eq.mpr c34
                  clear c34
                  replace H := Option.bind_eq_some_iff.mp H
                  obtain ⟨t465, A350, H⟩ := H
                  replace H : (portolanlaw12_KeepCloses.l2 k4 l1 x5_2 t459 x8_3 t465 (wrap64 (x10_4 + 1)) l0_0 ((rd_T30 l0_0 x5_2).f0) ((rd_T30 l0_0 x5_2).f1) ((rd_T30 l0_0 x5_2).f2) ((rd_T30 l0_0 x5_2).f3) ((rd_T30 l0_0 x5_2).f4)) = some true := H
                  have A35 := Aside0.mk A350
                  clear A350
                  have H' := Aside0.mk H
                  clear H
                  have hnb36 := NB458_454.out
                  have hnc36 := NB454_458.out
                  obtain ⟨hcz37_0, hcz37_1, hcz37_2, hcz37_3, hcz37_4⟩ := bk5 BK458.out
                  have hfz37_0 := bf BK458.out
                  have p463 : 0 ≤ (x10_4 : Int) := of_decide_eq_true (by assumption)
                  have q463 : x10_4 < (((rd_T30 l0_0 x5_2).f0).length : Int) := of_decide_eq_true (by assumption)
                  obtain ⟨ad463, e463, hx463_0⟩ := Kd.at_int HR457_0.out x10_4 p463 q463
                  cases e463
                  replace hx463_0 := (HB.out.cell (World.block_lt_of_cell? w _ hx463_0)).trans hx463_0
                  replace p463 := eq_true p463
                  replace q463 := eq_true q463
                  have p464 : 0 ≤ (x10_4 : Int) := of_decide_eq_true (by assumption)
                  have q464 : x10_4 < (((rd_T30 l0_0 x5_2).f1).length : Int) := of_decide_eq_true (by assumption)
                  obtain ⟨ad464, e464, hx464_0⟩ := Kd.at_int HR457_1.out x10_4 p464 q464
                  cases e464
                  replace hx464_0 := (HB.out.cell (World.block_lt_of_cell? w _ hx464_0)).trans hx464_0
                  replace p464 := eq_true p464
                  replace q464 := eq_true q464
                  go_wp2_with (first | (go_at_call 30; (with_reducible refine (portolanref02_Has.calls _ _ l1 x10_4 t465 _ ?side1 ?side2 A35.out).mono ?_); (case side1 => exact Kd.Cx (Kd.C_below HR1.out HB.out)); (case side2 => exact HC1.out); rintro e w' ⟨rfl, ⟨nd, rfl⟩⟩))
                  go_roundg k4
                  case measure => have := HJ4.out; have := HK2.out; have := HK3.out; have := HK4.out; omega
                  case rel => exact ⟨(t465), (wrap64 (x10_4 + 1)), (by first | rfl | (simp; done) | (simp [*]; done)), (by first | rfl | (simp; done) | (simp [*]; done)), H', ⟨by have := HJ4.out; have := HK2.out; have := HK3.out; have := HK4.out; omega⟩, ⟨Kd.Vx HO_7.out⟩, ⟨bx BK454.out⟩, ⟨bx BK458.out⟩, ⟨bl HB⟩⟩
                 rw [if_neg c34] at H
                 have c34b0 : ((rd ((rd_T30 l0_0 x5_2).f1) x10_4) == x8_3) = false := beq_eq_false_iff_ne.mpr c34
                 have c34b1 : ((rd ((rd_T30 l0_0 x5_2).f1) x10_4) != x8_3) = true := bne_iff_ne.mpr c34
                 have H' := Aside0.mk H
                 clear H
                 have hnb38 := NB458_454.out
                 have hnc38 := NB454_458.out
                 obtain ⟨hcz39_0, hcz39_1, hcz39_2, hcz39_3, hcz39_4⟩ := bk5 BK458.out
                 have hfz39_0 := bf BK458.out
                 have p463 : 0 ≤ (x10_4 : Int) := of_decide_eq_true (by assumption)
                 have q463 : x10_4 < (((rd_T30 l0_0 x5_2).f0).length : Int) := of_decide_eq_true (by assumption)
                 obtain ⟨ad463, e463, hx463_0⟩ := Kd.at_int HR457_0.out x10_4 p463 q463
                 cases e463
                 replace hx463_0 := (HB.out.cell (World.block_lt_of_cell? w _ hx463_0)).trans hx463_0
                 replace p463 := eq_true p463
                 replace q463 := eq_true q463
                 have p464 : 0 ≤ (x10_4 : Int) := of_decide_eq_true (by assumption)
                 have q464 : x10_4 < (((rd_T30 l0_0 x5_2).f1).length : Int) := of_decide_eq_true (by assumption)
                 obtain ⟨ad464, e464, hx464_0⟩ := Kd.at_int HR457_1.out x10_4 p464 q464
                 cases e464
                 replace hx464_0 := (HB.out.cell (World.block_lt_of_cell? w _ hx464_0)).trans hx464_0
                 replace p464 := eq_true p464
                 replace q464 := eq_true q464
                 go_wp2
                 go_roundg k4
                 case measure => have := HJ4.out; have := HK2.out; have := HK3.out; have := HK4.out; omega
                 case rel => exact ⟨(false), (wrap64 (x10_4 + 1)), (by first | rfl | (simp; done) | (simp [*]; done)), (by first | rfl | (simp; done) | (simp [*]; done)), H', ⟨by have := HJ4.out; have := HK2.out; have := HK3.out; have := HK4.out; omega⟩, ⟨Kd.Vx HO_7.out⟩, ⟨bx BK454.out⟩, ⟨bx BK458.out⟩, ⟨bl HB⟩⟩
                rw [if_neg c33] at H
                exact absurd H (by simp)
               rw [if_neg c32] at H
               have c32b0 : ((rd ((rd_T30 l0_0 x5_2).f0) x10_4) == 2) = false := beq_eq_false_iff_ne.mpr c32
               have c32b1 : ((rd ((rd_T30 l0_0 x5_2).f0) x10_4) != 2) = true := bne_iff_ne.mpr c32
               have H' := Aside0.mk H
               clear H
               have hnb40 := NB458_454.out
               have hnc40 := NB454_458.out
               obtain ⟨hcz41_0, hcz41_1, hcz41_2, hcz41_3, hcz41_4⟩ := bk5 BK458.out
               have hfz41_0 := bf BK458.out
               have p463 : 0 ≤ (x10_4 : Int) := of_decide_eq_true (by assumption)
               have q463 : x10_4 < (((rd_T30 l0_0 x5_2).f0).length : Int) := of_decide_eq_true (by assumption)
               obtain ⟨ad463, e463, hx463_0⟩ := Kd.at_int HR457_0.out x10_4 p463 q463
               cases e463
               replace hx463_0 := (HB.out.cell (World.block_lt_of_cell? w _ hx463_0)).trans hx463_0
               replace p463 := eq_true p463
               replace q463 := eq_true q463
               go_wp2
               go_roundg k4
               case measure => have := HJ4.out; have := HK2.out; have := HK3.out; have := HK4.out; omega
               case rel => exact ⟨(false), (wrap64 (x10_4 + 1)), (by first | rfl | (simp; done) | (simp [*]; done)), (by first | rfl | (simp; done) | (simp [*]; done)), H', ⟨by have := HJ4.out; have := HK2.out; have := HK3.out; have := HK4.out; omega⟩, ⟨Kd.Vx HO_7.out⟩, ⟨bx BK454.out⟩, ⟨bx BK458.out⟩, ⟨bl HB⟩⟩
              rw [if_neg c31] at H
              exact absurd H (by simp)
             rw [if_neg c27] at H
             have c27b0 : decide (x10_4 < (((rd_T30 l0_0 x5_2).f0).length : Int)) = false := decide_eq_false c27
             clear c27
             replace H := Option.bind_eq_some_iff.mp H
             obtain ⟨t466, A420, H⟩ := H
             replace H : (if (t466 != x9_4) = true then (some false) else (portolanlaw12_KeepCloses.l1 k4 l1 x5_2 t459 (wrap64 (x8_3 + 1)) l0_0 ((rd_T30 l0_0 x5_2).f0) ((rd_T30 l0_0 x5_2).f1) ((rd_T30 l0_0 x5_2).f2) ((rd_T30 l0_0 x5_2).f3) ((rd_T30 l0_0 x5_2).f4))) = some true := H
             have A42 := Aside0.mk A420
             clear A420
             by_cases c43 : (t466 != x9_4) = true
             ·
              rw [if_pos c43] at H
              exact absurd H (by simp)
             rw [if_neg c43] at H
             have c43b0 : (t466 != x9_4) = false := by simpa using c43
             (try (have c43b1 : decide (t466 = x9_4) = true := by simpa using c43))
             (try (have c43b2 : (t466 == x9_4) = true := by simpa using c43))
             clear c43
             have H' := Aside0.mk H
             clear H
             have hnb47 := NB458_454.out
             have hnc47 := NB454_458.out
             obtain ⟨hcz48_0, hcz48_1, hcz48_2, hcz48_3, hcz48_4⟩ := bk5 BK458.out
             have hfz48_0 := bf BK458.out
             obtain ⟨Ao49, co49, eo49⟩ := Kd.V_slice HO_7.out
             subst eo49
             go_wp2_with (first | ((with_reducible refine gate_callee (f := 30) rfl ?_); refine goesL_ (some 77) rfl rfl Tryd.func30 (by kernel_rfl) rfl #[.slice Ao49 t459.length co49, .int .i64 x8_3] rfl (by (try simp only [List.map_toArray, List.map_cons, List.map_nil]); first | done | rfl) ?_; (with_reducible refine (portolanref02_Has.calls _ _ t459 x8_3 t466 _ ?side1 ?side2 A42.out).mono ?_); (case side1 => exact Kd.Cx ((Kd.V_reads' HO_7.out).2.2)); (case side2 => exact (Kd.V_reads' HO_7.out).2.1); rintro e w' ⟨rfl, ⟨nd, rfl⟩⟩; refine ⟨_, rfl, ?_⟩))
             go_roundg k4
             case measure => have := HJ4.out; have := HK2.out; have := HK3.out; have := HK4.out; omega
             case rel => exact ⟨(wrap64 (x8_3 + 1)), (by first | rfl | (simp; done) | (simp [*]; done)), H', ⟨by have := HJ4.out; have := HK2.out; have := HK3.out; have := HK4.out; omega⟩, ⟨Kd.Vx HO_7.out⟩, ⟨bx BK454.out⟩, ⟨bx BK458.out⟩, ⟨bl HB⟩⟩
          rw [if_neg c23] at H
          have c23b0 : decide (x8_3 < (((rd_T30 l0_0 x5_2).f0).length : Int)) = false := decide_eq_false c23
          clear c23
          replace H := Option.bind_eq_some_iff.mp H
          obtain ⟨t467, A500, H⟩ := H
          replace H : ((keep_Ders.f k3 ((rd_T30 l0_0 x5_2).f0) ((rd_T30 l0_0 x5_2).f1) ((rd_T30 l0_0 x5_2).f2) ((rd_T30 l0_0 x5_2).f3) ((rd_T30 l0_0 x5_2).f4) t459).bind fun t470 => ((portolanref02_List.f k3 t459).bind fun t473 => (if (wrap64 ((t467.length : Int) + (t470.length : Int))) > (t473.length : Int) then (some false) else (portolanlaw12_KeepCloses.l0 k3 l1 (wrap64 (x5_2 + 1)) l0_0)))) = some true := H
          have A50 := Aside0.mk A500
          clear A500
          replace H := Option.bind_eq_some_iff.mp H
          obtain ⟨t470, A510, H⟩ := H
          replace H : ((portolanref02_List.f k3 t459).bind fun t473 => (if (wrap64 ((t467.length : Int) + (t470.length : Int))) > (t473.length : Int) then (some false) else (portolanlaw12_KeepCloses.l0 k3 l1 (wrap64 (x5_2 + 1)) l0_0))) = some true := H
          have A51 := Aside0.mk A510
          clear A510
          replace H := Option.bind_eq_some_iff.mp H
          obtain ⟨t473, A520, H⟩ := H
          replace H : (if (wrap64 ((t467.length : Int) + (t470.length : Int))) > (t473.length : Int) then (some false) else (portolanlaw12_KeepCloses.l0 k3 l1 (wrap64 (x5_2 + 1)) l0_0)) = some true := H
          have A52 := Aside0.mk A520
          clear A520
          by_cases c53 : (wrap64 ((t467.length : Int) + (t470.length : Int))) > (t473.length : Int)
          ·
           rw [if_pos c53] at H
           exact absurd H (by simp)
          rw [if_neg c53] at H
          have c53b0 : decide ((t473.length : Int) < (wrap64 ((t467.length : Int) + (t470.length : Int)))) = false := decide_eq_false c53
          clear c53
          have H' := Aside0.mk H
          clear H
          have hnb64 := NB458_454.out
          have hnc64 := NB454_458.out
          obtain ⟨hcz65_0, hcz65_1, hcz65_2, hcz65_3, hcz65_4⟩ := bk5 BK458.out
          have hfz65_0 := bf BK458.out
          try go_wp2
          replace HO_7 := Aside0.mk (Kd.V_drew HO_7.out); replace BK454 := Aside0.mk (blk_drew BK454.out); replace BK458 := Aside0.mk (blk_drew BK458.out); replace HB := Aside0.mk (below_drew1 HB.out)
          obtain ⟨Ao67, co67, eo67⟩ := Kd.V_slice HO_7.out
          (first | subst eo67 | (injection eo67 with f1_ f2_ f3_; have f4_ := f1_.symm; have f5_ := f3_.symm; clear f1_ f2_ f3_; subst f4_; subst f5_))
          refine start_ (n := 13) (S := fun w' => w'.cell? ⟨gb458, 0, none⟩ = some (.slice A457_0 ((rd_T30 l0_0 x5_2).f0).length c457_0) ∧ w'.cell? ⟨gb458, 1, none⟩ = some (.slice A457_1 ((rd_T30 l0_0 x5_2).f1).length c457_1) ∧ w'.cell? ⟨gb458, 2, none⟩ = some (.int .i64 ((rd_T30 l0_0 x5_2).f2)) ∧ w'.cell? ⟨gb458, 3, none⟩ = some (.int .i64 ((rd_T30 l0_0 x5_2).f3)) ∧ w'.cell? ⟨gb458, 4, none⟩ = some (.slice A457_4 ((rd_T30 l0_0 x5_2).f4).length c457_4)) (ds := []) #[false, false, false, false, false, false, false, false, false, false, false, false, false] (by kernel_rfl) rfl rfl ⟨(blk_cell BK458.out 0).trans rfl, (blk_cell BK458.out 1).trans rfl, (blk_cell BK458.out 2).trans rfl, (blk_cell BK458.out 3).trans rfl, (blk_cell BK458.out 4).trans rfl⟩ (fun hHeld => ?_); refine with_tabW portolanlaw12_KeepCloses.tab20 portolanlaw12_KeepCloses.bits20 (fun HT_ HW_ => ?_)
          generalize wr.drew = w66 at HO_7 BK454 BK458 HB hHeld ⊢
          refine pure_ (i := 1) (N := some 81) (v := ?_) (a' := ?_) #[false, true, false, false, false, false, false, false, false, false, false, false, false] rfl rfl (any_of HT_.out (by kernel_rfl)) (fun _ _ _ h => h) (Or.inl ⟨by rfl, ?_⟩) ?_ ?_
          rotate_left
          ·
           intro w'
           go_simp
           with_reducible rfl
          rotate_left
          ·
           simp only [Act.put, List.setIfInBounds_toArray, List.set_cons_zero, List.set_cons_succ, i64_w, i32_w]
           rfl
          refine pure_ (i := 5) (N := some 85) (v := ?_) (a' := ?_) #[false, true, false, false, false, true, false, false, false, false, false, false, false] rfl rfl (any_of HT_.out (by kernel_rfl)) (fun _ _ _ h => h) (Or.inl ⟨by rfl, ?_⟩) ?_ ?_
          rotate_left
          ·
           intro w'
           go_simp
           with_reducible rfl
          rotate_left
          ·
           simp only [Act.put, List.setIfInBounds_toArray, List.set_cons_zero, List.set_cons_succ, i64_w, i32_w]
           rfl
          refine pure_ (i := 9) (N := some 89) (v := ?_) (a' := ?_) #[false, true, false, false, false, true, false, false, false, true, false, false, false] rfl rfl (any_of HT_.out (by kernel_rfl)) (fun _ _ _ h => h) (Or.inl ⟨by rfl, ?_⟩) ?_ ?_
          rotate_left
          ·
           intro w'
           go_simp
           with_reducible rfl
          rotate_left
          ·
           simp only [Act.put, List.setIfInBounds_toArray, List.set_cons_zero, List.set_cons_succ, i64_w, i32_w]
           rfl
          refine take_ (i := 0) (N := some 80) (v := ?_) (a' := ?_) #[true, true, false, false, false, true, false, false, false, true, false, false, false] rfl rfl (take_ofW HT_.out HW_.out (by kernel_rfl)) (fun _ _ _ h => h) (Or.inl ⟨by rfl, ?_⟩) hHeld ?_ ?_
          rotate_left
          ·
           rintro w' ⟨s0, s1, s2, s3, s4⟩
           go_simp
           with_reducible rfl
          rotate_left
          ·
           simp only [Act.put, List.setIfInBounds_toArray, List.set_cons_zero, List.set_cons_succ, i64_w, i32_w]
           rfl
          refine take_ (i := 4) (N := some 84) (v := ?_) (a' := ?_) #[true, true, false, false, true, true, false, false, false, true, false, false, false] rfl rfl (take_ofW HT_.out HW_.out (by kernel_rfl)) (fun _ _ _ h => h) (Or.inl ⟨by rfl, ?_⟩) hHeld ?_ ?_
          rotate_left
          ·
           rintro w' ⟨s0, s1, s2, s3, s4⟩
           go_simp
           with_reducible rfl
          rotate_left
          ·
           simp only [Act.put, List.setIfInBounds_toArray, List.set_cons_zero, List.set_cons_succ, i64_w, i32_w]
           rfl
          refine one_ (i := 2) (N := some 82) #[true, true, true, false, true, true, false, false, false, true, false, false, false] rfl rfl (one_of HT_.out (by kernel_rfl)) (by decide) (fun K hK => ?_)
          refine goes_ Tryd.func26 (by kernel_rfl) rfl #[.agg #[.slice A457_0 ((rd_T30 l0_0 x5_2).f0).length c457_0, .slice A457_1 ((rd_T30 l0_0 x5_2).f1).length c457_1, .int .i64 ((rd_T30 l0_0 x5_2).f2), .int .i64 ((rd_T30 l0_0 x5_2).f3), .slice A457_4 ((rd_T30 l0_0 x5_2).f4).length c457_4], .slice Ao67 t459.length co67] (by rfl) rfl rfl (by (try simp only [List.map_toArray, List.map_cons, List.map_nil]); first | done | rfl) ?_
          with_reducible refine (keep_Refs.calls k3 _ _ ((rd_T30 l0_0 x5_2).f0) _ _ ((rd_T30 l0_0 x5_2).f1) ((rd_T30 l0_0 x5_2).f2) ((rd_T30 l0_0 x5_2).f3) _ _ ((rd_T30 l0_0 x5_2).f4) _ _ t459 t467 _ ?side9 ?side1 ?side2 ?side3 ?side4 ?side5 ?side6 ?side7 ?side8 A50.out).mono ?_
          (case side1 => exact Kd.Cx (Kd.C_below HR457_0.out HB.out))
          (case side2 => exact HC457_0.out)
          (case side3 => exact Kd.Cx (Kd.C_below HR457_1.out HB.out))
          (case side4 => exact HC457_1.out)
          (case side5 => exact Kd.Cx (Kd.C_below HR457_4.out HB.out))
          (case side6 => exact HC457_4.out)
          (case side7 => exact Kd.Cx ((Kd.V_reads' HO_7.out).2.2))
          (case side8 => exact (Kd.V_reads' HO_7.out).2.1)
          (case side9 => exact GB_below HGB.out (bl HB))
          rintro e w68 ⟨v468, rfl, ho0, hb⟩
          refine ⟨_, rfl, ?_⟩
          replace HO_7 := Aside0.mk (Kd.V_elder' (Kd.Vx HO_7.out) (Kd.R_base ho0) hb); have HO469 := Aside0.mk (Kd.R_lower ho0 (below_size (bl HB))); replace BK454 := Aside0.mk (blk_below (bx BK454.out) hb); replace BK458 := Aside0.mk (blk_below (bx BK458.out) hb); replace HB := Aside0.mk (below_step (bl HB) hb)
          (try clear hb)
          (try clear hb2)
          (try clear hk)
          (try clear hi)
          (try clear ho0)
          obtain ⟨Ao69, co69, eo69⟩ := Kd.R_slice HO469.out
          (first | subst eo69 | (injection eo69 with f1_ f2_ f3_; have f4_ := f1_.symm; have f5_ := f3_.symm; clear f1_ f2_ f3_; subst f4_; subst f5_))
          refine hK.out _ _ ⟨(blk_cell BK458.out 0).trans rfl, (blk_cell BK458.out 1).trans rfl, (blk_cell BK458.out 2).trans rfl, (blk_cell BK458.out 3).trans rfl, (blk_cell BK458.out 4).trans rfl⟩ (fun hHeld => ?_)
          clear hK K
          refine norm_ (a' := ?_) ?_ ?_
          rotate_left
          ·
           show Act.put _ (some 82) _ = _
           simp only [Act.put, List.setIfInBounds_toArray, List.set_cons_zero, List.set_cons_succ, i64_w, i32_w]
           rfl
          refine pure_ (i := 3) (N := some 83) (v := ?_) (a' := ?_) #[true, true, true, true, true, true, false, false, false, true, false, false, false] rfl rfl (any_of HT_.out (by kernel_rfl)) (fun _ _ _ h => h) (Or.inl ⟨by rfl, ?_⟩) ?_ ?_
          rotate_left
          ·
           intro w'
           go_simp
           with_reducible rfl
          rotate_left
          ·
           simp only [Act.put, List.setIfInBounds_toArray, List.set_cons_zero, List.set_cons_succ, i64_w, i32_w]
           rfl
          refine one_ (i := 6) (N := some 86) #[true, true, true, true, true, true, true, false, false, true, false, false, false] rfl rfl (one_of HT_.out (by kernel_rfl)) (by decide) (fun K hK => ?_)
          refine goes_ Tryd.func28 (by kernel_rfl) rfl #[.agg #[.slice A457_0 ((rd_T30 l0_0 x5_2).f0).length c457_0, .slice A457_1 ((rd_T30 l0_0 x5_2).f1).length c457_1, .int .i64 ((rd_T30 l0_0 x5_2).f2), .int .i64 ((rd_T30 l0_0 x5_2).f3), .slice A457_4 ((rd_T30 l0_0 x5_2).f4).length c457_4], .slice Ao67 t459.length co67] (by rfl) rfl rfl (by (try simp only [List.map_toArray, List.map_cons, List.map_nil]); first | done | rfl) ?_
          with_reducible refine (keep_Ders.calls k3 _ _ ((rd_T30 l0_0 x5_2).f0) _ _ ((rd_T30 l0_0 x5_2).f1) ((rd_T30 l0_0 x5_2).f2) ((rd_T30 l0_0 x5_2).f3) _ _ ((rd_T30 l0_0 x5_2).f4) _ _ t459 t470 _ ?side9 ?side1 ?side2 ?side3 ?side4 ?side5 ?side6 ?side7 ?side8 A51.out).mono ?_
          (case side1 => exact Kd.Cx (Kd.C_below HR457_0.out HB.out))
          (case side2 => exact HC457_0.out)
          (case side3 => exact Kd.Cx (Kd.C_below HR457_1.out HB.out))
          (case side4 => exact HC457_1.out)
          (case side5 => exact Kd.Cx (Kd.C_below HR457_4.out HB.out))
          (case side6 => exact HC457_4.out)
          (case side7 => exact Kd.Cx ((Kd.V_reads' HO_7.out).2.2))
          (case side8 => exact (Kd.V_reads' HO_7.out).2.1)
          (case side9 => exact GB_below HGB.out (bl HB))
          rintro e w70 ⟨v471, rfl, ho0, hb⟩
          refine ⟨_, rfl, ?_⟩
          replace HO_7 := Aside0.mk (Kd.V_elder' (Kd.Vx HO_7.out) (Kd.R_base ho0) hb); have HO472 := Aside0.mk (Kd.R_lower (Kd.R_new' ho0 (Kd.R_lt (Kd.Rx HO469.out))) (below_size (bl HB))); replace HO469 := Aside0.mk (Kd.R_elder' (Kd.Rx HO469.out) (Kd.R_base ho0) hb); replace BK454 := Aside0.mk (blk_below (bx BK454.out) hb); replace BK458 := Aside0.mk (blk_below (bx BK458.out) hb); replace HB := Aside0.mk (below_step (bl HB) hb)
          (try clear hb)
          (try clear hb2)
          (try clear hk)
          (try clear hi)
          (try clear ho0)
          obtain ⟨Ao71, co71, eo71⟩ := Kd.R_slice HO472.out
          (first | subst eo71 | (injection eo71 with f1_ f2_ f3_; have f4_ := f1_.symm; have f5_ := f3_.symm; clear f1_ f2_ f3_; subst f4_; subst f5_))
          refine hK.out _ _ ⟨(blk_cell BK458.out 0).trans rfl, (blk_cell BK458.out 1).trans rfl, (blk_cell BK458.out 2).trans rfl, (blk_cell BK458.out 3).trans rfl, (blk_cell BK458.out 4).trans rfl⟩ (fun hHeld => ?_)
          clear hK K
          refine norm_ (a' := ?_) ?_ ?_
          rotate_left
          ·
           show Act.put _ (some 86) _ = _
           simp only [Act.put, List.setIfInBounds_toArray, List.set_cons_zero, List.set_cons_succ, i64_w, i32_w]
           rfl
          refine pure_ (i := 7) (N := some 87) (v := ?_) (a' := ?_) #[true, true, true, true, true, true, true, true, false, true, false, false, false] rfl rfl (any_of HT_.out (by kernel_rfl)) (fun _ _ _ h => h) (Or.inl ⟨by rfl, ?_⟩) ?_ ?_
          rotate_left
          ·
           intro w'
           go_simp
           with_reducible rfl
          rotate_left
          ·
           simp only [Act.put, List.setIfInBounds_toArray, List.set_cons_zero, List.set_cons_succ, i64_w, i32_w]
           rfl
          refine pure_ (i := 8) (N := some 88) (v := ?_) (a' := ?_) #[true, true, true, true, true, true, true, true, true, true, false, false, false] rfl rfl (any_of HT_.out (by kernel_rfl)) (fun _ _ _ h => h) (Or.inl ⟨by rfl, ?_⟩) ?_ ?_
          rotate_left
          ·
           intro w'
           go_simp
           with_reducible rfl
          rotate_left
          ·
           simp only [Act.put, List.setIfInBounds_toArray, List.set_cons_zero, List.set_cons_succ, i64_w, i32_w]
           rfl
          refine one_ (i := 10) (N := some 90) #[true, true, true, true, true, true, true, true, true, true, true, false, false] rfl rfl (one_of HT_.out (by kernel_rfl)) (by decide) (fun K hK => ?_)
          refine goes_ Tryd.func31 (by kernel_rfl) rfl #[.slice Ao67 t459.length co67] (by rfl) rfl rfl (by (try simp only [List.map_toArray, List.map_cons, List.map_nil]); first | done | rfl) ?_
          with_reducible refine (portolanref02_List.calls k3 _ _ t459 t473 _ ?side1 ?side2 A52.out).mono ?_
          (case side1 => exact Kd.Cx ((Kd.V_reads' HO_7.out).2.2))
          (case side2 => exact (Kd.V_reads' HO_7.out).2.1)
          rintro e w72 ⟨v474, rfl, ho0, hb⟩
          refine ⟨_, rfl, ?_⟩
          replace HO_7 := Aside0.mk (Kd.V_elder' (Kd.Vx HO_7.out) (Kd.R_base ho0) hb); have HO475 := Aside0.mk (Kd.R_lower (Kd.R_new' (Kd.R_new' ho0 (Kd.R_lt (Kd.Rx HO469.out))) (Kd.R_lt (Kd.Rx HO472.out))) (below_size (bl HB))); replace HO469 := Aside0.mk (Kd.R_elder' (Kd.Rx HO469.out) (Kd.R_base ho0) hb); replace HO472 := Aside0.mk (Kd.R_elder' (Kd.Rx HO472.out) (Kd.R_base ho0) hb); replace BK454 := Aside0.mk (blk_below (bx BK454.out) hb); replace BK458 := Aside0.mk (blk_below (bx BK458.out) hb); replace HB := Aside0.mk (below_step (bl HB) hb)
          (try clear hb)
          (try clear hb2)
          (try clear hk)
          (try clear hi)
          (try clear ho0)
          obtain ⟨Ao73, co73, eo73⟩ := Kd.R_slice HO475.out
          (first | subst eo73 | (injection eo73 with f1_ f2_ f3_; have f4_ := f1_.symm; have f5_ := f3_.symm; clear f1_ f2_ f3_; subst f4_; subst f5_))
          refine hK.out _ _ ⟨(blk_cell BK458.out 0).trans rfl, (blk_cell BK458.out 1).trans rfl, (blk_cell BK458.out 2).trans rfl, (blk_cell BK458.out 3).trans rfl, (blk_cell BK458.out 4).trans rfl⟩ (fun hHeld => ?_)
          clear hK K
          refine norm_ (a' := ?_) ?_ ?_
          rotate_left
          ·
           show Act.put _ (some 90) _ = _
           simp only [Act.put, List.setIfInBounds_toArray, List.set_cons_zero, List.set_cons_succ, i64_w, i32_w]
           rfl
          refine pure_ (i := 11) (N := some 91) (v := ?_) (a' := ?_) #[true, true, true, true, true, true, true, true, true, true, true, true, false] rfl rfl (any_of HT_.out (by kernel_rfl)) (fun _ _ _ h => h) (Or.inl ⟨by rfl, ?_⟩) ?_ ?_
          rotate_left
          ·
           intro w'
           go_simp
           with_reducible rfl
          rotate_left
          ·
           simp only [Act.put, List.setIfInBounds_toArray, List.set_cons_zero, List.set_cons_succ, i64_w, i32_w]
           rfl
          refine pure_ (i := 12) (N := some 92) (v := ?_) (a' := ?_) #[true, true, true, true, true, true, true, true, true, true, true, true, true] rfl rfl (any_of HT_.out (by kernel_rfl)) (fun _ _ _ h => h) (Or.inl ⟨by rfl, ?_⟩) ?_ ?_
          rotate_left
          ·
           intro w'
           go_simp
           with_reducible rfl
          rotate_left
          ·
           simp only [Act.put, List.setIfInBounds_toArray, List.set_cons_zero, List.set_cons_succ, i64_w, i32_w]
           rfl
          refine done_ (done_of HT_.out (by kernel_rfl)) ?_
          try go_wp2
          go_roundg k3
          case measure => have := HJ4.out; have := HK2.out; have := HK3.out; omega
          case rel => exact ⟨(wrap64 (x5_2 + 1)), (by first | rfl | (simp; done) | (simp [*]; done)), H', ⟨by have := HJ4.out; have := HK2.out; have := HK3.out; omega⟩, ⟨bx BK454.out⟩, ⟨bl HB⟩⟩
       rw [if_neg c16] at H
       exact absurd H (by simp)
      rw [if_neg c15] at H
      have c15b0 : decide (x5_2 < (l0_0.length : Int)) = false := decide_eq_false c15
      clear c15
      clear H
      have hcz74_0 := bk1 BK454.out
      have hfz74_0 := bf BK454.out
      go_wp2
      go_ret
      exact ⟨by first | rfl | (simp [errW_none, errW_some] <;> rfl) | (simp [*, errW_none, errW_some] <;> rfl), bl HB⟩
 replace c4 := Bool.eq_false_iff.mpr c4
 subst c4
 have H1 : (some false) = some true := by rw [if_neg (show ¬ (false = true) by decide)] at H; exact H
 exact absurd H1 (by simp)
end Go.Proofs.YtdmimhjmbdkhmaaDoor.X
