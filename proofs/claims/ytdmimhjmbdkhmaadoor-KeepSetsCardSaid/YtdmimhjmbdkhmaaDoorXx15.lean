/- Part of a proof about the Go function named in the last text of this claim. -/
import Derived.Test.YtdmimhjmbdkhmaaDoorZw
import Derived.Test.YtdmimhjmbdkhmaaDoorXx0
import Derived.Test.YtdmimhjmbdkhmaaDoorXx1
import Derived.Test.YtdmimhjmbdkhmaaDoorXx6
import Derived.Test.YtdmimhjmbdkhmaaDoorXx7
import Derived.Test.YtdmimhjmbdkhmaaDoorXx13
import Derived.Test.YtdmimhjmbdkhmaaDoorXx14
import Derived.Test.YtdmimhjmbdkhmaaDoorZg
import Derived.Test.YtdmimhjmbdkhmaaDoorZk
set_option linter.unusedVariables false
set_option linter.unusedSimpArgs false
namespace Go.Proofs.YtdmimhjmbdkhmaaDoor.X
open Go.RowKit Go.Proofs.YtdmimhjmbdkhmaaDoorW.PrintWords Go.Proofs.YtdmimhjmbdkhmaaDoorW.PrintLast Go.Proofs.YtdmimhjmbdkhmaaDoorW.PrintMore
attribute [local go_sem] max2_int min2_int max_two min_two max_three min_three max_four min_four
set_option linter.unusedVariables false
set_option linter.unusedSimpArgs false
mutual
def portolanlaw12_KeepSets.j0 : Nat → List Int → Bool → List (S30) → Option (Bool)
 | 0, _, _, _ => none
 | k + 1, x1, x16, x512000 => if x16 = true then (some true) else (portolanlaw12_KeepSets.l0 k x1 0 x512000)
def portolanlaw12_KeepSets.l0 : Nat → List Int → Int → List (S30) → Option (Bool)
 | 0, _, _, _ => none
 | k + 1, x1, x5, x512000 => if x5 < (x512000.length : Int) then (if 0 ≤ x5 then ((keep_Close.f k ((rd_T30 x512000 x5).f0) ((rd_T30 x512000 x5).f1) ((rd_T30 x512000 x5).f2) ((rd_T30 x512000 x5).f3) ((rd_T30 x512000 x5).f4) x1).bind fun t516 => ((portolanref12_Close.f k ((rd_T30 x512000 x5).f0) ((rd_T30 x512000 x5).f1) ((rd_T30 x512000 x5).f2) ((rd_T30 x512000 x5).f3) ((rd_T30 x512000 x5).f4) x1).bind fun t519 => ((portolanref02_Words.f k t516 t519).bind fun t522 => (if t522 = true then ((keep_Close.f k ((rd_T30 x512000 x5).f0) ((rd_T30 x512000 x5).f1) ((rd_T30 x512000 x5).f2) ((rd_T30 x512000 x5).f3) ((rd_T30 x512000 x5).f4) t516).bind fun t523 => ((portolanref02_Words.f k t523 t516).bind fun t526 => (if t526 = true then ((keep_Refs.f k ((rd_T30 x512000 x5).f0) ((rd_T30 x512000 x5).f1) ((rd_T30 x512000 x5).f2) ((rd_T30 x512000 x5).f3) ((rd_T30 x512000 x5).f4) x1).bind fun t527 => ((portolanref12_Refs.f k ((rd_T30 x512000 x5).f0) ((rd_T30 x512000 x5).f1) ((rd_T30 x512000 x5).f2) ((rd_T30 x512000 x5).f3) ((rd_T30 x512000 x5).f4) x1).bind fun t530 => ((portolanref01_Ints.f k t527 t530).bind fun t533 => (if t533 = true then ((keep_Ders.f k ((rd_T30 x512000 x5).f0) ((rd_T30 x512000 x5).f1) ((rd_T30 x512000 x5).f2) ((rd_T30 x512000 x5).f3) ((rd_T30 x512000 x5).f4) x1).bind fun t534 => ((portolanref12_Ders.f k ((rd_T30 x512000 x5).f0) ((rd_T30 x512000 x5).f1) ((rd_T30 x512000 x5).f2) ((rd_T30 x512000 x5).f3) ((rd_T30 x512000 x5).f4) x1).bind fun t537 => ((portolanref01_Ints.f k t534 t537).bind fun t540 => (if t540 = true then (portolanlaw12_KeepSets.l0 k x1 (wrap64 (x5 + 1)) x512000) else (some false))))) else (some false))))) else (some false)))) else (some false))))) else (none)) else (some true)
end
def portolanlaw12_KeepSets.f (k : Nat) (l0_0 : List (S30)) (l1 : List Int) : Option (Bool) := (portolanlaw12_alive.f k).bind fun t512 => (if t512 = true then ((portolanlaw12_out.f k l0_0).bind fun t513 => (if t513 = true then (portolanlaw12_KeepSets.j0 k l1 true l0_0) else (portolanlaw12_KeepSets.j0 k l1 (decide ((l1.length : Int) > 70)) l0_0))) else (some false))
def portolanlaw12_KeepSets.T10 : Bool × List (List Nat × List Nat) := (true, [([], []), ([], []), ([], []), ([1, 2], [1, 2]), ([0, 3, 3], [0, 3]), ([4], [4]), ([5, 4], [5]), ([6], [6]), ([6], [6]), ([7, 8, 6, 6], [6, 7, 8]), ([6], [6]), ([9, 10, 9, 6], [6, 9, 10]), ([11, 6], [6, 11]), ([6, 12], [6, 12]), ([13, 11], [13]), ([14], [14]), ([14], [14]), ([15, 16, 14, 14], [14, 15, 16]), ([14], [14]), ([14], [14]), ([18, 19, 17, 14], [14, 18, 19]), ([17, 20, 20, 14], [14, 17, 20]), ([21, 14], [14, 21]), ([14, 22], [14, 22]), ([23, 21], [23]), ([24], [24]), ([24], [24]), ([25, 26, 24, 24], [24, 25, 26]), ([24], [24]), ([24], [24]), ([28, 29, 27, 24], [24, 28, 29]), ([27, 30, 30, 24], [24, 27, 30]), ([31, 24], [24, 31]), ([24, 32], [24, 32])])
def portolanlaw12_KeepSets.B10 : List Nat := [0, 0, 0, 6, 15, 31, 63, 127, 127, 511, 127, 2047, 4095, 8191, 16383, 32767, 32767, 131071, 32767, 32767, 1048575, 2097151, 4194303, 8388607, 16777215, 33554431, 33554431, 134217727, 33554431, 33554431, 1073741823, 2147483647, 4294967295, 8589934591]
theorem portolanlaw12_KeepSets.tab10 : rtab .any (opsOf Tryd.f5 10) = portolanlaw12_KeepSets.T10 := by kernel_rfl
theorem portolanlaw12_KeepSets.bits10 : waitsOk portolanlaw12_KeepSets.T10.2 portolanlaw12_KeepSets.B10 = true := by kernel_rfl
set_option maxHeartbeats 8000000 in
set_option maxRecDepth 100000 in
theorem portolanlaw12_KeepSets.calls (k : Nat) (A0_0 : Option Addr) (c0_0 : Nat) (l0_0 : List (S30)) (A1 : Option Addr) (c1 : Nat) (l1 : List Int) (w : World) (hGG : GG w) (hGB : GB w) (hr0_0 : Kd.C k30 w A0_0 l0_0.length l0_0) (hc0_0 : l0_0.length ≤ c0_0) (hr1 : Kd.C (Kd.int .u64) w A1 l1.length l1) (hc1 : l1.length ≤ c1) (h : portolanlaw12_KeepSets.f k l0_0 l1 = some true) :
 Calls Tryd.prog 5 #[.agg #[.slice A0_0 l0_0.length c0_0], .slice A1 l1.length c1] w fun e w' => e = .returned (.bool true) ∧ Below w.heap.size w w' := by
 have hu24 := Tryd.underlying24
 have hu30 := Tryd.underlying30
 have HGG := Aside0.mk hGG
 clear hGG
 have HGB := Aside0.mk hGB
 clear hGB
 have HR0_0 := Aside0.mk hr0_0
 have HC0_0 := Aside0.mk hc0_0
 clear hr0_0 hc0_0
 have HR1 := Aside0.mk hr1
 have HC1 := Aside0.mk hc1
 clear hr1 hc1
 have HB := Aside0.mk (Below.refl w.heap.size w)
 have H : ((portolanlaw12_alive.f k).bind fun t512 => (if t512 = true then ((portolanlaw12_out.f k l0_0).bind fun t513 => (if t513 = true then (portolanlaw12_KeepSets.j0 k l1 true l0_0) else (portolanlaw12_KeepSets.j0 k l1 (decide ((l1.length : Int) > 70)) l0_0))) else (some false))) = some true := h
 clear h
 replace H := Option.bind_eq_some_iff.mp H
 obtain ⟨t512, A30, H⟩ := H
 replace H : (if t512 = true then ((portolanlaw12_out.f k l0_0).bind fun t513 => (if t513 = true then (portolanlaw12_KeepSets.j0 k l1 true l0_0) else (portolanlaw12_KeepSets.j0 k l1 (decide ((l1.length : Int) > 70)) l0_0))) else (some false)) = some true := H
 have A3 := Aside0.mk A30
 clear A30
 by_cases c4 : t512 = true
 ·
  subst c4
  have H1 : ((portolanlaw12_out.f k l0_0).bind fun t513 => (if t513 = true then (portolanlaw12_KeepSets.j0 k l1 true l0_0) else (portolanlaw12_KeepSets.j0 k l1 (decide ((l1.length : Int) > 70)) l0_0))) = some true := by rw [if_pos rfl] at H; exact H
  clear H
  have H := H1
  clear H1
  have HC5 := Aside0.mk H
  clear H
  go_enter Tryd.func5, Tryd.ntmps5
  go_upto_region 3 with (first | ((with_reducible refine gate_dst (N := 2) rfl ?_); (try (refine gate_guard (by rfl) ?_; dsimp only)); refine box_event ?hg (N := 2) ?hd (cs := #[.slice A0_0 l0_0.length c0_0]) (t := 24) ?hr ?_; (case hd => rfl); (case hg => rfl); (case hr => first | (go_simp; done) | (go_simp; rfl)); intro gb511 hg w6 hbox hb; have BK511 := Aside0.mk (hbox); have GW511 := ge hg (bl HB); have GE511 := ge hg (bl HB); replace HB := Aside0.mk (below_step (bl HB) hb); clear hb hbox hg) | ((with_reducible refine gate_callee (f := 21) rfl ?_); refine goesL_ (some 8) rfl rfl Tryd.func21 (by kernel_rfl) rfl #[] rfl (by (try simp only [List.map_toArray, List.map_cons, List.map_nil]); first | done | rfl) ?_; (with_reducible refine (portolanlaw12_alive.calls k  true _ ?side1 ?side2 A3.out).mono ?_); (case side1 => exact GG_below HGG.out (bl HB)); (case side2 => exact GB_below HGB.out (bl HB)); rintro e w7 ⟨rfl, hb⟩; refine ⟨_, rfl, ?_⟩; replace BK511 := Aside0.mk (blk_below (bx BK511.out) hb); replace HB := Aside0.mk (below_step (bl HB) hb); (try clear hb); (try clear hb2); (try clear hk); (try clear hi)))
  (try simp only [Act.put, List.setIfInBounds_toArray, List.set_cons_zero, List.set_cons_succ])
  go_cut [16] (fun v16 wc => ∃ (kq : Nat) (x16_4 : Bool), v16 = .bool x16_4 ∧ Aside0 (portolanlaw12_KeepSets.j0 kq l1 x16_4 l0_0 = some true) ∧ Aside0 (kq ≤ k) ∧ Aside0 (wc.heap[gb511]? = some (.cells #[(.slice A0_0 l0_0.length c0_0)] 24 (0, 0))) ∧ Aside0 (Below w.heap.size w wc))
  case first =>
   have H := HC5.out
   clear HC5
   replace H := Option.bind_eq_some_iff.mp H
   obtain ⟨t513, A80, H⟩ := H
   replace H : (if t513 = true then (portolanlaw12_KeepSets.j0 k l1 true l0_0) else (portolanlaw12_KeepSets.j0 k l1 (decide ((l1.length : Int) > 70)) l0_0)) = some true := H
   have A8 := Aside0.mk A80
   clear A80
   by_cases c9 : t513 = true
   ·
    subst c9
    have H1 : (portolanlaw12_KeepSets.j0 k l1 true l0_0) = some true := by rw [if_pos rfl] at H; exact H
    clear H
    have H := H1
    clear H1
    have H' := Aside0.mk H
    clear H
    have hcz10_0 := bk1 BK511.out
    have hfz10_0 := bf BK511.out
    go_wp2_with (first | ((with_reducible refine gate_callee (f := 22) rfl ?_); refine goesL_ (some 11) rfl rfl Tryd.func22 (by kernel_rfl) rfl #[.agg #[.slice A0_0 l0_0.length c0_0]] rfl (by (try simp only [List.map_toArray, List.map_cons, List.map_nil]); first | done | rfl) ?_; (with_reducible refine (portolanlaw12_out.calls k _ _ l0_0 true _ ?side1 ?side2 A8.out).mono ?_); (case side1 => exact Kd.Cx (Kd.C_below HR0_0.out HB.out)); (case side2 => exact HC0_0.out); rintro e w11 ⟨rfl, hb⟩; refine ⟨_, rfl, ?_⟩; replace BK511 := Aside0.mk (blk_below (bx BK511.out) hb); replace HB := Aside0.mk (below_step (bl HB) hb); (try clear hb); (try clear hb2); (try clear hk); (try clear hi)))
    go_meet
    case rel => exact ⟨_, (true), (by first | rfl | (simp; done) | (simp [*]; done)), H', ⟨by first | omega | exact Nat.le_refl _⟩, ⟨bx BK511.out⟩, ⟨bl HB⟩⟩
   replace c9 := Bool.eq_false_iff.mpr c9
   subst c9
   have H1 : (portolanlaw12_KeepSets.j0 k l1 (decide ((l1.length : Int) > 70)) l0_0) = some true := by rw [if_neg (show ¬ (false = true) by decide)] at H; exact H
   clear H
   have H := H1
   clear H1
   have H' := Aside0.mk H
   clear H
   have hcz12_0 := bk1 BK511.out
   have hfz12_0 := bf BK511.out
   go_wp2_with (first | ((with_reducible refine gate_callee (f := 22) rfl ?_); refine goesL_ (some 11) rfl rfl Tryd.func22 (by kernel_rfl) rfl #[.agg #[.slice A0_0 l0_0.length c0_0]] rfl (by (try simp only [List.map_toArray, List.map_cons, List.map_nil]); first | done | rfl) ?_; (with_reducible refine (portolanlaw12_out.calls k _ _ l0_0 false _ ?side1 ?side2 A8.out).mono ?_); (case side1 => exact Kd.Cx (Kd.C_below HR0_0.out HB.out)); (case side2 => exact HC0_0.out); rintro e w13 ⟨rfl, hb⟩; refine ⟨_, rfl, ?_⟩; replace BK511 := Aside0.mk (blk_below (bx BK511.out) hb); replace HB := Aside0.mk (below_step (bl HB) hb); (try clear hb); (try clear hb2); (try clear hk); (try clear hi)))
   go_meet
   case rel => exact ⟨_, (decide ((l1.length : Int) > 70)), (by first | rfl | (simp; done) | (simp [*]; done)), H', ⟨by first | omega | exact Nat.le_refl _⟩, ⟨bx BK511.out⟩, ⟨bl HB⟩⟩
  case rest =>
   clear HC5
   try clear c1
   try clear c2
   try clear p2
   try clear c4
   try clear c5
   try clear c9
   try clear hcz10_0
   try clear hcz12_0
   try clear hfz10_0
   try clear hfz12_0
   obtain ⟨kq, x16_4, rfl, HA, HJ4, BK511, HB⟩ := hcut
   cases kq with
   | zero => exact absurd HA.out (by simp [portolanlaw12_KeepSets.j0])
   | succ kj4 =>
    have H := HA.out
    clear HA
    simp only [portolanlaw12_KeepSets.j0] at H
    by_cases c14 : x16_4 = true
    ·
     subst c14
     have H1 : (some true) = some true := rfl
     clear H
     have H := H1
     clear H1
     clear H
     go_wp2
     go_ret
     exact ⟨by first | rfl | (simp [errW_none, errW_some] <;> rfl) | (simp [*, errW_none, errW_some] <;> rfl), bl HB⟩
    replace c14 := Bool.eq_false_iff.mpr c14
    subst c14
    have H1 : (portolanlaw12_KeepSets.l0 kj4 l1 0 l0_0) = some true := by rw [if_neg (show ¬ (false = true) by decide)] at H; exact H
    clear H
    have H := H1
    clear H1
    have H' := Aside0.mk H
    clear H
    go_wp2
    go_loopg [5] kj4 (fun kq v5 w' => ∃ (x5_2 : Int), v5 = .int .i64 x5_2 ∧ Aside0 (portolanlaw12_KeepSets.l0 kq l1 x5_2 l0_0 = some true) ∧ Aside0 (kq ≤ kj4) ∧ Aside0 (w'.heap[gb511]? = some (.cells #[(.slice A0_0 l0_0.length c0_0)] 24 (0, 0))) ∧ Aside0 (Below w.heap.size w w'))
    case atStart => exact ⟨(0), (by first | rfl | (simp; done) | (simp [*]; done)), H', ⟨Nat.le_refl _⟩, ⟨bx BK511.out⟩, ⟨bl HB⟩⟩
    case round =>
     clear H'
     try clear c1
     try clear c2
     try clear p2
     try clear c4
     try clear c5
     try clear c9
     try clear c14
     try clear hcz10_0
     try clear hcz12_0
     try clear hfz10_0
     try clear hfz12_0
     try clear p2
     obtain ⟨x5_2, rfl, HA, HK2, BK511, HB⟩ := hrel
     cases gk with
     | zero => exact absurd HA.out (by simp [portolanlaw12_KeepSets.l0])
     | succ k2 =>
      have H := HA.out
      clear HA
      simp only [portolanlaw12_KeepSets.l0] at H
      by_cases c15 : x5_2 < (l0_0.length : Int)
      ·
       rw [if_pos c15] at H
       have c15b0 : decide (x5_2 < (l0_0.length : Int)) = true := decide_eq_true c15
       clear c15
       by_cases c16 : 0 ≤ x5_2
       ·
        rw [if_pos c16] at H
        have c16b0 : decide (0 ≤ x5_2) = true := decide_eq_true c16
        clear c16
        replace H := Option.bind_eq_some_iff.mp H
        obtain ⟨t516, A170, H⟩ := H
        replace H : ((portolanref12_Close.f k2 ((rd_T30 l0_0 x5_2).f0) ((rd_T30 l0_0 x5_2).f1) ((rd_T30 l0_0 x5_2).f2) ((rd_T30 l0_0 x5_2).f3) ((rd_T30 l0_0 x5_2).f4) l1).bind fun t519 => ((portolanref02_Words.f k2 t516 t519).bind fun t522 => (if t522 = true then ((keep_Close.f k2 ((rd_T30 l0_0 x5_2).f0) ((rd_T30 l0_0 x5_2).f1) ((rd_T30 l0_0 x5_2).f2) ((rd_T30 l0_0 x5_2).f3) ((rd_T30 l0_0 x5_2).f4) t516).bind fun t523 => ((portolanref02_Words.f k2 t523 t516).bind fun t526 => (if t526 = true then ((keep_Refs.f k2 ((rd_T30 l0_0 x5_2).f0) ((rd_T30 l0_0 x5_2).f1) ((rd_T30 l0_0 x5_2).f2) ((rd_T30 l0_0 x5_2).f3) ((rd_T30 l0_0 x5_2).f4) l1).bind fun t527 => ((portolanref12_Refs.f k2 ((rd_T30 l0_0 x5_2).f0) ((rd_T30 l0_0 x5_2).f1) ((rd_T30 l0_0 x5_2).f2) ((rd_T30 l0_0 x5_2).f3) ((rd_T30 l0_0 x5_2).f4) l1).bind fun t530 => ((portolanref01_Ints.f k2 t527 t530).bind fun t533 => (if t533 = true then ((keep_Ders.f k2 ((rd_T30 l0_0 x5_2).f0) ((rd_T30 l0_0 x5_2).f1) ((rd_T30 l0_0 x5_2).f2) ((rd_T30 l0_0 x5_2).f3) ((rd_T30 l0_0 x5_2).f4) l1).bind fun t534 => ((portolanref12_Ders.f k2 ((rd_T30 l0_0 x5_2).f0) ((rd_T30 l0_0 x5_2).f1) ((rd_T30 l0_0 x5_2).f2) ((rd_T30 l0_0 x5_2).f3) ((rd_T30 l0_0 x5_2).f4) l1).bind fun t537 => ((portolanref01_Ints.f k2 t534 t537).bind fun t540 => (if t540 = true then (portolanlaw12_KeepSets.l0 k2 l1 (wrap64 (x5_2 + 1)) l0_0) else (some false))))) else (some false))))) else (some false)))) else (some false)))) = some true := H
        have A17 := Aside0.mk A170
        clear A170
        replace H := Option.bind_eq_some_iff.mp H
        obtain ⟨t519, A180, H⟩ := H
        replace H : ((portolanref02_Words.f k2 t516 t519).bind fun t522 => (if t522 = true then ((keep_Close.f k2 ((rd_T30 l0_0 x5_2).f0) ((rd_T30 l0_0 x5_2).f1) ((rd_T30 l0_0 x5_2).f2) ((rd_T30 l0_0 x5_2).f3) ((rd_T30 l0_0 x5_2).f4) t516).bind fun t523 => ((portolanref02_Words.f k2 t523 t516).bind fun t526 => (if t526 = true then ((keep_Refs.f k2 ((rd_T30 l0_0 x5_2).f0) ((rd_T30 l0_0 x5_2).f1) ((rd_T30 l0_0 x5_2).f2) ((rd_T30 l0_0 x5_2).f3) ((rd_T30 l0_0 x5_2).f4) l1).bind fun t527 => ((portolanref12_Refs.f k2 ((rd_T30 l0_0 x5_2).f0) ((rd_T30 l0_0 x5_2).f1) ((rd_T30 l0_0 x5_2).f2) ((rd_T30 l0_0 x5_2).f3) ((rd_T30 l0_0 x5_2).f4) l1).bind fun t530 => ((portolanref01_Ints.f k2 t527 t530).bind fun t533 => (if t533 = true then ((keep_Ders.f k2 ((rd_T30 l0_0 x5_2).f0) ((rd_T30 l0_0 x5_2).f1) ((rd_T30 l0_0 x5_2).f2) ((rd_T30 l0_0 x5_2).f3) ((rd_T30 l0_0 x5_2).f4) l1).bind fun t534 => ((portolanref12_Ders.f k2 ((rd_T30 l0_0 x5_2).f0) ((rd_T30 l0_0 x5_2).f1) ((rd_T30 l0_0 x5_2).f2) ((rd_T30 l0_0 x5_2).f3) ((rd_T30 l0_0 x5_2).f4) l1).bind fun t537 => ((portolanref01_Ints.f k2 t534 t537).bind fun t540 => (if t540 = true then (portolanlaw12_KeepSets.l0 k2 l1 (wrap64 (x5_2 + 1)) l0_0) else (some false))))) else (some false))))) else (some false)))) else (some false))) = some true := H
        have A18 := Aside0.mk A180
        clear A180
        replace H := Option.bind_eq_some_iff.mp H
        obtain ⟨t522, A190, H⟩ := H
        replace H : (if t522 = true then ((keep_Close.f k2 ((rd_T30 l0_0 x5_2).f0) ((rd_T30 l0_0 x5_2).f1) ((rd_T30 l0_0 x5_2).f2) ((rd_T30 l0_0 x5_2).f3) ((rd_T30 l0_0 x5_2).f4) t516).bind fun t523 => ((portolanref02_Words.f k2 t523 t516).bind fun t526 => (if t526 = true then ((keep_Refs.f k2 ((rd_T30 l0_0 x5_2).f0) ((rd_T30 l0_0 x5_2).f1) ((rd_T30 l0_0 x5_2).f2) ((rd_T30 l0_0 x5_2).f3) ((rd_T30 l0_0 x5_2).f4) l1).bind fun t527 => ((portolanref12_Refs.f k2 ((rd_T30 l0_0 x5_2).f0) ((rd_T30 l0_0 x5_2).f1) ((rd_T30 l0_0 x5_2).f2) ((rd_T30 l0_0 x5_2).f3) ((rd_T30 l0_0 x5_2).f4) l1).bind fun t530 => ((portolanref01_Ints.f k2 t527 t530).bind fun t533 => (if t533 = true then ((keep_Ders.f k2 ((rd_T30 l0_0 x5_2).f0) ((rd_T30 l0_0 x5_2).f1) ((rd_T30 l0_0 x5_2).f2) ((rd_T30 l0_0 x5_2).f3) ((rd_T30 l0_0 x5_2).f4) l1).bind fun t534 => ((portolanref12_Ders.f k2 ((rd_T30 l0_0 x5_2).f0) ((rd_T30 l0_0 x5_2).f1) ((rd_T30 l0_0 x5_2).f2) ((rd_T30 l0_0 x5_2).f3) ((rd_T30 l0_0 x5_2).f4) l1).bind fun t537 => ((portolanref01_Ints.f k2 t534 t537).bind fun t540 => (if t540 = true then (portolanlaw12_KeepSets.l0 k2 l1 (wrap64 (x5_2 + 1)) l0_0) else (some false))))) else (some false))))) else (some false)))) else (some false)) = some true := H
        have A19 := Aside0.mk A190
        clear A190
        by_cases c20 : t522 = true
        ·
         subst c20
         have H1 : ((keep_Close.f k2 ((rd_T30 l0_0 x5_2).f0) ((rd_T30 l0_0 x5_2).f1) ((rd_T30 l0_0 x5_2).f2) ((rd_T30 l0_0 x5_2).f3) ((rd_T30 l0_0 x5_2).f4) t516).bind fun t523 => ((portolanref02_Words.f k2 t523 t516).bind fun t526 => (if t526 = true then ((keep_Refs.f k2 ((rd_T30 l0_0 x5_2).f0) ((rd_T30 l0_0 x5_2).f1) ((rd_T30 l0_0 x5_2).f2) ((rd_T30 l0_0 x5_2).f3) ((rd_T30 l0_0 x5_2).f4) l1).bind fun t527 => ((portolanref12_Refs.f k2 ((rd_T30 l0_0 x5_2).f0) ((rd_T30 l0_0 x5_2).f1) ((rd_T30 l0_0 x5_2).f2) ((rd_T30 l0_0 x5_2).f3) ((rd_T30 l0_0 x5_2).f4) l1).bind fun t530 => ((portolanref01_Ints.f k2 t527 t530).bind fun t533 => (if t533 = true then ((keep_Ders.f k2 ((rd_T30 l0_0 x5_2).f0) ((rd_T30 l0_0 x5_2).f1) ((rd_T30 l0_0 x5_2).f2) ((rd_T30 l0_0 x5_2).f3) ((rd_T30 l0_0 x5_2).f4) l1).bind fun t534 => ((portolanref12_Ders.f k2 ((rd_T30 l0_0 x5_2).f0) ((rd_T30 l0_0 x5_2).f1) ((rd_T30 l0_0 x5_2).f2) ((rd_T30 l0_0 x5_2).f3) ((rd_T30 l0_0 x5_2).f4) l1).bind fun t537 => ((portolanref01_Ints.f k2 t534 t537).bind fun t540 => (if t540 = true then (portolanlaw12_KeepSets.l0 k2 l1 (wrap64 (x5_2 + 1)) l0_0) else (some false))))) else (some false))))) else (some false)))) = some true := by rw [if_pos rfl] at H; exact H
         clear H
         have H := H1
         clear H1
         replace H := Option.bind_eq_some_iff.mp H
         obtain ⟨t523, A210, H⟩ := H
         replace H : ((portolanref02_Words.f k2 t523 t516).bind fun t526 => (if t526 = true then ((keep_Refs.f k2 ((rd_T30 l0_0 x5_2).f0) ((rd_T30 l0_0 x5_2).f1) ((rd_T30 l0_0 x5_2).f2) ((rd_T30 l0_0 x5_2).f3) ((rd_T30 l0_0 x5_2).f4) l1).bind fun t527 => ((portolanref12_Refs.f k2 ((rd_T30 l0_0 x5_2).f0) ((rd_T30 l0_0 x5_2).f1) ((rd_T30 l0_0 x5_2).f2) ((rd_T30 l0_0 x5_2).f3) ((rd_T30 l0_0 x5_2).f4) l1).bind fun t530 => ((portolanref01_Ints.f k2 t527 t530).bind fun t533 => (if t533 = true then ((keep_Ders.f k2 ((rd_T30 l0_0 x5_2).f0) ((rd_T30 l0_0 x5_2).f1) ((rd_T30 l0_0 x5_2).f2) ((rd_T30 l0_0 x5_2).f3) ((rd_T30 l0_0 x5_2).f4) l1).bind fun t534 => ((portolanref12_Ders.f k2 ((rd_T30 l0_0 x5_2).f0) ((rd_T30 l0_0 x5_2).f1) ((rd_T30 l0_0 x5_2).f2) ((rd_T30 l0_0 x5_2).f3) ((rd_T30 l0_0 x5_2).f4) l1).bind fun t537 => ((portolanref01_Ints.f k2 t534 t537).bind fun t540 => (if t540 = true then (portolanlaw12_KeepSets.l0 k2 l1 (wrap64 (x5_2 + 1)) l0_0) else (some false))))) else (some false))))) else (some false))) = some true := H
         have A21 := Aside0.mk A210
         clear A210
         replace H := Option.bind_eq_some_iff.mp H
         obtain ⟨t526, A220, H⟩ := H
         replace H : (if t526 = true then ((keep_Refs.f k2 ((rd_T30 l0_0 x5_2).f0) ((rd_T30 l0_0 x5_2).f1) ((rd_T30 l0_0 x5_2).f2) ((rd_T30 l0_0 x5_2).f3) ((rd_T30 l0_0 x5_2).f4) l1).bind fun t527 => ((portolanref12_Refs.f k2 ((rd_T30 l0_0 x5_2).f0) ((rd_T30 l0_0 x5_2).f1) ((rd_T30 l0_0 x5_2).f2) ((rd_T30 l0_0 x5_2).f3) ((rd_T30 l0_0 x5_2).f4) l1).bind fun t530 => ((portolanref01_Ints.f k2 t527 t530).bind fun t533 => (if t533 = true then ((keep_Ders.f k2 ((rd_T30 l0_0 x5_2).f0) ((rd_T30 l0_0 x5_2).f1) ((rd_T30 l0_0 x5_2).f2) ((rd_T30 l0_0 x5_2).f3) ((rd_T30 l0_0 x5_2).f4) l1).bind fun t534 => ((portolanref12_Ders.f k2 ((rd_T30 l0_0 x5_2).f0) ((rd_T30 l0_0 x5_2).f1) ((rd_T30 l0_0 x5_2).f2) ((rd_T30 l0_0 x5_2).f3) ((rd_T30 l0_0 x5_2).f4) l1).bind fun t537 => ((portolanref01_Ints.f k2 t534 t537).bind fun t540 => (if t540 = true then (portolanlaw12_KeepSets.l0 k2 l1 (wrap64 (x5_2 + 1)) l0_0) else (some false))))) else (some false))))) else (some false)) = some true := H
         have A22 := Aside0.mk A220
         clear A220
         by_cases c23 : t526 = true
         ·
          subst c23
          have H1 : ((keep_Refs.f k2 ((rd_T30 l0_0 x5_2).f0) ((rd_T30 l0_0 x5_2).f1) ((rd_T30 l0_0 x5_2).f2) ((rd_T30 l0_0 x5_2).f3) ((rd_T30 l0_0 x5_2).f4) l1).bind fun t527 => ((portolanref12_Refs.f k2 ((rd_T30 l0_0 x5_2).f0) ((rd_T30 l0_0 x5_2).f1) ((rd_T30 l0_0 x5_2).f2) ((rd_T30 l0_0 x5_2).f3) ((rd_T30 l0_0 x5_2).f4) l1).bind fun t530 => ((portolanref01_Ints.f k2 t527 t530).bind fun t533 => (if t533 = true then ((keep_Ders.f k2 ((rd_T30 l0_0 x5_2).f0) ((rd_T30 l0_0 x5_2).f1) ((rd_T30 l0_0 x5_2).f2) ((rd_T30 l0_0 x5_2).f3) ((rd_T30 l0_0 x5_2).f4) l1).bind fun t534 => ((portolanref12_Ders.f k2 ((rd_T30 l0_0 x5_2).f0) ((rd_T30 l0_0 x5_2).f1) ((rd_T30 l0_0 x5_2).f2) ((rd_T30 l0_0 x5_2).f3) ((rd_T30 l0_0 x5_2).f4) l1).bind fun t537 => ((portolanref01_Ints.f k2 t534 t537).bind fun t540 => (if t540 = true then (portolanlaw12_KeepSets.l0 k2 l1 (wrap64 (x5_2 + 1)) l0_0) else (some false))))) else (some false))))) = some true := by rw [if_pos rfl] at H; exact H
          clear H
          have H := H1
          clear H1
          replace H := Option.bind_eq_some_iff.mp H
          obtain ⟨t527, A240, H⟩ := H
          replace H : ((portolanref12_Refs.f k2 ((rd_T30 l0_0 x5_2).f0) ((rd_T30 l0_0 x5_2).f1) ((rd_T30 l0_0 x5_2).f2) ((rd_T30 l0_0 x5_2).f3) ((rd_T30 l0_0 x5_2).f4) l1).bind fun t530 => ((portolanref01_Ints.f k2 t527 t530).bind fun t533 => (if t533 = true then ((keep_Ders.f k2 ((rd_T30 l0_0 x5_2).f0) ((rd_T30 l0_0 x5_2).f1) ((rd_T30 l0_0 x5_2).f2) ((rd_T30 l0_0 x5_2).f3) ((rd_T30 l0_0 x5_2).f4) l1).bind fun t534 => ((portolanref12_Ders.f k2 ((rd_T30 l0_0 x5_2).f0) ((rd_T30 l0_0 x5_2).f1) ((rd_T30 l0_0 x5_2).f2) ((rd_T30 l0_0 x5_2).f3) ((rd_T30 l0_0 x5_2).f4) l1).bind fun t537 => ((portolanref01_Ints.f k2 t534 t537).bind fun t540 => (if t540 = true then (portolanlaw12_KeepSets.l0 k2 l1 (wrap64 (x5_2 + 1)) l0_0) else (some false))))) else (some false)))) = some true := H
          have A24 := Aside0.mk A240
          clear A240
          replace H := Option.bind_eq_some_iff.mp H
          obtain ⟨t530, A250, H⟩ := H
          replace H : ((portolanref01_Ints.f k2 t527 t530).bind fun t533 => (if t533 = true then ((keep_Ders.f k2 ((rd_T30 l0_0 x5_2).f0) ((rd_T30 l0_0 x5_2).f1) ((rd_T30 l0_0 x5_2).f2) ((rd_T30 l0_0 x5_2).f3) ((rd_T30 l0_0 x5_2).f4) l1).bind fun t534 => ((portolanref12_Ders.f k2 ((rd_T30 l0_0 x5_2).f0) ((rd_T30 l0_0 x5_2).f1) ((rd_T30 l0_0 x5_2).f2) ((rd_T30 l0_0 x5_2).f3) ((rd_T30 l0_0 x5_2).f4) l1).bind fun t537 => ((portolanref01_Ints.f k2 t534 t537).bind fun t540 => (if t540 = true then (portolanlaw12_KeepSets.l0 k2 l1 (wrap64 (x5_2 + 1)) l0_0) else (some false))))) else (some false))) = some true := H
          have A25 := Aside0.mk A250
          clear A250
          replace H := Option.bind_eq_some_iff.mp H
          obtain ⟨t533, A260, H⟩ := H
          replace H : (if t533 = true then ((keep_Ders.f k2 ((rd_T30 l0_0 x5_2).f0) ((rd_T30 l0_0 x5_2).f1) ((rd_T30 l0_0 x5_2).f2) ((rd_T30 l0_0 x5_2).f3) ((rd_T30 l0_0 x5_2).f4) l1).bind fun t534 => ((portolanref12_Ders.f k2 ((rd_T30 l0_0 x5_2).f0) ((rd_T30 l0_0 x5_2).f1) ((rd_T30 l0_0 x5_2).f2) ((rd_T30 l0_0 x5_2).f3) ((rd_T30 l0_0 x5_2).f4) l1).bind fun t537 => ((portolanref01_Ints.f k2 t534 t537).bind fun t540 => (if t540 = true then (portolanlaw12_KeepSets.l0 k2 l1 (wrap64 (x5_2 + 1)) l0_0) else (some false))))) else (some false)) = some true := H
          have A26 := Aside0.mk A260
          clear A260
          by_cases c27 : t533 = true
          ·
           subst c27
           have H1 : ((keep_Ders.f k2 ((rd_T30 l0_0 x5_2).f0) ((rd_T30 l0_0 x5_2).f1) ((rd_T30 l0_0 x5_2).f2) ((rd_T30 l0_0 x5_2).f3) ((rd_T30 l0_0 x5_2).f4) l1).bind fun t534 => ((portolanref12_Ders.f k2 ((rd_T30 l0_0 x5_2).f0) ((rd_T30 l0_0 x5_2).f1) ((rd_T30 l0_0 x5_2).f2) ((rd_T30 l0_0 x5_2).f3) ((rd_T30 l0_0 x5_2).f4) l1).bind fun t537 => ((portolanref01_Ints.f k2 t534 t537).bind fun t540 => (if t540 = true then (portolanlaw12_KeepSets.l0 k2 l1 (wrap64 (x5_2 + 1)) l0_0) else (some false))))) = some true := by rw [if_pos rfl] at H; exact H
           clear H
           have H := H1
           clear H1
           replace H := Option.bind_eq_some_iff.mp H
           obtain ⟨t534, A280, H⟩ := H
           replace H : ((portolanref12_Ders.f k2 ((rd_T30 l0_0 x5_2).f0) ((rd_T30 l0_0 x5_2).f1) ((rd_T30 l0_0 x5_2).f2) ((rd_T30 l0_0 x5_2).f3) ((rd_T30 l0_0 x5_2).f4) l1).bind fun t537 => ((portolanref01_Ints.f k2 t534 t537).bind fun t540 => (if t540 = true then (portolanlaw12_KeepSets.l0 k2 l1 (wrap64 (x5_2 + 1)) l0_0) else (some false)))) = some true := H
           have A28 := Aside0.mk A280
           clear A280
           replace H := Option.bind_eq_some_iff.mp H
           obtain ⟨t537, A290, H⟩ := H
           replace H : ((portolanref01_Ints.f k2 t534 t537).bind fun t540 => (if t540 = true then (portolanlaw12_KeepSets.l0 k2 l1 (wrap64 (x5_2 + 1)) l0_0) else (some false))) = some true := H
           have A29 := Aside0.mk A290
           clear A290
           replace H := Option.bind_eq_some_iff.mp H
           obtain ⟨t540, A300, H⟩ := H
           replace H : (if t540 = true then (portolanlaw12_KeepSets.l0 k2 l1 (wrap64 (x5_2 + 1)) l0_0) else (some false)) = some true := H
           have A30 := Aside0.mk A300
           clear A300
           by_cases c31 : t540 = true
           ·
            subst c31
            have H1 : (portolanlaw12_KeepSets.l0 k2 l1 (wrap64 (x5_2 + 1)) l0_0) = some true := by rw [if_pos rfl] at H; exact H
            clear H
            have H := H1
            clear H1
            have H' := Aside0.mk H
            clear H
            have hcz32_0 := bk1 BK511.out
            have hfz32_0 := bf BK511.out
            have p514 : 0 ≤ (x5_2 : Int) := of_decide_eq_true (by assumption)
            have q514 : x5_2 < (l0_0.length : Int) := of_decide_eq_true (by assumption)
            obtain ⟨ad514, A514_0, c514_0, A514_1, c514_1, A514_4, c514_4, e514, hx514_0, hx514_1, hx514_2, hx514_3, hx514_4, hl514_0, hi514_0, hl514_1, hi514_1, hl514_4, hi514_4⟩ := at_T30 HR0_0.out x5_2 p514 q514
            cases e514
            replace hx514_0 := (HB.out.cell (World.block_lt_of_cell? w _ hx514_0)).trans hx514_0
            replace hx514_1 := (HB.out.cell (World.block_lt_of_cell? w _ hx514_1)).trans hx514_1
            replace hx514_2 := (HB.out.cell (World.block_lt_of_cell? w _ hx514_2)).trans hx514_2
            replace hx514_3 := (HB.out.cell (World.block_lt_of_cell? w _ hx514_3)).trans hx514_3
            replace hx514_4 := (HB.out.cell (World.block_lt_of_cell? w _ hx514_4)).trans hx514_4
            have HR514_0 := Aside0.mk hi514_0
            have HC514_0 := Aside0.mk hl514_0
            clear hi514_0 hl514_0
            have HR514_1 := Aside0.mk hi514_1
            have HC514_1 := Aside0.mk hl514_1
            clear hi514_1 hl514_1
            have HR514_4 := Aside0.mk hi514_4
            have HC514_4 := Aside0.mk hl514_4
            clear hi514_4 hl514_4
            replace p514 := eq_true p514
            replace q514 := eq_true q514
            try go_wp2_with (first | ((with_reducible refine gate_dst (N := 6) rfl ?_); (try (refine gate_guard (by rfl) ?_; dsimp only)); refine box_event ?hg (N := 6) ?hd (cs := #[.slice none 0 0, .slice none 0 0, .int .i64 0, .int .i64 0, .slice none 0 0]) (t := 30) ?hr ?_; (case hd => rfl); (case hg => rfl); (case hr => first | (go_simp; done) | (go_simp; rfl)); intro gb515 hg w33 hbox hb; have BK515 := Aside0.mk (hbox); have GW515 := ge hg (bl HB); have GE515 := ge hg (bl HB); replace HB := Aside0.mk (below_step (bl HB) hb); have NB511_515 := Aside0.mk ((by rw [hg]; exact Nat.ne_of_lt (blk_lt (g := gb511) (o := .cells #[.slice (some ad514) l0_0.length c0_0] 24 (0, 0)) (bx BK511.out)) : gb511 ≠ gb515)); have NB515_511 := Aside0.mk ((by rw [hg]; exact Nat.ne_of_gt (blk_lt (g := gb511) (o := .cells #[.slice (some ad514) l0_0.length c0_0] 24 (0, 0)) (bx BK511.out)) : gb515 ≠ gb511)); replace BK511 := Aside0.mk (blk_below (bx BK511.out) hb); clear hb hbox hg; have hnb34 := NB515_511.out; have hnc34 := NB511_515.out; obtain ⟨hcz35_0, hcz35_1, hcz35_2, hcz35_3, hcz35_4⟩ := bk5 BK515.out; have hfz35_0 := bf BK515.out) | ((with_reducible refine gate_callee (f := 23) rfl ?_); refine goesL_ (some 31) rfl rfl Tryd.func23 (by kernel_rfl) rfl #[.agg #[.slice A514_0 ((rd_T30 l0_0 x5_2).f0).length c514_0, .slice A514_1 ((rd_T30 l0_0 x5_2).f1).length c514_1, .int .i64 ((rd_T30 l0_0 x5_2).f2), .int .i64 ((rd_T30 l0_0 x5_2).f3), .slice A514_4 ((rd_T30 l0_0 x5_2).f4).length c514_4], .slice A1 l1.length c1] rfl (by (try simp only [List.map_toArray, List.map_cons, List.map_nil]); first | done | rfl) ?_; (with_reducible refine (keep_Close.calls k2 _ _ ((rd_T30 l0_0 x5_2).f0) _ _ ((rd_T30 l0_0 x5_2).f1) ((rd_T30 l0_0 x5_2).f2) ((rd_T30 l0_0 x5_2).f3) _ _ ((rd_T30 l0_0 x5_2).f4) _ _ l1 t516 _ ?side9 ?side1 ?side2 ?side3 ?side4 ?side5 ?side6 ?side7 ?side8 A17.out).mono ?_); (case side1 => exact Kd.C_below HR514_0.out (bl HB)); (case side2 => exact HC514_0.out); (case side3 => exact Kd.C_below HR514_1.out (bl HB)); (case side4 => exact HC514_1.out); (case side5 => exact Kd.C_below HR514_4.out (bl HB)); (case side6 => exact HC514_4.out); (case side7 => exact Kd.C_below HR1.out (bl HB)); (case side8 => exact HC1.out); (case side9 => exact GB_below HGB.out (bl HB)); rintro e w36 ⟨v517, rfl, ho0, hb⟩; refine ⟨_, rfl, ?_⟩; have HO518 := Aside0.mk (Kd.V_lower (Kd.V_mono (ok' := fun k_ => k_ ≠ gb511 ∧ k_ ≠ gb515) ho0 (fun k_ hk_ => ⟨(Kd.freshB (g := gb511) (o := .cells #[.slice (some ad514) l0_0.length c0_0] 24 (0, 0)) (by refine bp ?_; refine blk_far ?_ NB511_515.out _; refine bp ?_; refine blk_far ?_ NB511_515.out _; refine bp ?_; refine blk_far ?_ NB511_515.out _; refine bp ?_; refine blk_far ?_ NB511_515.out _; refine bp ?_; refine blk_far ?_ NB511_515.out _; refine bp ?_; exact BK511.out) k_ hk_), (Kd.freshB (g := gb515) (o := .cells #[.slice A514_0 ((rd_T30 l0_0 x5_2).f0).length c514_0, .slice A514_1 ((rd_T30 l0_0 x5_2).f1).length c514_1, .int .i64 ((rd_T30 l0_0 x5_2).f2), .int .i64 ((rd_T30 l0_0 x5_2).f3), .slice A514_4 ((rd_T30 l0_0 x5_2).f4).length c514_4] 30 (0, 0)) (by refine bp ?_; refine blk_put (cs := #[.slice A514_0 ((rd_T30 l0_0 x5_2).f0).length c514_0, .slice A514_1 ((rd_T30 l0_0 x5_2).f1).length c514_1, .int .i64 ((rd_T30 l0_0 x5_2).f2), .int .i64 ((rd_T30 l0_0 x5_2).f3), .slice none 0 0]) ?_ 4 _ rfl; refine bp ?_; refine blk_put (cs := #[.slice A514_0 ((rd_T30 l0_0 x5_2).f0).length c514_0, .slice A514_1 ((rd_T30 l0_0 x5_2).f1).length c514_1, .int .i64 ((rd_T30 l0_0 x5_2).f2), .int .i64 0, .slice none 0 0]) ?_ 3 _ rfl; refine bp ?_; refine blk_put (cs := #[.slice A514_0 ((rd_T30 l0_0 x5_2).f0).length c514_0, .slice A514_1 ((rd_T30 l0_0 x5_2).f1).length c514_1, .int .i64 0, .int .i64 0, .slice none 0 0]) ?_ 2 _ rfl; refine bp ?_; refine blk_put (cs := #[.slice A514_0 ((rd_T30 l0_0 x5_2).f0).length c514_0, .slice none 0 0, .int .i64 0, .int .i64 0, .slice none 0 0]) ?_ 1 _ rfl; refine bp ?_; refine blk_put (cs := #[.slice none 0 0, .slice none 0 0, .int .i64 0, .int .i64 0, .slice none 0 0]) ?_ 0 _ rfl; refine bp ?_; exact BK515.out) k_ hk_)⟩)) (below_size (bl HB))); replace BK511 := Aside0.mk (blk_below (g := gb511) (o := .cells #[.slice (some ad514) l0_0.length c0_0] 24 (0, 0)) (by refine bp ?_; refine blk_far ?_ NB511_515.out _; refine bp ?_; refine blk_far ?_ NB511_515.out _; refine bp ?_; refine blk_far ?_ NB511_515.out _; refine bp ?_; refine blk_far ?_ NB511_515.out _; refine bp ?_; refine blk_far ?_ NB511_515.out _; refine bp ?_; exact BK511.out) hb); replace BK515 := Aside0.mk (blk_below (g := gb515) (o := .cells #[.slice A514_0 ((rd_T30 l0_0 x5_2).f0).length c514_0, .slice A514_1 ((rd_T30 l0_0 x5_2).f1).length c514_1, .int .i64 ((rd_T30 l0_0 x5_2).f2), .int .i64 ((rd_T30 l0_0 x5_2).f3), .slice A514_4 ((rd_T30 l0_0 x5_2).f4).length c514_4] 30 (0, 0)) (by refine bp ?_; refine blk_put (cs := #[.slice A514_0 ((rd_T30 l0_0 x5_2).f0).length c514_0, .slice A514_1 ((rd_T30 l0_0 x5_2).f1).length c514_1, .int .i64 ((rd_T30 l0_0 x5_2).f2), .int .i64 ((rd_T30 l0_0 x5_2).f3), .slice none 0 0]) ?_ 4 _ rfl; refine bp ?_; refine blk_put (cs := #[.slice A514_0 ((rd_T30 l0_0 x5_2).f0).length c514_0, .slice A514_1 ((rd_T30 l0_0 x5_2).f1).length c514_1, .int .i64 ((rd_T30 l0_0 x5_2).f2), .int .i64 0, .slice none 0 0]) ?_ 3 _ rfl; refine bp ?_; refine blk_put (cs := #[.slice A514_0 ((rd_T30 l0_0 x5_2).f0).length c514_0, .slice A514_1 ((rd_T30 l0_0 x5_2).f1).length c514_1, .int .i64 0, .int .i64 0, .slice none 0 0]) ?_ 2 _ rfl; refine bp ?_; refine blk_put (cs := #[.slice A514_0 ((rd_T30 l0_0 x5_2).f0).length c514_0, .slice none 0 0, .int .i64 0, .int .i64 0, .slice none 0 0]) ?_ 1 _ rfl; refine bp ?_; refine blk_put (cs := #[.slice none 0 0, .slice none 0 0, .int .i64 0, .int .i64 0, .slice none 0 0]) ?_ 0 _ rfl; refine bp ?_; exact BK515.out) hb); replace HB := Aside0.mk (below_step (bl HB) hb); (try clear hb); (try clear hb2); (try clear hk); (try clear hi); (try clear ho0)))
            replace HO518 := Aside0.mk (Kd.V_drew HO518.out); replace BK511 := Aside0.mk (blk_drew BK511.out); replace BK515 := Aside0.mk (blk_drew BK515.out); replace HB := Aside0.mk (below_drew1 HB.out)
            refine start_ (n := 34) (S := fun w' => w'.cell? ⟨gb515, 0, none⟩ = some (.slice A514_0 ((rd_T30 l0_0 x5_2).f0).length c514_0) ∧ w'.cell? ⟨gb515, 1, none⟩ = some (.slice A514_1 ((rd_T30 l0_0 x5_2).f1).length c514_1) ∧ w'.cell? ⟨gb515, 2, none⟩ = some (.int .i64 ((rd_T30 l0_0 x5_2).f2)) ∧ w'.cell? ⟨gb515, 3, none⟩ = some (.int .i64 ((rd_T30 l0_0 x5_2).f3)) ∧ w'.cell? ⟨gb515, 4, none⟩ = some (.slice A514_4 ((rd_T30 l0_0 x5_2).f4).length c514_4)) (ds := []) #[false, false, false, false, false, false, false, false, false, false, false, false, false, false, false, false, false, false, false, false, false, false, false, false, false, false, false, false, false, false, false, false, false, false] (by kernel_rfl) rfl rfl ⟨(blk_cell BK515.out 0).trans rfl, (blk_cell BK515.out 1).trans rfl, (blk_cell BK515.out 2).trans rfl, (blk_cell BK515.out 3).trans rfl, (blk_cell BK515.out 4).trans rfl⟩ (fun hHeld => ?_); refine with_tabW portolanlaw12_KeepSets.tab10 portolanlaw12_KeepSets.bits10 (fun HT_ HW_ => ?_)
            generalize w36.drew = w37 at HO518 BK511 BK515 HB hHeld ⊢
            refine pure_ (i := 0) (N := some 32) (v := ?_) (a' := ?_) #[true, false, false, false, false, false, false, false, false, false, false, false, false, false, false, false, false, false, false, false, false, false, false, false, false, false, false, false, false, false, false, false, false, false] rfl rfl (any_of HT_.out (by kernel_rfl)) (fun _ _ _ h => h) (Or.inl ⟨by rfl, ?_⟩) ?_ ?_
            rotate_left
            ·
             intro w'
             go_simp
             with_reducible rfl
            rotate_left
            ·
             simp only [Act.put, List.setIfInBounds_toArray, List.set_cons_zero, List.set_cons_succ, i64_w, i32_w]
             rfl
            refine pure_ (i := 2) (N := some 34) (v := ?_) (a' := ?_) #[true, false, true, false, false, false, false, false, false, false, false, false, false, false, false, false, false, false, false, false, false, false, false, false, false, false, false, false, false, false, false, false, false, false] rfl rfl (any_of HT_.out (by kernel_rfl)) (fun _ _ _ h => h) (Or.inl ⟨by rfl, ?_⟩) ?_ ?_
            rotate_left
            ·
             intro w'
             go_simp
             with_reducible rfl
            rotate_left
            ·
             simp only [Act.put, List.setIfInBounds_toArray, List.set_cons_zero, List.set_cons_succ, i64_w, i32_w]
             rfl
            refine take_ (i := 1) (N := some 33) (v := ?_) (a' := ?_) #[true, true, true, false, false, false, false, false, false, false, false, false, false, false, false, false, false, false, false, false, false, false, false, false, false, false, false, false, false, false, false, false, false, false] rfl rfl (take_ofW HT_.out HW_.out (by kernel_rfl)) (fun _ _ _ h => h) (Or.inl ⟨by rfl, ?_⟩) hHeld ?_ ?_
            rotate_left
            ·
             rintro w' ⟨s0, s1, s2, s3, s4⟩
             go_simp
             with_reducible rfl
            rotate_left
            ·
             simp only [Act.put, List.setIfInBounds_toArray, List.set_cons_zero, List.set_cons_succ, i64_w, i32_w]
             rfl
            refine one_ (i := 3) (N := some 35) #[true, true, true, true, false, false, false, false, false, false, false, false, false, false, false, false, false, false, false, false, false, false, false, false, false, false, false, false, false, false, false, false, false, false] rfl rfl (one_of HT_.out (by kernel_rfl)) (by decide) (fun K hK => ?_)
            refine goes_ Tryd.func24 (by kernel_rfl) rfl #[.agg #[.slice A514_0 ((rd_T30 l0_0 x5_2).f0).length c514_0, .slice A514_1 ((rd_T30 l0_0 x5_2).f1).length c514_1, .int .i64 ((rd_T30 l0_0 x5_2).f2), .int .i64 ((rd_T30 l0_0 x5_2).f3), .slice A514_4 ((rd_T30 l0_0 x5_2).f4).length c514_4], .slice A1 l1.length c1] (by rfl) rfl rfl (by (try simp only [List.map_toArray, List.map_cons, List.map_nil]); first | done | rfl) ?_
            with_reducible refine (portolanref12_Close.calls k2 _ _ ((rd_T30 l0_0 x5_2).f0) _ _ ((rd_T30 l0_0 x5_2).f1) ((rd_T30 l0_0 x5_2).f2) ((rd_T30 l0_0 x5_2).f3) _ _ ((rd_T30 l0_0 x5_2).f4) _ _ l1 t519 _ ?side1 ?side2 ?side3 ?side4 ?side5 ?side6 ?side7 ?side8 A18.out).mono ?_
            (case side1 => exact Kd.Cx (Kd.C_below HR514_0.out HB.out))
            (case side2 => exact HC514_0.out)
            (case side3 => exact Kd.Cx (Kd.C_below HR514_1.out HB.out))
            (case side4 => exact HC514_1.out)
            (case side5 => exact Kd.Cx (Kd.C_below HR514_4.out HB.out))
            (case side6 => exact HC514_4.out)
            (case side7 => exact Kd.Cx (Kd.C_below HR1.out HB.out))
            (case side8 => exact HC1.out)
            rintro e w38 ⟨v520, rfl, ho0, hb⟩
            refine ⟨_, rfl, ?_⟩
            replace HO518 := Aside0.mk (Kd.V_elder' (Kd.Vx HO518.out) (Kd.R_base ho0) hb); have HO521 := Aside0.mk (Kd.R_lower ho0 (below_size (bl HB))); replace BK511 := Aside0.mk (blk_below (bx BK511.out) hb); replace BK515 := Aside0.mk (blk_below (bx BK515.out) hb); replace HB := Aside0.mk (below_step (bl HB) hb)
            (try clear hb)
            (try clear hb2)
            (try clear hk)
            (try clear hi)
            (try clear ho0)
            obtain ⟨Ao39, co39, eo39⟩ := Kd.V_slice HO518.out
            (first | subst eo39 | (injection eo39 with f1_ f2_ f3_; have f4_ := f1_.symm; have f5_ := f3_.symm; clear f1_ f2_ f3_; subst f4_; subst f5_))
            obtain ⟨Ao40, co40, eo40⟩ := Kd.R_slice HO521.out
            (first | subst eo40 | (injection eo40 with f1_ f2_ f3_; have f4_ := f1_.symm; have f5_ := f3_.symm; clear f1_ f2_ f3_; subst f4_; subst f5_))
            refine hK.out _ _ ⟨(blk_cell BK515.out 0).trans rfl, (blk_cell BK515.out 1).trans rfl, (blk_cell BK515.out 2).trans rfl, (blk_cell BK515.out 3).trans rfl, (blk_cell BK515.out 4).trans rfl⟩ (fun hHeld => ?_)
            clear hK K
            refine norm_ (a' := ?_) ?_ ?_
            rotate_left
            ·
             show Act.put _ (some 35) _ = _
             simp only [Act.put, List.setIfInBounds_toArray, List.set_cons_zero, List.set_cons_succ, i64_w, i32_w]
             rfl
            refine one_ (i := 4) (N := some 36) #[true, true, true, true, true, false, false, false, false, false, false, false, false, false, false, false, false, false, false, false, false, false, false, false, false, false, false, false, false, false, false, false, false, false] rfl rfl (one_of HT_.out (by kernel_rfl)) (by decide) (fun K hK => ?_)
            refine goes_ Tryd.func12 (by kernel_rfl) rfl #[.slice Ao39 t516.length co39, .slice Ao40 t519.length co40] (by rfl) rfl rfl (by (try simp only [List.map_toArray, List.map_cons, List.map_nil]); first | done | rfl) ?_
            with_reducible refine (portolanref02_Words.calls k2 _ _ t516 _ _ t519 true _ ?side1 ?side2 ?side3 ?side4 A19.out).mono ?_
            (case side1 => exact Kd.Cx ((Kd.V_reads' HO518.out).2.2))
            (case side2 => exact (Kd.V_reads' HO518.out).2.1)
            (case side3 => exact Kd.Cx ((Kd.R_reads' HO521.out).2.2))
            (case side4 => exact (Kd.R_reads' HO521.out).2.1)
            rintro e w41 ⟨rfl, hb⟩
            refine ⟨_, rfl, ?_⟩
            replace HO518 := Aside0.mk (Kd.V_below (Kd.Vx HO518.out) hb); replace HO521 := Aside0.mk (Kd.R_below (Kd.Rx HO521.out) hb); replace BK511 := Aside0.mk (blk_below (bx BK511.out) hb); replace BK515 := Aside0.mk (blk_below (bx BK515.out) hb); replace HB := Aside0.mk (below_step (bl HB) hb)
            (try clear hb)
            (try clear hb2)
            (try clear hk)
            (try clear hi)
            refine hK.out _ _ ⟨(blk_cell BK515.out 0).trans rfl, (blk_cell BK515.out 1).trans rfl, (blk_cell BK515.out 2).trans rfl, (blk_cell BK515.out 3).trans rfl, (blk_cell BK515.out 4).trans rfl⟩ (fun hHeld => ?_)
            clear hK K
            refine norm_ (a' := ?_) ?_ ?_
            rotate_left
            ·
             show Act.put _ (some 36) _ = _
             simp only [Act.put, List.setIfInBounds_toArray, List.set_cons_zero, List.set_cons_succ, i64_w, i32_w]
             rfl
            refine pure_ (i := 5) (N := some 37) (v := ?_) (a' := ?_) #[true, true, true, true, true, true, false, false, false, false, false, false, false, false, false, false, false, false, false, false, false, false, false, false, false, false, false, false, false, false, false, false, false, false] rfl rfl (any_of HT_.out (by kernel_rfl)) (fun _ _ _ h => h) (Or.inl ⟨by rfl, ?_⟩) ?_ ?_
            rotate_left
            ·
             intro w'
             go_simp
             with_reducible rfl
            rotate_left
            ·
             simp only [Act.put, List.setIfInBounds_toArray, List.set_cons_zero, List.set_cons_succ, i64_w, i32_w]
             rfl
            refine pure_ (i := 6) (N := some 38) (v := ?_) (a' := ?_) #[true, true, true, true, true, true, true, false, false, false, false, false, false, false, false, false, false, false, false, false, false, false, false, false, false, false, false, false, false, false, false, false, false, false] rfl rfl (any_of HT_.out (by kernel_rfl)) (fun _ _ _ h => h) (Or.inl ⟨by rfl, ?_⟩) ?_ ?_
            rotate_left
            ·
             intro w'
             go_simp
             with_reducible rfl
            rotate_left
            ·
             simp only [Act.put, List.setIfInBounds_toArray, List.set_cons_zero, List.set_cons_succ, i64_w, i32_w]
             rfl
            refine pure_ (i := 8) (N := some 40) (v := ?_) (a' := ?_) #[true, true, true, true, true, true, true, false, true, false, false, false, false, false, false, false, false, false, false, false, false, false, false, false, false, false, false, false, false, false, false, false, false, false] rfl rfl (any_of HT_.out (by kernel_rfl)) (fun _ _ _ h => h) (Or.inl ⟨by rfl, ?_⟩) ?_ ?_
            rotate_left
            ·
             intro w'
             go_simp
             with_reducible rfl
            rotate_left
            ·
             simp only [Act.put, List.setIfInBounds_toArray, List.set_cons_zero, List.set_cons_succ, i64_w, i32_w]
             rfl
            refine pure_ (i := 10) (N := some 42) (v := ?_) (a' := ?_) #[true, true, true, true, true, true, true, false, true, false, true, false, false, false, false, false, false, false, false, false, false, false, false, false, false, false, false, false, false, false, false, false, false, false] rfl rfl (any_of HT_.out (by kernel_rfl)) (fun _ _ _ h => h) (Or.inl ⟨by rfl, ?_⟩) ?_ ?_
            rotate_left
            ·
             intro w'
             go_simp
             with_reducible rfl
            rotate_left
            ·
             simp only [Act.put, List.setIfInBounds_toArray, List.set_cons_zero, List.set_cons_succ, i64_w, i32_w]
             rfl
            refine take_ (i := 7) (N := some 39) (v := ?_) (a' := ?_) #[true, true, true, true, true, true, true, true, true, false, true, false, false, false, false, false, false, false, false, false, false, false, false, false, false, false, false, false, false, false, false, false, false, false] rfl rfl (take_ofW HT_.out HW_.out (by kernel_rfl)) (fun _ _ _ h => h) (Or.inl ⟨by rfl, ?_⟩) hHeld ?_ ?_
            rotate_left
            ·
             rintro w' ⟨s0, s1, s2, s3, s4⟩
             go_simp
             with_reducible rfl
            rotate_left
            ·
             simp only [Act.put, List.setIfInBounds_toArray, List.set_cons_zero, List.set_cons_succ, i64_w, i32_w]
             rfl
            refine one_ (i := 9) (N := some 41) #[true, true, true, true, true, true, true, true, true, true, true, false, false, false, false, false, false, false, false, false, false, false, false, false, false, false, false, false, false, false, false, false, false, false] rfl rfl (one_of HT_.out (by kernel_rfl)) (by decide) (fun K hK => ?_)
            refine goes_ Tryd.func23 (by kernel_rfl) rfl #[.agg #[.slice A514_0 ((rd_T30 l0_0 x5_2).f0).length c514_0, .slice A514_1 ((rd_T30 l0_0 x5_2).f1).length c514_1, .int .i64 ((rd_T30 l0_0 x5_2).f2), .int .i64 ((rd_T30 l0_0 x5_2).f3), .slice A514_4 ((rd_T30 l0_0 x5_2).f4).length c514_4], .slice Ao39 t516.length co39] (by rfl) rfl rfl (by (try simp only [List.map_toArray, List.map_cons, List.map_nil]); first | done | rfl) ?_
            with_reducible refine (keep_Close.calls k2 _ _ ((rd_T30 l0_0 x5_2).f0) _ _ ((rd_T30 l0_0 x5_2).f1) ((rd_T30 l0_0 x5_2).f2) ((rd_T30 l0_0 x5_2).f3) _ _ ((rd_T30 l0_0 x5_2).f4) _ _ t516 t523 _ ?side9 ?side1 ?side2 ?side3 ?side4 ?side5 ?side6 ?side7 ?side8 A21.out).mono ?_
            (case side1 => exact Kd.Cx (Kd.C_below HR514_0.out HB.out))
            (case side2 => exact HC514_0.out)
            (case side3 => exact Kd.Cx (Kd.C_below HR514_1.out HB.out))
            (case side4 => exact HC514_1.out)
            (case side5 => exact Kd.Cx (Kd.C_below HR514_4.out HB.out))
            (case side6 => exact HC514_4.out)
            (case side7 => exact Kd.Cx ((Kd.V_reads' HO518.out).2.2))
            (case side8 => exact (Kd.V_reads' HO518.out).2.1)
            (case side9 => exact GB_below HGB.out (bl HB))
            rintro e w42 ⟨v524, rfl, ho0, hb⟩
            refine ⟨_, rfl, ?_⟩
            replace HO518 := Aside0.mk (Kd.V_below (Kd.Vx HO518.out) hb); have HO525 := Aside0.mk (Kd.V_lower (Kd.V_mono (ok' := fun k_ => some k_ ≠ (.slice Ao40 t519.length co40 : Value).ownBlock ∧ k_ ≠ gb511 ∧ k_ ≠ gb515) ho0 (fun k_ hk_ => ⟨(Kd.fresh' (Kd.R_lt (Kd.Rx HO521.out)) k_ hk_), (Kd.freshB (g := gb511) (o := .cells #[.slice (some ad514) l0_0.length c0_0] 24 (0, 0)) (bx BK511.out) k_ hk_), (Kd.freshB (g := gb515) (o := .cells #[.slice A514_0 ((rd_T30 l0_0 x5_2).f0).length c514_0, .slice A514_1 ((rd_T30 l0_0 x5_2).f1).length c514_1, .int .i64 ((rd_T30 l0_0 x5_2).f2), .int .i64 ((rd_T30 l0_0 x5_2).f3), .slice A514_4 ((rd_T30 l0_0 x5_2).f4).length c514_4] 30 (0, 0)) (bx BK515.out) k_ hk_)⟩)) (below_size (bl HB))); replace HO521 := Aside0.mk (Kd.R_below (Kd.Rx HO521.out) hb); replace BK511 := Aside0.mk (blk_below (bx BK511.out) hb); replace BK515 := Aside0.mk (blk_below (bx BK515.out) hb); replace HB := Aside0.mk (below_step (bl HB) hb)
            (try clear hb)
            (try clear hb2)
            (try clear hk)
            (try clear hi)
            (try clear ho0)
            obtain ⟨Ao43, co43, eo43⟩ := Kd.V_slice HO525.out
            (first | subst eo43 | (injection eo43 with f1_ f2_ f3_; have f4_ := f1_.symm; have f5_ := f3_.symm; clear f1_ f2_ f3_; subst f4_; subst f5_))
            refine hK.out _ _ ⟨(blk_cell BK515.out 0).trans rfl, (blk_cell BK515.out 1).trans rfl, (blk_cell BK515.out 2).trans rfl, (blk_cell BK515.out 3).trans rfl, (blk_cell BK515.out 4).trans rfl⟩ (fun hHeld => ?_)
            clear hK K
            refine norm_ (a' := ?_) ?_ ?_
            rotate_left
            ·
             show Act.put _ (some 41) _ = _
             simp only [Act.put, List.setIfInBounds_toArray, List.set_cons_zero, List.set_cons_succ, i64_w, i32_w]
             rfl
            refine one_ (i := 11) (N := some 43) #[true, true, true, true, true, true, true, true, true, true, true, true, false, false, false, false, false, false, false, false, false, false, false, false, false, false, false, false, false, false, false, false, false, false] rfl rfl (one_of HT_.out (by kernel_rfl)) (by decide) (fun K hK => ?_)
            refine goes_ Tryd.func12 (by kernel_rfl) rfl #[.slice Ao43 t523.length co43, .slice Ao39 t516.length co39] (by rfl) rfl rfl (by (try simp only [List.map_toArray, List.map_cons, List.map_nil]); first | done | rfl) ?_
            with_reducible refine (portolanref02_Words.calls k2 _ _ t523 _ _ t516 true _ ?side1 ?side2 ?side3 ?side4 A22.out).mono ?_
            (case side1 => exact Kd.Cx ((Kd.V_reads' HO525.out).2.2))
            (case side2 => exact (Kd.V_reads' HO525.out).2.1)
            (case side3 => exact Kd.Cx ((Kd.V_reads' HO518.out).2.2))
            (case side4 => exact (Kd.V_reads' HO518.out).2.1)
            rintro e w44 ⟨rfl, hb⟩
            refine ⟨_, rfl, ?_⟩
            replace HO518 := Aside0.mk (Kd.V_below (Kd.Vx HO518.out) hb); replace HO521 := Aside0.mk (Kd.R_below (Kd.Rx HO521.out) hb); replace HO525 := Aside0.mk (Kd.V_below (Kd.Vx HO525.out) hb); replace BK511 := Aside0.mk (blk_below (bx BK511.out) hb); replace BK515 := Aside0.mk (blk_below (bx BK515.out) hb); replace HB := Aside0.mk (below_step (bl HB) hb)
            (try clear hb)
            (try clear hb2)
            (try clear hk)
            (try clear hi)
            refine hK.out _ _ ⟨(blk_cell BK515.out 0).trans rfl, (blk_cell BK515.out 1).trans rfl, (blk_cell BK515.out 2).trans rfl, (blk_cell BK515.out 3).trans rfl, (blk_cell BK515.out 4).trans rfl⟩ (fun hHeld => ?_)
            clear hK K
            refine norm_ (a' := ?_) ?_ ?_
            rotate_left
            ·
             show Act.put _ (some 43) _ = _
             simp only [Act.put, List.setIfInBounds_toArray, List.set_cons_zero, List.set_cons_succ, i64_w, i32_w]
             rfl
            refine pure_ (i := 12) (N := some 44) (v := ?_) (a' := ?_) #[true, true, true, true, true, true, true, true, true, true, true, true, true, false, false, false, false, false, false, false, false, false, false, false, false, false, false, false, false, false, false, false, false, false] rfl rfl (any_of HT_.out (by kernel_rfl)) (fun _ _ _ h => h) (Or.inl ⟨by rfl, ?_⟩) ?_ ?_
            rotate_left
            ·
             intro w'
             go_simp
             with_reducible rfl
            rotate_left
            ·
             simp only [Act.put, List.setIfInBounds_toArray, List.set_cons_zero, List.set_cons_succ, i64_w, i32_w]
             rfl
            refine pure_ (i := 13) (N := some 45) (v := ?_) (a' := ?_) #[true, true, true, true, true, true, true, true, true, true, true, true, true, true, false, false, false, false, false, false, false, false, false, false, false, false, false, false, false, false, false, false, false, false] rfl rfl (any_of HT_.out (by kernel_rfl)) (fun _ _ _ h => h) (Or.inl ⟨by rfl, ?_⟩) ?_ ?_
            rotate_left
            ·
             intro w'
             go_simp
             with_reducible rfl
            rotate_left
            ·
             simp only [Act.put, List.setIfInBounds_toArray, List.set_cons_zero, List.set_cons_succ, i64_w, i32_w]
             rfl
            refine pure_ (i := 14) (N := some 46) (v := ?_) (a' := ?_) #[true, true, true, true, true, true, true, true, true, true, true, true, true, true, true, false, false, false, false, false, false, false, false, false, false, false, false, false, false, false, false, false, false, false] rfl rfl (any_of HT_.out (by kernel_rfl)) (fun _ _ _ h => h) (Or.inl ⟨by rfl, ?_⟩) ?_ ?_
            rotate_left
            ·
             intro w'
             go_simp
             with_reducible rfl
            rotate_left
            ·
             simp only [Act.put, List.setIfInBounds_toArray, List.set_cons_zero, List.set_cons_succ, i64_w, i32_w]
             rfl
            refine pure_ (i := 16) (N := some 48) (v := ?_) (a' := ?_) #[true, true, true, true, true, true, true, true, true, true, true, true, true, true, true, false, true, false, false, false, false, false, false, false, false, false, false, false, false, false, false, false, false, false] rfl rfl (any_of HT_.out (by kernel_rfl)) (fun _ _ _ h => h) (Or.inl ⟨by rfl, ?_⟩) ?_ ?_
            rotate_left
            ·
             intro w'
             go_simp
             with_reducible rfl
            rotate_left
            ·
             simp only [Act.put, List.setIfInBounds_toArray, List.set_cons_zero, List.set_cons_succ, i64_w, i32_w]
             rfl
            refine pure_ (i := 19) (N := some 51) (v := ?_) (a' := ?_) #[true, true, true, true, true, true, true, true, true, true, true, true, true, true, true, false, true, false, false, true, false, false, false, false, false, false, false, false, false, false, false, false, false, false] rfl rfl (any_of HT_.out (by kernel_rfl)) (fun _ _ _ h => h) (Or.inl ⟨by rfl, ?_⟩) ?_ ?_
            rotate_left
            ·
             intro w'
             go_simp
             with_reducible rfl
            rotate_left
            ·
             simp only [Act.put, List.setIfInBounds_toArray, List.set_cons_zero, List.set_cons_succ, i64_w, i32_w]
             rfl
            refine take_ (i := 15) (N := some 47) (v := ?_) (a' := ?_) #[true, true, true, true, true, true, true, true, true, true, true, true, true, true, true, true, true, false, false, true, false, false, false, false, false, false, false, false, false, false, false, false, false, false] rfl rfl (take_ofW HT_.out HW_.out (by kernel_rfl)) (fun _ _ _ h => h) (Or.inl ⟨by rfl, ?_⟩) hHeld ?_ ?_
            rotate_left
            ·
             rintro w' ⟨s0, s1, s2, s3, s4⟩
             go_simp
             with_reducible rfl
            rotate_left
            ·
             simp only [Act.put, List.setIfInBounds_toArray, List.set_cons_zero, List.set_cons_succ, i64_w, i32_w]
             rfl
            refine take_ (i := 18) (N := some 50) (v := ?_) (a' := ?_) #[true, true, true, true, true, true, true, true, true, true, true, true, true, true, true, true, true, false, true, true, false, false, false, false, false, false, false, false, false, false, false, false, false, false] rfl rfl (take_ofW HT_.out HW_.out (by kernel_rfl)) (fun _ _ _ h => h) (Or.inl ⟨by rfl, ?_⟩) hHeld ?_ ?_
            rotate_left
            ·
             rintro w' ⟨s0, s1, s2, s3, s4⟩
             go_simp
             with_reducible rfl
            rotate_left
            ·
             simp only [Act.put, List.setIfInBounds_toArray, List.set_cons_zero, List.set_cons_succ, i64_w, i32_w]
             rfl
            refine one_ (i := 17) (N := some 49) #[true, true, true, true, true, true, true, true, true, true, true, true, true, true, true, true, true, true, true, true, false, false, false, false, false, false, false, false, false, false, false, false, false, false] rfl rfl (one_of HT_.out (by kernel_rfl)) (by decide) (fun K hK => ?_)
            refine goes_ Tryd.func26 (by kernel_rfl) rfl #[.agg #[.slice A514_0 ((rd_T30 l0_0 x5_2).f0).length c514_0, .slice A514_1 ((rd_T30 l0_0 x5_2).f1).length c514_1, .int .i64 ((rd_T30 l0_0 x5_2).f2), .int .i64 ((rd_T30 l0_0 x5_2).f3), .slice A514_4 ((rd_T30 l0_0 x5_2).f4).length c514_4], .slice A1 l1.length c1] (by rfl) rfl rfl (by (try simp only [List.map_toArray, List.map_cons, List.map_nil]); first | done | rfl) ?_
            with_reducible refine (keep_Refs.calls k2 _ _ ((rd_T30 l0_0 x5_2).f0) _ _ ((rd_T30 l0_0 x5_2).f1) ((rd_T30 l0_0 x5_2).f2) ((rd_T30 l0_0 x5_2).f3) _ _ ((rd_T30 l0_0 x5_2).f4) _ _ l1 t527 _ ?side9 ?side1 ?side2 ?side3 ?side4 ?side5 ?side6 ?side7 ?side8 A24.out).mono ?_
            (case side1 => exact Kd.Cx (Kd.C_below HR514_0.out HB.out))
            (case side2 => exact HC514_0.out)
            (case side3 => exact Kd.Cx (Kd.C_below HR514_1.out HB.out))
            (case side4 => exact HC514_1.out)
            (case side5 => exact Kd.Cx (Kd.C_below HR514_4.out HB.out))
            (case side6 => exact HC514_4.out)
            (case side7 => exact Kd.Cx (Kd.C_below HR1.out HB.out))
            (case side8 => exact HC1.out)
            (case side9 => exact GB_below HGB.out (bl HB))
            rintro e w45 ⟨v528, rfl, ho0, hb⟩
            refine ⟨_, rfl, ?_⟩
            replace HO518 := Aside0.mk (Kd.V_elder' (Kd.Vx HO518.out) (Kd.R_base ho0) hb); replace HO521 := Aside0.mk (Kd.R_below (Kd.Rx HO521.out) hb); replace HO525 := Aside0.mk (Kd.V_elder' (Kd.Vx HO525.out) (Kd.R_base ho0) hb); have HO529 := Aside0.mk (Kd.R_lower ho0 (below_size (bl HB))); replace BK511 := Aside0.mk (blk_below (bx BK511.out) hb); replace BK515 := Aside0.mk (blk_below (bx BK515.out) hb); replace HB := Aside0.mk (below_step (bl HB) hb)
            (try clear hb)
            (try clear hb2)
            (try clear hk)
            (try clear hi)
            (try clear ho0)
            refine hK.out _ _ ⟨(blk_cell BK515.out 0).trans rfl, (blk_cell BK515.out 1).trans rfl, (blk_cell BK515.out 2).trans rfl, (blk_cell BK515.out 3).trans rfl, (blk_cell BK515.out 4).trans rfl⟩ (fun hHeld => ?_)
            clear hK K
            refine norm_ (a' := ?_) ?_ ?_
            rotate_left
            ·
             show Act.put _ (some 49) _ = _
             simp only [Act.put, List.setIfInBounds_toArray, List.set_cons_zero, List.set_cons_succ, i64_w, i32_w]
             rfl
            refine one_ (i := 20) (N := some 52) #[true, true, true, true, true, true, true, true, true, true, true, true, true, true, true, true, true, true, true, true, true, false, false, false, false, false, false, false, false, false, false, false, false, false] rfl rfl (one_of HT_.out (by kernel_rfl)) (by decide) (fun K hK => ?_)
            refine goes_ Tryd.func27 (by kernel_rfl) rfl #[.agg #[.slice A514_0 ((rd_T30 l0_0 x5_2).f0).length c514_0, .slice A514_1 ((rd_T30 l0_0 x5_2).f1).length c514_1, .int .i64 ((rd_T30 l0_0 x5_2).f2), .int .i64 ((rd_T30 l0_0 x5_2).f3), .slice A514_4 ((rd_T30 l0_0 x5_2).f4).length c514_4], .slice A1 l1.length c1] (by rfl) rfl rfl (by (try simp only [List.map_toArray, List.map_cons, List.map_nil]); first | done | rfl) ?_
            with_reducible refine (portolanref12_Refs.calls k2 _ _ ((rd_T30 l0_0 x5_2).f0) _ _ ((rd_T30 l0_0 x5_2).f1) ((rd_T30 l0_0 x5_2).f2) ((rd_T30 l0_0 x5_2).f3) _ _ ((rd_T30 l0_0 x5_2).f4) _ _ l1 t530 _ ?side1 ?side2 ?side3 ?side4 ?side5 ?side6 ?side7 ?side8 A25.out).mono ?_
            (case side1 => exact Kd.Cx (Kd.C_below HR514_0.out HB.out))
            (case side2 => exact HC514_0.out)
            (case side3 => exact Kd.Cx (Kd.C_below HR514_1.out HB.out))
            (case side4 => exact HC514_1.out)
            (case side5 => exact Kd.Cx (Kd.C_below HR514_4.out HB.out))
            (case side6 => exact HC514_4.out)
            (case side7 => exact Kd.Cx (Kd.C_below HR1.out HB.out))
            (case side8 => exact HC1.out)
            rintro e w46 ⟨v531, rfl, ho0, hb⟩
            refine ⟨_, rfl, ?_⟩
            replace HO518 := Aside0.mk (Kd.V_elder' (Kd.Vx HO518.out) (Kd.R_base ho0) hb); replace HO521 := Aside0.mk (Kd.R_below (Kd.Rx HO521.out) hb); replace HO525 := Aside0.mk (Kd.V_elder' (Kd.Vx HO525.out) (Kd.R_base ho0) hb); have HO532 := Aside0.mk (Kd.R_lower (Kd.R_new' ho0 (Kd.R_lt (Kd.Rx HO529.out))) (below_size (bl HB))); replace HO529 := Aside0.mk (Kd.R_elder' (Kd.Rx HO529.out) (Kd.R_base ho0) hb); replace BK511 := Aside0.mk (blk_below (bx BK511.out) hb); replace BK515 := Aside0.mk (blk_below (bx BK515.out) hb); replace HB := Aside0.mk (below_step (bl HB) hb)
            (try clear hb)
            (try clear hb2)
            (try clear hk)
            (try clear hi)
            (try clear ho0)
            obtain ⟨Ao47, co47, eo47⟩ := Kd.R_slice HO529.out
            (first | subst eo47 | (injection eo47 with f1_ f2_ f3_; have f4_ := f1_.symm; have f5_ := f3_.symm; clear f1_ f2_ f3_; subst f4_; subst f5_))
            obtain ⟨Ao48, co48, eo48⟩ := Kd.R_slice HO532.out
            (first | subst eo48 | (injection eo48 with f1_ f2_ f3_; have f4_ := f1_.symm; have f5_ := f3_.symm; clear f1_ f2_ f3_; subst f4_; subst f5_))
            refine hK.out _ _ ⟨(blk_cell BK515.out 0).trans rfl, (blk_cell BK515.out 1).trans rfl, (blk_cell BK515.out 2).trans rfl, (blk_cell BK515.out 3).trans rfl, (blk_cell BK515.out 4).trans rfl⟩ (fun hHeld => ?_)
            clear hK K
            refine norm_ (a' := ?_) ?_ ?_
            rotate_left
            ·
             show Act.put _ (some 52) _ = _
             simp only [Act.put, List.setIfInBounds_toArray, List.set_cons_zero, List.set_cons_succ, i64_w, i32_w]
             rfl
            refine one_ (i := 21) (N := some 53) #[true, true, true, true, true, true, true, true, true, true, true, true, true, true, true, true, true, true, true, true, true, true, false, false, false, false, false, false, false, false, false, false, false, false] rfl rfl (one_of HT_.out (by kernel_rfl)) (by decide) (fun K hK => ?_)
            refine goes_ Tryd.func25 (by kernel_rfl) rfl #[.slice Ao47 t527.length co47, .slice Ao48 t530.length co48] (by rfl) rfl rfl (by (try simp only [List.map_toArray, List.map_cons, List.map_nil]); first | done | rfl) ?_
            with_reducible refine (portolanref01_Ints.calls k2 _ _ t527 _ _ t530 true _ ?side1 ?side2 ?side3 ?side4 A26.out).mono ?_
            (case side1 => exact Kd.Cx ((Kd.R_reads' HO529.out).2.2))
            (case side2 => exact (Kd.R_reads' HO529.out).2.1)
            (case side3 => exact Kd.Cx ((Kd.R_reads' HO532.out).2.2))
            (case side4 => exact (Kd.R_reads' HO532.out).2.1)
            rintro e w' ⟨rfl, ⟨nd, rfl⟩⟩
            refine ⟨_, rfl, ?_⟩
            refine hK.out _ _ ⟨(blk_cell BK515.out 0).trans rfl, (blk_cell BK515.out 1).trans rfl, (blk_cell BK515.out 2).trans rfl, (blk_cell BK515.out 3).trans rfl, (blk_cell BK515.out 4).trans rfl⟩ (fun hHeld => ?_)
            clear hK K
            refine norm_ (a' := ?_) ?_ ?_
            rotate_left
            ·
             show Act.put _ (some 53) _ = _
             simp only [Act.put, List.setIfInBounds_toArray, List.set_cons_zero, List.set_cons_succ, i64_w, i32_w]
             rfl
            refine pure_ (i := 22) (N := some 54) (v := ?_) (a' := ?_) #[true, true, true, true, true, true, true, true, true, true, true, true, true, true, true, true, true, true, true, true, true, true, true, false, false, false, false, false, false, false, false, false, false, false] rfl rfl (any_of HT_.out (by kernel_rfl)) (fun _ _ _ h => h) (Or.inl ⟨by rfl, ?_⟩) ?_ ?_
            rotate_left
            ·
             intro w'
             go_simp
             with_reducible rfl
            rotate_left
            ·
             simp only [Act.put, List.setIfInBounds_toArray, List.set_cons_zero, List.set_cons_succ, i64_w, i32_w]
             rfl
            refine pure_ (i := 23) (N := some 55) (v := ?_) (a' := ?_) #[true, true, true, true, true, true, true, true, true, true, true, true, true, true, true, true, true, true, true, true, true, true, true, true, false, false, false, false, false, false, false, false, false, false] rfl rfl (any_of HT_.out (by kernel_rfl)) (fun _ _ _ h => h) (Or.inl ⟨by rfl, ?_⟩) ?_ ?_
            rotate_left
            ·
             intro w'
             go_simp
             with_reducible rfl
            rotate_left
            ·
             simp only [Act.put, List.setIfInBounds_toArray, List.set_cons_zero, List.set_cons_succ, i64_w, i32_w]
             rfl
            refine pure_ (i := 24) (N := some 56) (v := ?_) (a' := ?_) #[true, true, true, true, true, true, true, true, true, true, true, true, true, true, true, true, true, true, true, true, true, true, true, true, true, false, false, false, false, false, false, false, false, false] rfl rfl (any_of HT_.out (by kernel_rfl)) (fun _ _ _ h => h) (Or.inl ⟨by rfl, ?_⟩) ?_ ?_
            rotate_left
            ·
             intro w'
             go_simp
             with_reducible rfl
            rotate_left
            ·
             simp only [Act.put, List.setIfInBounds_toArray, List.set_cons_zero, List.set_cons_succ, i64_w, i32_w]
             rfl
            refine pure_ (i := 26) (N := some 58) (v := ?_) (a' := ?_) #[true, true, true, true, true, true, true, true, true, true, true, true, true, true, true, true, true, true, true, true, true, true, true, true, true, false, true, false, false, false, false, false, false, false] rfl rfl (any_of HT_.out (by kernel_rfl)) (fun _ _ _ h => h) (Or.inl ⟨by rfl, ?_⟩) ?_ ?_
            rotate_left
            ·
             intro w'
             go_simp
             with_reducible rfl
            rotate_left
            ·
             simp only [Act.put, List.setIfInBounds_toArray, List.set_cons_zero, List.set_cons_succ, i64_w, i32_w]
             rfl
            refine pure_ (i := 29) (N := some 61) (v := ?_) (a' := ?_) #[true, true, true, true, true, true, true, true, true, true, true, true, true, true, true, true, true, true, true, true, true, true, true, true, true, false, true, false, false, true, false, false, false, false] rfl rfl (any_of HT_.out (by kernel_rfl)) (fun _ _ _ h => h) (Or.inl ⟨by rfl, ?_⟩) ?_ ?_
            rotate_left
            ·
             intro w'
             go_simp
             with_reducible rfl
            rotate_left
            ·
             simp only [Act.put, List.setIfInBounds_toArray, List.set_cons_zero, List.set_cons_succ, i64_w, i32_w]
             rfl
            refine take_ (i := 25) (N := some 57) (v := ?_) (a' := ?_) #[true, true, true, true, true, true, true, true, true, true, true, true, true, true, true, true, true, true, true, true, true, true, true, true, true, true, true, false, false, true, false, false, false, false] rfl rfl (take_ofW HT_.out HW_.out (by kernel_rfl)) (fun _ _ _ h => h) (Or.inl ⟨by rfl, ?_⟩) hHeld ?_ ?_
            rotate_left
            ·
             rintro w' ⟨s0, s1, s2, s3, s4⟩
             go_simp
             with_reducible rfl
            rotate_left
            ·
             simp only [Act.put, List.setIfInBounds_toArray, List.set_cons_zero, List.set_cons_succ, i64_w, i32_w]
             rfl
            refine take_ (i := 28) (N := some 60) (v := ?_) (a' := ?_) #[true, true, true, true, true, true, true, true, true, true, true, true, true, true, true, true, true, true, true, true, true, true, true, true, true, true, true, false, true, true, false, false, false, false] rfl rfl (take_ofW HT_.out HW_.out (by kernel_rfl)) (fun _ _ _ h => h) (Or.inl ⟨by rfl, ?_⟩) hHeld ?_ ?_
            rotate_left
            ·
             rintro w' ⟨s0, s1, s2, s3, s4⟩
             go_simp
             with_reducible rfl
            rotate_left
            ·
             simp only [Act.put, List.setIfInBounds_toArray, List.set_cons_zero, List.set_cons_succ, i64_w, i32_w]
             rfl
            refine one_ (i := 27) (N := some 59) #[true, true, true, true, true, true, true, true, true, true, true, true, true, true, true, true, true, true, true, true, true, true, true, true, true, true, true, true, true, true, false, false, false, false] rfl rfl (one_of HT_.out (by kernel_rfl)) (by decide) (fun K hK => ?_)
            refine goes_ Tryd.func28 (by kernel_rfl) rfl #[.agg #[.slice A514_0 ((rd_T30 l0_0 x5_2).f0).length c514_0, .slice A514_1 ((rd_T30 l0_0 x5_2).f1).length c514_1, .int .i64 ((rd_T30 l0_0 x5_2).f2), .int .i64 ((rd_T30 l0_0 x5_2).f3), .slice A514_4 ((rd_T30 l0_0 x5_2).f4).length c514_4], .slice A1 l1.length c1] (by rfl) rfl rfl (by (try simp only [List.map_toArray, List.map_cons, List.map_nil]); first | done | rfl) ?_
            with_reducible refine (keep_Ders.calls k2 _ _ ((rd_T30 l0_0 x5_2).f0) _ _ ((rd_T30 l0_0 x5_2).f1) ((rd_T30 l0_0 x5_2).f2) ((rd_T30 l0_0 x5_2).f3) _ _ ((rd_T30 l0_0 x5_2).f4) _ _ l1 t534 _ ?side9 ?side1 ?side2 ?side3 ?side4 ?side5 ?side6 ?side7 ?side8 A28.out).mono ?_
            (case side1 => exact (Kd.C_below HR514_0.out (bl HB)))
            (case side2 => exact HC514_0.out)
            (case side3 => exact (Kd.C_below HR514_1.out (bl HB)))
            (case side4 => exact HC514_1.out)
            (case side5 => exact (Kd.C_below HR514_4.out (bl HB)))
            (case side6 => exact HC514_4.out)
            (case side7 => exact (Kd.C_below HR1.out (bl HB)))
            (case side8 => exact HC1.out)
            (case side9 => exact GB_below HGB.out (bl HB))
            rintro e w49 ⟨v535, rfl, ho0, hb⟩
            refine ⟨_, rfl, ?_⟩
            replace HO518 := Aside0.mk (Kd.V_elder' (Kd.Vx HO518.out) (Kd.R_base ho0) hb); replace HO521 := Aside0.mk (Kd.R_below (Kd.Rx HO521.out) hb); replace HO525 := Aside0.mk (Kd.V_elder' (Kd.Vx HO525.out) (Kd.R_base ho0) hb); have HO536 := Aside0.mk (Kd.R_lower (Kd.R_new' (Kd.R_new' ho0 (Kd.R_lt (Kd.Rx HO529.out))) (Kd.R_lt (Kd.Rx HO532.out))) (below_size (bl HB))); replace HO529 := Aside0.mk (Kd.R_elder' (Kd.Rx HO529.out) (Kd.R_base ho0) hb); replace HO532 := Aside0.mk (Kd.R_elder' (Kd.Rx HO532.out) (Kd.R_base ho0) hb); replace BK511 := Aside0.mk (blk_below (bx BK511.out) hb); replace BK515 := Aside0.mk (blk_below (bx BK515.out) hb); replace HB := Aside0.mk (below_step (bl HB) hb)
            (try clear hb)
            (try clear hb2)
            (try clear hk)
            (try clear hi)
            (try clear ho0)
            refine hK.out _ _ ⟨(blk_cell BK515.out 0).trans rfl, (blk_cell BK515.out 1).trans rfl, (blk_cell BK515.out 2).trans rfl, (blk_cell BK515.out 3).trans rfl, (blk_cell BK515.out 4).trans rfl⟩ (fun hHeld => ?_)
            clear hK K
            refine norm_ (a' := ?_) ?_ ?_
            rotate_left
            ·
             show Act.put _ (some 59) _ = _
             simp only [Act.put, List.setIfInBounds_toArray, List.set_cons_zero, List.set_cons_succ, i64_w, i32_w]
             rfl
            refine one_ (i := 30) (N := some 62) #[true, true, true, true, true, true, true, true, true, true, true, true, true, true, true, true, true, true, true, true, true, true, true, true, true, true, true, true, true, true, true, false, false, false] rfl rfl (one_of HT_.out (by kernel_rfl)) (by decide) (fun K hK => ?_)
            refine goes_ Tryd.func29 (by kernel_rfl) rfl #[.agg #[.slice A514_0 ((rd_T30 l0_0 x5_2).f0).length c514_0, .slice A514_1 ((rd_T30 l0_0 x5_2).f1).length c514_1, .int .i64 ((rd_T30 l0_0 x5_2).f2), .int .i64 ((rd_T30 l0_0 x5_2).f3), .slice A514_4 ((rd_T30 l0_0 x5_2).f4).length c514_4], .slice A1 l1.length c1] (by rfl) rfl rfl (by (try simp only [List.map_toArray, List.map_cons, List.map_nil]); first | done | rfl) ?_
            with_reducible refine (portolanref12_Ders.calls k2 _ _ ((rd_T30 l0_0 x5_2).f0) _ _ ((rd_T30 l0_0 x5_2).f1) ((rd_T30 l0_0 x5_2).f2) ((rd_T30 l0_0 x5_2).f3) _ _ ((rd_T30 l0_0 x5_2).f4) _ _ l1 t537 _ ?side1 ?side2 ?side3 ?side4 ?side5 ?side6 ?side7 ?side8 A29.out).mono ?_
            (case side1 => exact Kd.Cx (Kd.C_below HR514_0.out HB.out))
            (case side2 => exact HC514_0.out)
            (case side3 => exact Kd.Cx (Kd.C_below HR514_1.out HB.out))
            (case side4 => exact HC514_1.out)
            (case side5 => exact Kd.Cx (Kd.C_below HR514_4.out HB.out))
            (case side6 => exact HC514_4.out)
            (case side7 => exact Kd.Cx (Kd.C_below HR1.out HB.out))
            (case side8 => exact HC1.out)
            rintro e w50 ⟨v538, rfl, ho0, hb⟩
            refine ⟨_, rfl, ?_⟩
            replace HO518 := Aside0.mk (Kd.V_elder' (Kd.Vx HO518.out) (Kd.R_base ho0) hb); replace HO521 := Aside0.mk (Kd.R_below (Kd.Rx HO521.out) hb); replace HO525 := Aside0.mk (Kd.V_elder' (Kd.Vx HO525.out) (Kd.R_base ho0) hb); have HO539 := Aside0.mk (Kd.R_lower (Kd.R_new' (Kd.R_new' (Kd.R_new' ho0 (Kd.R_lt (Kd.Rx HO529.out))) (Kd.R_lt (Kd.Rx HO532.out))) (Kd.R_lt (Kd.Rx HO536.out))) (below_size (bl HB))); replace HO529 := Aside0.mk (Kd.R_elder' (Kd.Rx HO529.out) (Kd.R_base ho0) hb); replace HO532 := Aside0.mk (Kd.R_elder' (Kd.Rx HO532.out) (Kd.R_base ho0) hb); replace HO536 := Aside0.mk (Kd.R_elder' (Kd.Rx HO536.out) (Kd.R_base ho0) hb); replace BK511 := Aside0.mk (blk_below (bx BK511.out) hb); replace BK515 := Aside0.mk (blk_below (bx BK515.out) hb); replace HB := Aside0.mk (below_step (bl HB) hb)
            (try clear hb)
            (try clear hb2)
            (try clear hk)
            (try clear hi)
            (try clear ho0)
            obtain ⟨Ao51, co51, eo51⟩ := Kd.R_slice HO536.out
            (first | subst eo51 | (injection eo51 with f1_ f2_ f3_; have f4_ := f1_.symm; have f5_ := f3_.symm; clear f1_ f2_ f3_; subst f4_; subst f5_))
            obtain ⟨Ao52, co52, eo52⟩ := Kd.R_slice HO539.out
            (first | subst eo52 | (injection eo52 with f1_ f2_ f3_; have f4_ := f1_.symm; have f5_ := f3_.symm; clear f1_ f2_ f3_; subst f4_; subst f5_))
            refine hK.out _ _ ⟨(blk_cell BK515.out 0).trans rfl, (blk_cell BK515.out 1).trans rfl, (blk_cell BK515.out 2).trans rfl, (blk_cell BK515.out 3).trans rfl, (blk_cell BK515.out 4).trans rfl⟩ (fun hHeld => ?_)
            clear hK K
            refine norm_ (a' := ?_) ?_ ?_
            rotate_left
            ·
             show Act.put _ (some 62) _ = _
             simp only [Act.put, List.setIfInBounds_toArray, List.set_cons_zero, List.set_cons_succ, i64_w, i32_w]
             rfl
            refine one_ (i := 31) (N := some 63) #[true, true, true, true, true, true, true, true, true, true, true, true, true, true, true, true, true, true, true, true, true, true, true, true, true, true, true, true, true, true, true, true, false, false] rfl rfl (one_of HT_.out (by kernel_rfl)) (by decide) (fun K hK => ?_)
            refine goes_ Tryd.func25 (by kernel_rfl) rfl #[.slice Ao51 t534.length co51, .slice Ao52 t537.length co52] (by rfl) rfl rfl (by (try simp only [List.map_toArray, List.map_cons, List.map_nil]); first | done | rfl) ?_
            with_reducible refine (portolanref01_Ints.calls k2 _ _ t534 _ _ t537 true _ ?side1 ?side2 ?side3 ?side4 A30.out).mono ?_
            (case side1 => exact Kd.Cx ((Kd.R_reads' HO536.out).2.2))
            (case side2 => exact (Kd.R_reads' HO536.out).2.1)
            (case side3 => exact Kd.Cx ((Kd.R_reads' HO539.out).2.2))
            (case side4 => exact (Kd.R_reads' HO539.out).2.1)
            rintro e w' ⟨rfl, ⟨nd, rfl⟩⟩
            refine ⟨_, rfl, ?_⟩
            refine hK.out _ _ ⟨(blk_cell BK515.out 0).trans rfl, (blk_cell BK515.out 1).trans rfl, (blk_cell BK515.out 2).trans rfl, (blk_cell BK515.out 3).trans rfl, (blk_cell BK515.out 4).trans rfl⟩ (fun hHeld => ?_)
            clear hK K
            refine norm_ (a' := ?_) ?_ ?_
            rotate_left
            ·
             show Act.put _ (some 63) _ = _
             simp only [Act.put, List.setIfInBounds_toArray, List.set_cons_zero, List.set_cons_succ, i64_w, i32_w]
             rfl
            refine pure_ (i := 32) (N := some 64) (v := ?_) (a' := ?_) #[true, true, true, true, true, true, true, true, true, true, true, true, true, true, true, true, true, true, true, true, true, true, true, true, true, true, true, true, true, true, true, true, true, false] rfl rfl (any_of HT_.out (by kernel_rfl)) (fun _ _ _ h => h) (Or.inl ⟨by rfl, ?_⟩) ?_ ?_
            rotate_left
            ·
             intro w'
             go_simp
             with_reducible rfl
            rotate_left
            ·
             simp only [Act.put, List.setIfInBounds_toArray, List.set_cons_zero, List.set_cons_succ, i64_w, i32_w]
             rfl
            refine pure_ (i := 33) (N := some 65) (v := ?_) (a' := ?_) #[true, true, true, true, true, true, true, true, true, true, true, true, true, true, true, true, true, true, true, true, true, true, true, true, true, true, true, true, true, true, true, true, true, true] rfl rfl (any_of HT_.out (by kernel_rfl)) (fun _ _ _ h => h) (Or.inl ⟨by rfl, ?_⟩) ?_ ?_
            rotate_left
            ·
             intro w'
             go_simp
             with_reducible rfl
            rotate_left
            ·
             simp only [Act.put, List.setIfInBounds_toArray, List.set_cons_zero, List.set_cons_succ, i64_w, i32_w]
             rfl
            refine done_ (done_of HT_.out (by kernel_rfl)) ?_
            try go_wp2
            go_roundg k2
            case measure => have := HJ4.out; have := HK2.out; omega
            case rel => exact ⟨(wrap64 (x5_2 + 1)), (by first | rfl | (simp; done) | (simp [*]; done)), H', ⟨by have := HJ4.out; have := HK2.out; omega⟩, ⟨bx BK511.out⟩, ⟨bl HB⟩⟩
           replace c31 := Bool.eq_false_iff.mpr c31
           subst c31
           have H1 : (some false) = some true := by rw [if_neg (show ¬ (false = true) by decide)] at H; exact H
           exact absurd H1 (by simp)
          replace c27 := Bool.eq_false_iff.mpr c27
          subst c27
          have H1 : (some false) = some true := by rw [if_neg (show ¬ (false = true) by decide)] at H; exact H
          exact absurd H1 (by simp)
         replace c23 := Bool.eq_false_iff.mpr c23
         subst c23
         have H1 : (some false) = some true := by rw [if_neg (show ¬ (false = true) by decide)] at H; exact H
         exact absurd H1 (by simp)
        replace c20 := Bool.eq_false_iff.mpr c20
        subst c20
        have H1 : (some false) = some true := by rw [if_neg (show ¬ (false = true) by decide)] at H; exact H
        exact absurd H1 (by simp)
       rw [if_neg c16] at H
       exact absurd H (by simp)
      rw [if_neg c15] at H
      have c15b0 : decide (x5_2 < (l0_0.length : Int)) = false := decide_eq_false c15
      clear c15
      clear H
      have hcz114_0 := bk1 BK511.out
      have hfz114_0 := bf BK511.out
      go_wp2
      go_ret
      exact ⟨by first | rfl | (simp [errW_none, errW_some] <;> rfl) | (simp [*, errW_none, errW_some] <;> rfl), bl HB⟩
 replace c4 := Bool.eq_false_iff.mpr c4
 subst c4
 have H1 : (some false) = some true := by rw [if_neg (show ¬ (false = true) by decide)] at H; exact H
 exact absurd H1 (by simp)
end Go.Proofs.YtdmimhjmbdkhmaaDoor.X
