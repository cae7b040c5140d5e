/- Part of a proof about the Go function named in the last text of this claim. -/
import Derived.Test.YtdmimhjmbdkhmaaDoorZw
import Derived.Test.YtdmimhjmbdkhmaaDoorXx0
import Derived.Test.YtdmimhjmbdkhmaaDoorXx8
set_option linter.unusedVariables false
set_option linter.unusedSimpArgs false
namespace Go.Proofs.YtdmimhjmbdkhmaaDoor.X
open Go.RowKit Go.Proofs.YtdmimhjmbdkhmaaDoorW.PrintWords Go.Proofs.YtdmimhjmbdkhmaaDoorW.PrintLast Go.Proofs.YtdmimhjmbdkhmaaDoorW.PrintMore
attribute [local go_sem] max2_int min2_int max_two min_two max_three min_three max_four min_four
set_option linter.unusedVariables false
set_option linter.unusedSimpArgs false
mutual
def portolanref04_Func.j0 : Nat → Int → Bool → List Int → List Int → Int → Int → List (S40) → Option (Bool)
 | 0, _, _, _, _, _, _, _ => none
 | k + 1, x3, x40, x362000, x362001, x362002, x362003, x362004 => if x40 = true then (some false) else (portolanref04_Func.l0 k x3 0 x362000 x362001 x362002 x362003 x362004)
def portolanref04_Func.l0 : Nat → Int → Int → List Int → List Int → Int → Int → List (S40) → Option (Bool)
 | 0, _, _, _, _, _, _, _ => none
 | k + 1, x3, x4, x362000, x362001, x362002, x362003, x362004 => if x4 < x3 then (if 0 ≤ x4 then (if x4 < (x362000.length : Int) then ((portolanref04_within.f (rd x362000 x4) 0 2).bind fun t366 => (if t366 = true then (if x4 < x362002 then (portolanref04_Func.j2 k x3 x4 ((rd x362000 x4) == 2) x362000 x362001 x362002 x362003 x362004) else (portolanref04_Func.j2 k x3 x4 false x362000 x362001 x362002 x362003 x362004)) else (portolanref04_Func.j2 k x3 x4 true x362000 x362001 x362002 x362003 x362004))) else (none)) else (none)) else (portolanref04_Func.l1 k 0 x362000 x362001 x362002 x362003 x362004)
def portolanref04_Func.j2 : Nat → Int → Int → Bool → List Int → List Int → Int → Int → List (S40) → Option (Bool)
 | 0, _, _, _, _, _, _, _, _ => none
 | k + 1, x3, x4, x66, x362000, x362001, x362002, x362003, x362004 => if x66 = true then (some false) else (if 0 ≤ x4 then (if x4 < (x362000.length : Int) then (if (rd x362000 x4) = 2 then (if x4 < (x362001.length : Int) then ((portolanref04_within.f (rd x362001 x4) 0 (wrap64 (x3 - 1))).bind fun t370 => (if t370 = true then (if 0 ≤ (rd x362001 x4) then (if (rd x362001 x4) < (x362000.length : Int) then (if (rd x362000 (rd x362001 x4)) = 1 then (portolanref04_Func.l0 k x3 (wrap64 (x4 + 1)) x362000 x362001 x362002 x362003 x362004) else (some false)) else (none)) else (none)) else (some false))) else (none)) else (if x4 < (x362001.length : Int) then (if (rd x362001 x4) = (-1) then (portolanref04_Func.l0 k x3 (wrap64 (x4 + 1)) x362000 x362001 x362002 x362003 x362004) else (some false)) else (none))) else (none)) else (none))
def portolanref04_Func.l1 : Nat → Int → List Int → List Int → Int → Int → List (S40) → Option (Bool)
 | 0, _, _, _, _, _, _ => none
 | k + 1, x5, x362000, x362001, x362002, x362003, x362004 => if x5 < (x362004.length : Int) then (if 0 ≤ x5 then ((portolanref04_within.f (((rd_T40 x362004 x5).f0).length : Int) 1 40).bind fun t375 => (if t375 = true then (portolanref04_Func.l2 k x5 ((rd_T40 x362004 x5).f0) 0 x362000 x362001 x362002 x362003 x362004) else (some false))) else (none)) else (some true)
def portolanref04_Func.l2 : Nat → Int → List (S44) → Int → List Int → List Int → Int → Int → List (S40) → Option (Bool)
 | 0, _, _, _, _, _, _, _, _ => none
 | k + 1, x5, x6, x7, x362000, x362001, x362002, x362003, x362004 => if x7 < (x6.length : Int) then (if 0 ≤ x7 then ((portolanref04_Last.f ((rd_T44 x6 x7).f0)).bind fun t377 => (if (t377 != (x7 == (wrap64 ((x6.length : Int) - 1)))) = true then (some false) else (portolanref04_Func.l2 k x5 x6 (wrap64 (x7 + 1)) x362000 x362001 x362002 x362003 x362004))) else (none)) else (portolanref04_Func.l1 k (wrap64 (x5 + 1)) x362000 x362001 x362002 x362003 x362004)
end
def portolanref04_Func.f (k : Nat) (l0_0 : List Int) (l0_1 : List Int) (a0_2 : Int) (a0_3 : Int) (l0_4 : List (S40)) : Option (Bool) := if (l0_0.length : Int) > 48 then (portolanref04_Func.j0 k (l0_0.length : Int) true l0_0 l0_1 a0_2 a0_3 l0_4) else (if (l0_1.length : Int) = (l0_0.length : Int) then ((portolanref04_within.f a0_2 0 (mn 4 (l0_0.length : Int))).bind fun t362 => (if t362 = true then ((portolanref04_within.f a0_3 0 1).bind fun t363 => (if t363 = true then ((portolanref04_within.f (l0_4.length : Int) 1 40).bind fun t364 => (portolanref04_Func.j0 k (l0_0.length : Int) (!t364) l0_0 l0_1 a0_2 a0_3 l0_4)) else (portolanref04_Func.j0 k (l0_0.length : Int) true l0_0 l0_1 a0_2 a0_3 l0_4))) else (portolanref04_Func.j0 k (l0_0.length : Int) true l0_0 l0_1 a0_2 a0_3 l0_4))) else (portolanref04_Func.j0 k (l0_0.length : Int) true l0_0 l0_1 a0_2 a0_3 l0_4))
set_option maxHeartbeats 8000000 in
set_option maxRecDepth 100000 in
theorem portolanref04_Func.calls (k : Nat) (A0_0 : Option Addr) (c0_0 : Nat) (l0_0 : List Int) (A0_1 : Option Addr) (c0_1 : Nat) (l0_1 : List Int) (a0_2 : Int) (a0_3 : Int) (A0_4 : Option Addr) (c0_4 : Nat) (l0_4 : List (S40)) (r : Bool) (w : World) (hr0_0 : Kd.C (Kd.int .i64) w A0_0 l0_0.length l0_0) (hc0_0 : l0_0.length ≤ c0_0) (hr0_1 : Kd.C (Kd.int .i64) w A0_1 l0_1.length l0_1) (hc0_1 : l0_1.length ≤ c0_1) (hr0_4 : Kd.C k40 w A0_4 l0_4.length l0_4) (hc0_4 : l0_4.length ≤ c0_4) (h : portolanref04_Func.f k l0_0 l0_1 a0_2 a0_3 l0_4 = some r) :
 Calls Tryd.prog 57 #[.agg #[.slice A0_0 l0_0.length c0_0, .slice A0_1 l0_1.length c0_1, .int .i64 a0_2, .int .i64 a0_3, .slice A0_4 l0_4.length c0_4]] w fun e w' => e = .returned (.bool r) ∧ Below w.heap.size w w' := by
 have hu30 := Tryd.underlying30
 have HR0_0 := Aside0.mk hr0_0
 have HC0_0 := Aside0.mk hc0_0
 clear hr0_0 hc0_0
 have HR0_1 := Aside0.mk hr0_1
 have HC0_1 := Aside0.mk hc0_1
 clear hr0_1 hc0_1
 have HR0_4 := Aside0.mk hr0_4
 have HC0_4 := Aside0.mk hc0_4
 clear hr0_4 hc0_4
 have HB := Aside0.mk (Below.refl w.heap.size w)
 have H : (if (l0_0.length : Int) > 48 then (portolanref04_Func.j0 k (l0_0.length : Int) true l0_0 l0_1 a0_2 a0_3 l0_4) else (if (l0_1.length : Int) = (l0_0.length : Int) then ((portolanref04_within.f a0_2 0 (mn 4 (l0_0.length : Int))).bind fun t362 => (if t362 = true then ((portolanref04_within.f a0_3 0 1).bind fun t363 => (if t363 = true then ((portolanref04_within.f (l0_4.length : Int) 1 40).bind fun t364 => (portolanref04_Func.j0 k (l0_0.length : Int) (!t364) l0_0 l0_1 a0_2 a0_3 l0_4)) else (portolanref04_Func.j0 k (l0_0.length : Int) true l0_0 l0_1 a0_2 a0_3 l0_4))) else (portolanref04_Func.j0 k (l0_0.length : Int) true l0_0 l0_1 a0_2 a0_3 l0_4))) else (portolanref04_Func.j0 k (l0_0.length : Int) true l0_0 l0_1 a0_2 a0_3 l0_4))) = some r := h
 clear h
 have HC2 := Aside0.mk H
 clear H
 go_enter Tryd.func57, Tryd.ntmps57
 go_upto_region 2 with (first | ((with_reducible refine gate_dst (N := 1) rfl ?_); (try (refine gate_guard (by rfl) ?_; dsimp only)); refine box_event ?hg (N := 1) ?hd (cs := #[.slice A0_0 l0_0.length c0_0, .slice A0_1 l0_1.length c0_1, .int .i64 a0_2, .int .i64 a0_3, .slice A0_4 l0_4.length c0_4]) (t := 30) ?hr ?_; (case hd => rfl); (case hg => rfl); (case hr => first | (go_simp; done) | (go_simp; rfl)); intro gb361 hg w3 hbox hb; have BK361 := Aside0.mk (hbox); have GW361 := ge hg (bl HB); have GE361 := ge hg (bl HB); replace HB := Aside0.mk (below_step (bl HB) hb); clear hb hbox hg; obtain ⟨hcz4_0, hcz4_1, hcz4_2, hcz4_3, hcz4_4⟩ := bk5 BK361.out; have hfz4_0 := bf BK361.out))
 repeat (go_quiet (first | ((with_reducible refine gate_dst (N := 1) rfl ?_); (try (refine gate_guard (by rfl) ?_; dsimp only)); refine box_event ?hg (N := 1) ?hd (cs := #[.slice A0_0 l0_0.length c0_0, .slice A0_1 l0_1.length c0_1, .int .i64 a0_2, .int .i64 a0_3, .slice A0_4 l0_4.length c0_4]) (t := 30) ?hr ?_; (case hd => rfl); (case hg => rfl); (case hr => first | (go_simp; done) | (go_simp; rfl)); intro gb361 hg w3 hbox hb; have BK361 := Aside0.mk (hbox); have GW361 := ge hg (bl HB); have GE361 := ge hg (bl HB); replace HB := Aside0.mk (below_step (bl HB) hb); clear hb hbox hg; obtain ⟨hcz4_0, hcz4_1, hcz4_2, hcz4_3, hcz4_4⟩ := bk5 BK361.out; have hfz4_0 := bf BK361.out)); go_upto_region 2 with (first | ((with_reducible refine gate_dst (N := 1) rfl ?_); (try (refine gate_guard (by rfl) ?_; dsimp only)); refine box_event ?hg (N := 1) ?hd (cs := #[.slice A0_0 l0_0.length c0_0, .slice A0_1 l0_1.length c0_1, .int .i64 a0_2, .int .i64 a0_3, .slice A0_4 l0_4.length c0_4]) (t := 30) ?hr ?_; (case hd => rfl); (case hg => rfl); (case hr => first | (go_simp; done) | (go_simp; rfl)); intro gb361 hg w3 hbox hb; have BK361 := Aside0.mk (hbox); have GW361 := ge hg (bl HB); have GE361 := ge hg (bl HB); replace HB := Aside0.mk (below_step (bl HB) hb); clear hb hbox hg; obtain ⟨hcz4_0, hcz4_1, hcz4_2, hcz4_3, hcz4_4⟩ := bk5 BK361.out; have hfz4_0 := bf BK361.out)))
 (try simp only [Act.put, List.setIfInBounds_toArray, List.set_cons_zero, List.set_cons_succ])
 go_cut [40] (fun v40 wc => ∃ (kq : Nat) (x40_1 : Bool), v40 = .bool x40_1 ∧ Aside0 (portolanref04_Func.j0 kq (l0_0.length : Int) x40_1 l0_0 l0_1 a0_2 a0_3 l0_4 = some r) ∧ Aside0 (kq ≤ k) ∧ Aside0 (wc.heap[gb361]? = some (.cells #[(.slice A0_0 l0_0.length c0_0), (.slice A0_1 l0_1.length c0_1), .int .i64 a0_2, .int .i64 a0_3, (.slice A0_4 l0_4.length c0_4)] 30 (0, 0))) ∧ Aside0 (Below w.heap.size w wc))
 case first =>
  have H := HC2.out
  clear HC2
  by_cases c5 : (l0_0.length : Int) > 48
  ·
   rw [if_pos c5] at H
   have c5b0 : decide (48 < (l0_0.length : Int)) = true := decide_eq_true c5
   have c5b1 : decide (48 < l0_0.length) = true := decide_eq_true (by omega)
   clear c5
   (first | rw [c5b0] | (simp only [i64_w, i32_w]; rw [c5b0]) | skip)
   have H' := Aside0.mk H
   clear H
   go_wp2
   repeat (go_quiet (fail); try go_wp2)
   go_meet
   case rel => exact ⟨_, (true), (by first | rfl | (simp; done) | (simp [*]; done)), H', ⟨by first | omega | exact Nat.le_refl _⟩, ⟨bx BK361.out⟩, ⟨bl HB⟩⟩
  rw [if_neg c5] at H
  have c5b0 : decide (48 < (l0_0.length : Int)) = false := decide_eq_false c5
  have c5b1 : decide (48 < l0_0.length) = false := decide_eq_false (by omega)
  clear c5
  (first | rw [c5b0] | (simp only [i64_w, i32_w]; rw [c5b0]) | skip)
  by_cases c6 : (l0_1.length : Int) = (l0_0.length : Int)
  ·
   rw [if_pos c6] at H
   have c6b0 : ((l0_1.length : Int) == (l0_0.length : Int)) = true := beq_iff_eq.mpr c6
   have c6b1 : ((l0_1.length : Int) != (l0_0.length : Int)) = false := bne_eq_false_iff_eq.mpr c6
   have c6b2 : (l0_1.length == l0_0.length) = true := by first | simpa using c6 | (simp at c6 ⊢; omega)
   clear c6
   obtain ⟨ji7, hji7⟩ : ∃ j_ : Int, (mn 4 (l0_0.length : Int)) = j_ := ⟨_, rfl⟩
   replace H : ((portolanref04_within.f a0_2 0 (ji7)).bind fun t362 => (if t362 = true then ((portolanref04_within.f a0_3 0 1).bind fun t363 => (if t363 = true then ((portolanref04_within.f (l0_4.length : Int) 1 40).bind fun t364 => (portolanref04_Func.j0 k (l0_0.length : Int) (!t364) l0_0 l0_1 a0_2 a0_3 l0_4)) else (portolanref04_Func.j0 k (l0_0.length : Int) true l0_0 l0_1 a0_2 a0_3 l0_4))) else (portolanref04_Func.j0 k (l0_0.length : Int) true l0_0 l0_1 a0_2 a0_3 l0_4))) = some r := by first | (rw [hji7] at H; exact H) | (simp only [hji7] at H ⊢; exact H)
   (try (have hji7h : ji7 ≤ 4 := by (rw [← hji7]; unfold mn; (repeat' split) <;> omega)))
   (try (have hji7g : ji7 ≤ 64 := by omega))
   (try (have hji7l : 0 ≤ ji7 := by (rw [← hji7]; unfold mn; (repeat' split) <;> omega)))
   (try (have hji7m : 0 ≤ ji7 := by omega))
   have hji7_ : (if (l0_0.length : Int) < 4 then (l0_0.length : Int) else 4) = ji7 := hji7
   replace H := Option.bind_eq_some_iff.mp H
   obtain ⟨t362, A80, H⟩ := H
   replace H : (if t362 = true then ((portolanref04_within.f a0_3 0 1).bind fun t363 => (if t363 = true then ((portolanref04_within.f (l0_4.length : Int) 1 40).bind fun t364 => (portolanref04_Func.j0 k (l0_0.length : Int) (!t364) l0_0 l0_1 a0_2 a0_3 l0_4)) else (portolanref04_Func.j0 k (l0_0.length : Int) true l0_0 l0_1 a0_2 a0_3 l0_4))) else (portolanref04_Func.j0 k (l0_0.length : Int) true l0_0 l0_1 a0_2 a0_3 l0_4)) = some r := H
   have A8 := Aside0.mk A80
   clear A80
   by_cases c9 : t362 = true
   ·
    subst c9
    have H1 : ((portolanref04_within.f a0_3 0 1).bind fun t363 => (if t363 = true then ((portolanref04_within.f (l0_4.length : Int) 1 40).bind fun t364 => (portolanref04_Func.j0 k (l0_0.length : Int) (!t364) l0_0 l0_1 a0_2 a0_3 l0_4)) else (portolanref04_Func.j0 k (l0_0.length : Int) true l0_0 l0_1 a0_2 a0_3 l0_4))) = some r := by rw [if_pos rfl] at H; exact H
    clear H
    have H := H1
    clear H1
    replace H := Option.bind_eq_some_iff.mp H
    obtain ⟨t363, A100, H⟩ := H
    replace H : (if t363 = true then ((portolanref04_within.f (l0_4.length : Int) 1 40).bind fun t364 => (portolanref04_Func.j0 k (l0_0.length : Int) (!t364) l0_0 l0_1 a0_2 a0_3 l0_4)) else (portolanref04_Func.j0 k (l0_0.length : Int) true l0_0 l0_1 a0_2 a0_3 l0_4)) = some r := H
    have A10 := Aside0.mk A100
    clear A100
    by_cases c11 : t363 = true
    ·
     subst c11
     have H1 : ((portolanref04_within.f (l0_4.length : Int) 1 40).bind fun t364 => (portolanref04_Func.j0 k (l0_0.length : Int) (!t364) l0_0 l0_1 a0_2 a0_3 l0_4)) = some r := by rw [if_pos rfl] at H; exact H
     clear H
     have H := H1
     clear H1
     replace H := Option.bind_eq_some_iff.mp H
     obtain ⟨t364, A120, H⟩ := H
     replace H : (portolanref04_Func.j0 k (l0_0.length : Int) (!t364) l0_0 l0_1 a0_2 a0_3 l0_4) = some r := H
     have A12 := Aside0.mk A120
     clear A120
     have H' := Aside0.mk H
     clear H
     obtain ⟨hcz13_0, hcz13_1, hcz13_2, hcz13_3, hcz13_4⟩ := bk5 BK361.out
     have hfz13_0 := bf BK361.out
     go_wp2_with (first | (go_at_call 56; (with_reducible refine (portolanref04_within.calls a0_2 0 ji7 true _ A8.out).mono ?_); rintro e w' ⟨rfl, ⟨nd, rfl⟩⟩; (try first | exact ⟨rfl, _, World.drewN_drewN _ _ _⟩ | exact ⟨rfl, _, Eq.trans (World.drewN_drewN _ _ _) (congrArg (World.drewN _) (Nat.add_assoc _ _ _))⟩)) | (go_at_call 56; (with_reducible refine (portolanref04_within.calls a0_3 0 1 true _ A10.out).mono ?_); rintro e w' ⟨rfl, ⟨nd, rfl⟩⟩; (try first | exact ⟨rfl, _, World.drewN_drewN _ _ _⟩ | exact ⟨rfl, _, Eq.trans (World.drewN_drewN _ _ _) (congrArg (World.drewN _) (Nat.add_assoc _ _ _))⟩)) | (go_at_call 56; (with_reducible refine (portolanref04_within.calls (l0_4.length : Int) 1 40 t364 _ A12.out).mono ?_); rintro e w' ⟨rfl, ⟨nd, rfl⟩⟩; (try first | exact ⟨rfl, _, World.drewN_drewN _ _ _⟩ | exact ⟨rfl, _, Eq.trans (World.drewN_drewN _ _ _) (congrArg (World.drewN _) (Nat.add_assoc _ _ _))⟩)))
     repeat (go_quiet (first | (go_at_call 56; (with_reducible refine (portolanref04_within.calls a0_2 0 ji7 true _ A8.out).mono ?_); rintro e w' ⟨rfl, ⟨nd, rfl⟩⟩; (try first | exact ⟨rfl, _, World.drewN_drewN _ _ _⟩ | exact ⟨rfl, _, Eq.trans (World.drewN_drewN _ _ _) (congrArg (World.drewN _) (Nat.add_assoc _ _ _))⟩)) | (go_at_call 56; (with_reducible refine (portolanref04_within.calls a0_3 0 1 true _ A10.out).mono ?_); rintro e w' ⟨rfl, ⟨nd, rfl⟩⟩; (try first | exact ⟨rfl, _, World.drewN_drewN _ _ _⟩ | exact ⟨rfl, _, Eq.trans (World.drewN_drewN _ _ _) (congrArg (World.drewN _) (Nat.add_assoc _ _ _))⟩)) | (go_at_call 56; (with_reducible refine (portolanref04_within.calls (l0_4.length : Int) 1 40 t364 _ A12.out).mono ?_); rintro e w' ⟨rfl, ⟨nd, rfl⟩⟩; (try first | exact ⟨rfl, _, World.drewN_drewN _ _ _⟩ | exact ⟨rfl, _, Eq.trans (World.drewN_drewN _ _ _) (congrArg (World.drewN _) (Nat.add_assoc _ _ _))⟩))); try go_wp2_with (first | (go_at_call 56; (with_reducible refine (portolanref04_within.calls a0_2 0 ji7 true _ A8.out).mono ?_); rintro e w' ⟨rfl, ⟨nd, rfl⟩⟩; (try first | exact ⟨rfl, _, World.drewN_drewN _ _ _⟩ | exact ⟨rfl, _, Eq.trans (World.drewN_drewN _ _ _) (congrArg (World.drewN _) (Nat.add_assoc _ _ _))⟩)) | (go_at_call 56; (with_reducible refine (portolanref04_within.calls a0_3 0 1 true _ A10.out).mono ?_); rintro e w' ⟨rfl, ⟨nd, rfl⟩⟩; (try first | exact ⟨rfl, _, World.drewN_drewN _ _ _⟩ | exact ⟨rfl, _, Eq.trans (World.drewN_drewN _ _ _) (congrArg (World.drewN _) (Nat.add_assoc _ _ _))⟩)) | (go_at_call 56; (with_reducible refine (portolanref04_within.calls (l0_4.length : Int) 1 40 t364 _ A12.out).mono ?_); rintro e w' ⟨rfl, ⟨nd, rfl⟩⟩; (try first | exact ⟨rfl, _, World.drewN_drewN _ _ _⟩ | exact ⟨rfl, _, Eq.trans (World.drewN_drewN _ _ _) (congrArg (World.drewN _) (Nat.add_assoc _ _ _))⟩))))
     go_meet
     case rel => exact ⟨_, (!t364), (by first | rfl | (simp; done) | (simp [*]; done)), H', ⟨by first | omega | exact Nat.le_refl _⟩, ⟨bx BK361.out⟩, ⟨bl HB⟩⟩
    replace c11 := Bool.eq_false_iff.mpr c11
    subst c11
    have H1 : (portolanref04_Func.j0 k (l0_0.length : Int) true l0_0 l0_1 a0_2 a0_3 l0_4) = some r := by rw [if_neg (show ¬ (false = true) by decide)] at H; exact H
    clear H
    have H := H1
    clear H1
    have H' := Aside0.mk H
    clear H
    obtain ⟨hcz14_0, hcz14_1, hcz14_2, hcz14_3, hcz14_4⟩ := bk5 BK361.out
    have hfz14_0 := bf BK361.out
    go_wp2_with (first | (go_at_call 56; (with_reducible refine (portolanref04_within.calls a0_2 0 ji7 true _ A8.out).mono ?_); rintro e w' ⟨rfl, ⟨nd, rfl⟩⟩; (try first | exact ⟨rfl, _, World.drewN_drewN _ _ _⟩ | exact ⟨rfl, _, Eq.trans (World.drewN_drewN _ _ _) (congrArg (World.drewN _) (Nat.add_assoc _ _ _))⟩)) | (go_at_call 56; (with_reducible refine (portolanref04_within.calls a0_3 0 1 false _ A10.out).mono ?_); rintro e w' ⟨rfl, ⟨nd, rfl⟩⟩; (try first | exact ⟨rfl, _, World.drewN_drewN _ _ _⟩ | exact ⟨rfl, _, Eq.trans (World.drewN_drewN _ _ _) (congrArg (World.drewN _) (Nat.add_assoc _ _ _))⟩)))
    repeat (go_quiet (first | (go_at_call 56; (with_reducible refine (portolanref04_within.calls a0_2 0 ji7 true _ A8.out).mono ?_); rintro e w' ⟨rfl, ⟨nd, rfl⟩⟩; (try first | exact ⟨rfl, _, World.drewN_drewN _ _ _⟩ | exact ⟨rfl, _, Eq.trans (World.drewN_drewN _ _ _) (congrArg (World.drewN _) (Nat.add_assoc _ _ _))⟩)) | (go_at_call 56; (with_reducible refine (portolanref04_within.calls a0_3 0 1 false _ A10.out).mono ?_); rintro e w' ⟨rfl, ⟨nd, rfl⟩⟩; (try first | exact ⟨rfl, _, World.drewN_drewN _ _ _⟩ | exact ⟨rfl, _, Eq.trans (World.drewN_drewN _ _ _) (congrArg (World.drewN _) (Nat.add_assoc _ _ _))⟩))); try go_wp2_with (first | (go_at_call 56; (with_reducible refine (portolanref04_within.calls a0_2 0 ji7 true _ A8.out).mono ?_); rintro e w' ⟨rfl, ⟨nd, rfl⟩⟩; (try first | exact ⟨rfl, _, World.drewN_drewN _ _ _⟩ | exact ⟨rfl, _, Eq.trans (World.drewN_drewN _ _ _) (congrArg (World.drewN _) (Nat.add_assoc _ _ _))⟩)) | (go_at_call 56; (with_reducible refine (portolanref04_within.calls a0_3 0 1 false _ A10.out).mono ?_); rintro e w' ⟨rfl, ⟨nd, rfl⟩⟩; (try first | exact ⟨rfl, _, World.drewN_drewN _ _ _⟩ | exact ⟨rfl, _, Eq.trans (World.drewN_drewN _ _ _) (congrArg (World.drewN _) (Nat.add_assoc _ _ _))⟩))))
    go_meet
    case rel => exact ⟨_, (true), (by first | rfl | (simp; done) | (simp [*]; done)), H', ⟨by first | omega | exact Nat.le_refl _⟩, ⟨bx BK361.out⟩, ⟨bl HB⟩⟩
   replace c9 := Bool.eq_false_iff.mpr c9
   subst c9
   have H1 : (portolanref04_Func.j0 k (l0_0.length : Int) true l0_0 l0_1 a0_2 a0_3 l0_4) = some r := by rw [if_neg (show ¬ (false = true) by decide)] at H; exact H
   clear H
   have H := H1
   clear H1
   have H' := Aside0.mk H
   clear H
   obtain ⟨hcz15_0, hcz15_1, hcz15_2, hcz15_3, hcz15_4⟩ := bk5 BK361.out
   have hfz15_0 := bf BK361.out
   go_wp2_with (first | (go_at_call 56; (with_reducible refine (portolanref04_within.calls a0_2 0 ji7 false _ A8.out).mono ?_); rintro e w' ⟨rfl, ⟨nd, rfl⟩⟩; (try first | exact ⟨rfl, _, World.drewN_drewN _ _ _⟩ | exact ⟨rfl, _, Eq.trans (World.drewN_drewN _ _ _) (congrArg (World.drewN _) (Nat.add_assoc _ _ _))⟩)))
   repeat (go_quiet (first | (go_at_call 56; (with_reducible refine (portolanref04_within.calls a0_2 0 ji7 false _ A8.out).mono ?_); rintro e w' ⟨rfl, ⟨nd, rfl⟩⟩; (try first | exact ⟨rfl, _, World.drewN_drewN _ _ _⟩ | exact ⟨rfl, _, Eq.trans (World.drewN_drewN _ _ _) (congrArg (World.drewN _) (Nat.add_assoc _ _ _))⟩))); try go_wp2_with (first | (go_at_call 56; (with_reducible refine (portolanref04_within.calls a0_2 0 ji7 false _ A8.out).mono ?_); rintro e w' ⟨rfl, ⟨nd, rfl⟩⟩; (try first | exact ⟨rfl, _, World.drewN_drewN _ _ _⟩ | exact ⟨rfl, _, Eq.trans (World.drewN_drewN _ _ _) (congrArg (World.drewN _) (Nat.add_assoc _ _ _))⟩))))
   go_meet
   case rel => exact ⟨_, (true), (by first | rfl | (simp; done) | (simp [*]; done)), H', ⟨by first | omega | exact Nat.le_refl _⟩, ⟨bx BK361.out⟩, ⟨bl HB⟩⟩
  rw [if_neg c6] at H
  have c6b0 : ((l0_1.length : Int) == (l0_0.length : Int)) = false := beq_eq_false_iff_ne.mpr c6
  have c6b1 : ((l0_1.length : Int) != (l0_0.length : Int)) = true := bne_iff_ne.mpr c6
  have c6b2 : (l0_1.length == l0_0.length) = false := by first | simpa using c6 | (simp at c6 ⊢; omega)
  have H' := Aside0.mk H
  clear H
  obtain ⟨hcz16_0, hcz16_1, hcz16_2, hcz16_3, hcz16_4⟩ := bk5 BK361.out
  have hfz16_0 := bf BK361.out
  go_wp2
  repeat (go_quiet (fail); try go_wp2)
  go_meet
  case rel => exact ⟨_, (true), (by first | rfl | (simp; done) | (simp [*]; done)), H', ⟨by first | omega | exact Nat.le_refl _⟩, ⟨bx BK361.out⟩, ⟨bl HB⟩⟩
 case rest =>
  clear HC2
  try clear c1
  try clear p2
  try clear c5
  try clear c5b0
  try clear c5b1
  try clear c6
  try clear c6b0
  try clear c6b1
  try clear c6b2
  try clear c9
  try clear c11
  try clear hcz13_0 hcz13_1 hcz13_2 hcz13_3 hcz13_4
  try clear hcz14_0 hcz14_1 hcz14_2 hcz14_3 hcz14_4
  try clear hcz15_0 hcz15_1 hcz15_2 hcz15_3 hcz15_4
  try clear hcz16_0 hcz16_1 hcz16_2 hcz16_3 hcz16_4
  try clear hcz4_0 hcz4_1 hcz4_2 hcz4_3 hcz4_4
  try clear hfz13_0
  try clear hfz14_0
  try clear hfz15_0
  try clear hfz16_0
  try clear hfz4_0
  obtain ⟨kq, x40_1, rfl, HA, HJ1, BK361, HB⟩ := hcut
  cases kq with
  | zero => exact absurd HA.out (by simp [portolanref04_Func.j0])
  | succ kj1 =>
   have H := HA.out
   clear HA
   simp only [portolanref04_Func.j0] at H
   by_cases c17 : x40_1 = true
   ·
    subst c17
    have H1 : (some false) = some r := by rw [if_pos rfl] at H; exact H
    clear H
    have H := H1
    clear H1
    obtain rfl := Option.some.inj H
    go_wp2
    repeat (go_quiet (fail); try go_wp2)
    go_ret
    exact ⟨by first | rfl | (simp [errW_none, errW_some] <;> rfl) | (simp [*, errW_none, errW_some] <;> rfl), bl HB⟩
   replace c17 := Bool.eq_false_iff.mpr c17
   subst c17
   have H1 : (portolanref04_Func.l0 kj1 (l0_0.length : Int) 0 l0_0 l0_1 a0_2 a0_3 l0_4) = some r := by rw [if_neg (show ¬ (false = true) by decide)] at H; exact H
   clear H
   have H := H1
   clear H1
   have H' := Aside0.mk H
   clear H
   go_wp2
   repeat (go_quiet (fail); try go_wp2)
   go_loopg [4] kj1 (fun kq v4 w' => ∃ (x4_2 : Int), v4 = .int .i64 x4_2 ∧ Aside0 (portolanref04_Func.l0 kq (l0_0.length : Int) x4_2 l0_0 l0_1 a0_2 a0_3 l0_4 = some r) ∧ Aside0 (kq ≤ kj1) ∧ Aside0 (w'.heap[gb361]? = some (.cells #[(.slice A0_0 l0_0.length c0_0), (.slice A0_1 l0_1.length c0_1), .int .i64 a0_2, .int .i64 a0_3, (.slice A0_4 l0_4.length c0_4)] 30 (0, 0))) ∧ Aside0 (Below w.heap.size w w'))
   case atStart => exact ⟨(0), (by first | rfl | (simp; done) | (simp [*]; done)), H', ⟨Nat.le_refl _⟩, ⟨bx BK361.out⟩, ⟨bl HB⟩⟩
   case round =>
    clear H'
    try clear c1
    try clear p2
    try clear c5
    try clear c5b0
    try clear c5b1
    try clear c6
    try clear c6b0
    try clear c6b1
    try clear c6b2
    try clear c9
    try clear c11
    try clear c17
    try clear hcz13_0 hcz13_1 hcz13_2 hcz13_3 hcz13_4
    try clear hcz14_0 hcz14_1 hcz14_2 hcz14_3 hcz14_4
    try clear hcz15_0 hcz15_1 hcz15_2 hcz15_3 hcz15_4
    try clear hcz16_0 hcz16_1 hcz16_2 hcz16_3 hcz16_4
    try clear hcz4_0 hcz4_1 hcz4_2 hcz4_3 hcz4_4
    try clear hfz13_0
    try clear hfz14_0
    try clear hfz15_0
    try clear hfz16_0
    try clear hfz4_0
    try clear p2
    obtain ⟨x4_2, rfl, HA, HK2, BK361, HB⟩ := hrel
    cases gk with
    | zero => exact absurd HA.out (by simp [portolanref04_Func.l0])
    | succ k2 =>
     have H := HA.out
     clear HA
     simp only [portolanref04_Func.l0] at H
     by_cases c18 : x4_2 < (l0_0.length : Int)
     ·
      rw [if_pos c18] at H
      have c18b0 : decide (x4_2 < (l0_0.length : Int)) = true := decide_eq_true c18
      clear c18
      have HC19 := Aside0.mk H
      clear H
      go_upto_region 7 with (fail)
      repeat (go_quiet (fail); go_upto_region 7 with (fail))
      go_cut [66] (fun v66 wc => ∃ (kq : Nat) (x66_18 : Bool), v66 = .bool x66_18 ∧ Aside0 (portolanref04_Func.j2 kq (l0_0.length : Int) x4_2 x66_18 l0_0 l0_1 a0_2 a0_3 l0_4 = some r) ∧ Aside0 (kq ≤ k2) ∧ Aside0 (wc.heap[gb361]? = some (.cells #[(.slice A0_0 l0_0.length c0_0), (.slice A0_1 l0_1.length c0_1), .int .i64 a0_2, .int .i64 a0_3, (.slice A0_4 l0_4.length c0_4)] 30 (0, 0))) ∧ Aside0 (Below w.heap.size w wc))
      case first =>
       have H := HC19.out
       clear HC19
       by_cases c20 : 0 ≤ x4_2
       ·
        rw [if_pos c20] at H
        have c20b0 : decide (0 ≤ x4_2) = true := decide_eq_true c20
        clear c20
        (first | rw [c20b0] | (simp only [i64_w, i32_w]; rw [c20b0]) | skip)
        by_cases c21 : x4_2 < (l0_0.length : Int)
        ·
         rw [if_pos c21] at H
         have c21b0 : decide (x4_2 < (l0_0.length : Int)) = true := decide_eq_true c21
         clear c21
         replace H := Option.bind_eq_some_iff.mp H
         obtain ⟨t366, A220, H⟩ := H
         replace H : (if t366 = true then (if x4_2 < a0_2 then (portolanref04_Func.j2 k2 (l0_0.length : Int) x4_2 ((rd l0_0 x4_2) == 2) l0_0 l0_1 a0_2 a0_3 l0_4) else (portolanref04_Func.j2 k2 (l0_0.length : Int) x4_2 false l0_0 l0_1 a0_2 a0_3 l0_4)) else (portolanref04_Func.j2 k2 (l0_0.length : Int) x4_2 true l0_0 l0_1 a0_2 a0_3 l0_4)) = some r := H
         have A22 := Aside0.mk A220
         clear A220
         by_cases c23 : t366 = true
         ·
          subst c23
          have H1 : (if x4_2 < a0_2 then (portolanref04_Func.j2 k2 (l0_0.length : Int) x4_2 ((rd l0_0 x4_2) == 2) l0_0 l0_1 a0_2 a0_3 l0_4) else (portolanref04_Func.j2 k2 (l0_0.length : Int) x4_2 false l0_0 l0_1 a0_2 a0_3 l0_4)) = some r := by rw [if_pos rfl] at H; exact H
          clear H
          have H := H1
          clear H1
          by_cases c24 : x4_2 < a0_2
          ·
           rw [if_pos c24] at H
           have c24b0 : decide (x4_2 < a0_2) = true := decide_eq_true c24
           clear c24
           have H' := Aside0.mk H
           clear H
           obtain ⟨hcz25_0, hcz25_1, hcz25_2, hcz25_3, hcz25_4⟩ := bk5 BK361.out
           have hfz25_0 := bf BK361.out
           have p365 : 0 ≤ (x4_2 : Int) := of_decide_eq_true (by assumption)
           have q365 : x4_2 < (l0_0.length : Int) := of_decide_eq_true (by assumption)
           obtain ⟨ad365, e365, hx365_0⟩ := Kd.at_int HR0_0.out x4_2 p365 q365
           cases e365
           replace hx365_0 := (HB.out.cell (World.block_lt_of_cell? w _ hx365_0)).trans hx365_0
           replace p365 := eq_true p365
           replace q365 := eq_true q365
           have p367 : 0 ≤ (x4_2 : Int) := of_decide_eq_true (by assumption); have q367 : x4_2 < (l0_0.length : Int) := of_decide_eq_true (by assumption); obtain ⟨ad367, e367, hx367_0⟩ := Kd.at_int HR0_0.out x4_2 p367 q367; obtain rfl : ad365 = ad367 := (by injection e367); replace hx367_0 := (HB.out.cell (World.block_lt_of_cell? w _ hx367_0)).trans hx367_0; replace p367 := eq_true p367; replace q367 := eq_true q367
           go_wp2_with (first | (go_at_call 56; (with_reducible refine (portolanref04_within.calls (rd l0_0 x4_2) 0 2 true _ A22.out).mono ?_); rintro e w' ⟨rfl, ⟨nd, rfl⟩⟩; (try first | exact ⟨rfl, _, World.drewN_drewN _ _ _⟩ | exact ⟨rfl, _, Eq.trans (World.drewN_drewN _ _ _) (congrArg (World.drewN _) (Nat.add_assoc _ _ _))⟩)))
           repeat (go_quiet (first | (go_at_call 56; (with_reducible refine (portolanref04_within.calls (rd l0_0 x4_2) 0 2 true _ A22.out).mono ?_); rintro e w' ⟨rfl, ⟨nd, rfl⟩⟩; (try first | exact ⟨rfl, _, World.drewN_drewN _ _ _⟩ | exact ⟨rfl, _, Eq.trans (World.drewN_drewN _ _ _) (congrArg (World.drewN _) (Nat.add_assoc _ _ _))⟩))); try go_wp2_with (first | (go_at_call 56; (with_reducible refine (portolanref04_within.calls (rd l0_0 x4_2) 0 2 true _ A22.out).mono ?_); rintro e w' ⟨rfl, ⟨nd, rfl⟩⟩; (try first | exact ⟨rfl, _, World.drewN_drewN _ _ _⟩ | exact ⟨rfl, _, Eq.trans (World.drewN_drewN _ _ _) (congrArg (World.drewN _) (Nat.add_assoc _ _ _))⟩))))
           go_meet
           case rel => exact ⟨_, (((rd l0_0 x4_2) == 2)), (by first | rfl | (simp; done) | (simp [*]; done)), H', ⟨by have := HJ1.out; have := HK2.out; first | omega | exact Nat.le_refl _⟩, ⟨bx BK361.out⟩, ⟨bl HB⟩⟩
          rw [if_neg c24] at H
          have c24b0 : decide (x4_2 < a0_2) = false := decide_eq_false c24
          clear c24
          have H' := Aside0.mk H
          clear H
          obtain ⟨hcz26_0, hcz26_1, hcz26_2, hcz26_3, hcz26_4⟩ := bk5 BK361.out
          have hfz26_0 := bf BK361.out
          have p365 : 0 ≤ (x4_2 : Int) := of_decide_eq_true (by assumption)
          have q365 : x4_2 < (l0_0.length : Int) := of_decide_eq_true (by assumption)
          obtain ⟨ad365, e365, hx365_0⟩ := Kd.at_int HR0_0.out x4_2 p365 q365
          cases e365
          replace hx365_0 := (HB.out.cell (World.block_lt_of_cell? w _ hx365_0)).trans hx365_0
          replace p365 := eq_true p365
          replace q365 := eq_true q365
          go_wp2_with (first | (go_at_call 56; (with_reducible refine (portolanref04_within.calls (rd l0_0 x4_2) 0 2 true _ A22.out).mono ?_); rintro e w' ⟨rfl, ⟨nd, rfl⟩⟩; (try first | exact ⟨rfl, _, World.drewN_drewN _ _ _⟩ | exact ⟨rfl, _, Eq.trans (World.drewN_drewN _ _ _) (congrArg (World.drewN _) (Nat.add_assoc _ _ _))⟩)))
          repeat (go_quiet (first | (go_at_call 56; (with_reducible refine (portolanref04_within.calls (rd l0_0 x4_2) 0 2 true _ A22.out).mono ?_); rintro e w' ⟨rfl, ⟨nd, rfl⟩⟩; (try first | exact ⟨rfl, _, World.drewN_drewN _ _ _⟩ | exact ⟨rfl, _, Eq.trans (World.drewN_drewN _ _ _) (congrArg (World.drewN _) (Nat.add_assoc _ _ _))⟩))); try go_wp2_with (first | (go_at_call 56; (with_reducible refine (portolanref04_within.calls (rd l0_0 x4_2) 0 2 true _ A22.out).mono ?_); rintro e w' ⟨rfl, ⟨nd, rfl⟩⟩; (try first | exact ⟨rfl, _, World.drewN_drewN _ _ _⟩ | exact ⟨rfl, _, Eq.trans (World.drewN_drewN _ _ _) (congrArg (World.drewN _) (Nat.add_assoc _ _ _))⟩))))
          go_meet
          case rel => exact ⟨_, (false), (by first | rfl | (simp; done) | (simp [*]; done)), H', ⟨by have := HJ1.out; have := HK2.out; first | omega | exact Nat.le_refl _⟩, ⟨bx BK361.out⟩, ⟨bl HB⟩⟩
         replace c23 := Bool.eq_false_iff.mpr c23
         subst c23
         have H1 : (portolanref04_Func.j2 k2 (l0_0.length : Int) x4_2 true l0_0 l0_1 a0_2 a0_3 l0_4) = some r := by rw [if_neg (show ¬ (false = true) by decide)] at H; exact H
         clear H
         have H := H1
         clear H1
         have H' := Aside0.mk H
         clear H
         obtain ⟨hcz27_0, hcz27_1, hcz27_2, hcz27_3, hcz27_4⟩ := bk5 BK361.out
         have hfz27_0 := bf BK361.out
         have p365 : 0 ≤ (x4_2 : Int) := of_decide_eq_true (by assumption)
         have q365 : x4_2 < (l0_0.length : Int) := of_decide_eq_true (by assumption)
         obtain ⟨ad365, e365, hx365_0⟩ := Kd.at_int HR0_0.out x4_2 p365 q365
         cases e365
         replace hx365_0 := (HB.out.cell (World.block_lt_of_cell? w _ hx365_0)).trans hx365_0
         replace p365 := eq_true p365
         replace q365 := eq_true q365
         go_wp2_with (first | (go_at_call 56; (with_reducible refine (portolanref04_within.calls (rd l0_0 x4_2) 0 2 false _ A22.out).mono ?_); rintro e w' ⟨rfl, ⟨nd, rfl⟩⟩; (try first | exact ⟨rfl, _, World.drewN_drewN _ _ _⟩ | exact ⟨rfl, _, Eq.trans (World.drewN_drewN _ _ _) (congrArg (World.drewN _) (Nat.add_assoc _ _ _))⟩)))
         repeat (go_quiet (first | (go_at_call 56; (with_reducible refine (portolanref04_within.calls (rd l0_0 x4_2) 0 2 false _ A22.out).mono ?_); rintro e w' ⟨rfl, ⟨nd, rfl⟩⟩; (try first | exact ⟨rfl, _, World.drewN_drewN _ _ _⟩ | exact ⟨rfl, _, Eq.trans (World.drewN_drewN _ _ _) (congrArg (World.drewN _) (Nat.add_assoc _ _ _))⟩))); try go_wp2_with (first | (go_at_call 56; (with_reducible refine (portolanref04_within.calls (rd l0_0 x4_2) 0 2 false _ A22.out).mono ?_); rintro e w' ⟨rfl, ⟨nd, rfl⟩⟩; (try first | exact ⟨rfl, _, World.drewN_drewN _ _ _⟩ | exact ⟨rfl, _, Eq.trans (World.drewN_drewN _ _ _) (congrArg (World.drewN _) (Nat.add_assoc _ _ _))⟩))))
         go_meet
         case rel => exact ⟨_, (true), (by first | rfl | (simp; done) | (simp [*]; done)), H', ⟨by have := HJ1.out; have := HK2.out; first | omega | exact Nat.le_refl _⟩, ⟨bx BK361.out⟩, ⟨bl HB⟩⟩
        rw [if_neg c21] at H
        exact absurd H (by simp)
       rw [if_neg c20] at H
       exact absurd H (by simp)
      case rest =>
       clear HC19
       try clear c1
       try clear c2
       try clear p2
       try clear p3
       try clear q3
       try clear hx3
       try clear c5
       try clear c5b0
       try clear c5b1
       try clear c6
       try clear c6b0
       try clear c6b1
       try clear c6b2
       try clear c9
       try clear c11
       try clear c17
       try clear c18
       try clear c18b0
       try clear c20
       try clear c20b0
       try clear c21
       try clear c21b0
       try clear c23
       try clear c24
       try clear c24b0
       try clear hcz13_0 hcz13_1 hcz13_2 hcz13_3 hcz13_4
       try clear hcz14_0 hcz14_1 hcz14_2 hcz14_3 hcz14_4
       try clear hcz15_0 hcz15_1 hcz15_2 hcz15_3 hcz15_4
       try clear hcz16_0 hcz16_1 hcz16_2 hcz16_3 hcz16_4
       try clear hcz25_0 hcz25_1 hcz25_2 hcz25_3 hcz25_4
       try clear hcz26_0 hcz26_1 hcz26_2 hcz26_3 hcz26_4
       try clear hcz27_0 hcz27_1 hcz27_2 hcz27_3 hcz27_4
       try clear hcz4_0 hcz4_1 hcz4_2 hcz4_3 hcz4_4
       try clear hfz13_0
       try clear hfz14_0
       try clear hfz15_0
       try clear hfz16_0
       try clear hfz25_0
       try clear hfz26_0
       try clear hfz27_0
       try clear hfz4_0
       try clear hx365_0
       try clear hx367_0
       try clear p2
       try clear p365
       try clear p367
       try clear q365
       try clear q367
       obtain ⟨kq, x66_18, rfl, HA, HJ18, BK361, HB⟩ := hcut
       cases kq with
       | zero => exact absurd HA.out (by simp [portolanref04_Func.j2])
       | succ kj18 =>
        have H := HA.out
        clear HA
        simp only [portolanref04_Func.j2] at H
        by_cases c28 : x66_18 = true
        ·
         subst c28
         have H1 : (some false) = some r := by rw [if_pos rfl] at H; exact H
         clear H
         have H := H1
         clear H1
         obtain rfl := Option.some.inj H
         go_wp2
         repeat (go_quiet (fail); try go_wp2)
         go_ret
         exact ⟨by first | rfl | (simp [errW_none, errW_some] <;> rfl) | (simp [*, errW_none, errW_some] <;> rfl), bl HB⟩
        replace c28 := Bool.eq_false_iff.mpr c28
        subst c28
        have H1 : (if 0 ≤ x4_2 then (if x4_2 < (l0_0.length : Int) then (if (rd l0_0 x4_2) = 2 then (if x4_2 < (l0_1.length : Int) then ((portolanref04_within.f (rd l0_1 x4_2) 0 (wrap64 ((l0_0.length : Int) - 1))).bind fun t370 => (if t370 = true then (if 0 ≤ (rd l0_1 x4_2) then (if (rd l0_1 x4_2) < (l0_0.length : Int) then (if (rd l0_0 (rd l0_1 x4_2)) = 1 then (portolanref04_Func.l0 kj18 (l0_0.length : Int) (wrap64 (x4_2 + 1)) l0_0 l0_1 a0_2 a0_3 l0_4) else (some false)) else (none)) else (none)) else (some false))) else (none)) else (if x4_2 < (l0_1.length : Int) then (if (rd l0_1 x4_2) = (-1) then (portolanref04_Func.l0 kj18 (l0_0.length : Int) (wrap64 (x4_2 + 1)) l0_0 l0_1 a0_2 a0_3 l0_4) else (some false)) else (none))) else (none)) else (none)) = some r := by rw [if_neg (show ¬ (false = true) by decide)] at H; exact H
        clear H
        have H := H1
        clear H1
        by_cases c29 : 0 ≤ x4_2
        ·
         rw [if_pos c29] at H
         have c29b0 : decide (0 ≤ x4_2) = true := decide_eq_true c29
         clear c29
         by_cases c30 : x4_2 < (l0_0.length : Int)
         ·
          rw [if_pos c30] at H
          have c30b0 : decide (x4_2 < (l0_0.length : Int)) = true := decide_eq_true c30
          clear c30
          by_cases c31 : (rd l0_0 x4_2) = 2
          ·
           rw [if_pos c31] at H
           have c31b0 : ((rd l0_0 x4_2) == 2) = true := beq_iff_eq.mpr c31
           have c31b1 : ((rd l0_0 x4_2) != 2) = false := bne_eq_false_iff_eq.mpr c31
           clear c31
           by_cases c32 : x4_2 < (l0_1.length : Int)
           ·
            rw [if_pos c32] at H
            have c32b0 : decide (x4_2 < (l0_1.length : Int)) = true := decide_eq_true c32
            clear c32
            replace H := Option.bind_eq_some_iff.mp H
            obtain ⟨t370, A330, H⟩ := H
            replace H : (if t370 = true then (if 0 ≤ (rd l0_1 x4_2) then (if (rd l0_1 x4_2) < (l0_0.length : Int) then (if (rd l0_0 (rd l0_1 x4_2)) = 1 then (portolanref04_Func.l0 kj18 (l0_0.length : Int) (wrap64 (x4_2 + 1)) l0_0 l0_1 a0_2 a0_3 l0_4) else (some false)) else (none)) else (none)) else (some false)) = some r := H
            have A33 := Aside0.mk A330
            clear A330
            by_cases c34 : t370 = true
            ·
             subst c34
             have H1 : (if 0 ≤ (rd l0_1 x4_2) then (if (rd l0_1 x4_2) < (l0_0.length : Int) then (if (rd l0_0 (rd l0_1 x4_2)) = 1 then (portolanref04_Func.l0 kj18 (l0_0.length : Int) (wrap64 (x4_2 + 1)) l0_0 l0_1 a0_2 a0_3 l0_4) else (some false)) else (none)) else (none)) = some r := by rw [if_pos rfl] at H; exact H
             clear H
             have H := H1
             clear H1
             by_cases c35 : 0 ≤ (rd l0_1 x4_2)
             ·
              rw [if_pos c35] at H
              have c35b0 : decide (0 ≤ (rd l0_1 x4_2)) = true := decide_eq_true c35
              clear c35
              by_cases c36 : (rd l0_1 x4_2) < (l0_0.length : Int)
              ·
               rw [if_pos c36] at H
               have c36b0 : decide ((rd l0_1 x4_2) < (l0_0.length : Int)) = true := decide_eq_true c36
               clear c36
               by_cases c37 : (rd l0_0 (rd l0_1 x4_2)) = 1
               ·
                rw [if_pos c37] at H
                have c37b0 : ((rd l0_0 (rd l0_1 x4_2)) == 1) = true := beq_iff_eq.mpr c37
                have c37b1 : ((rd l0_0 (rd l0_1 x4_2)) != 1) = false := bne_eq_false_iff_eq.mpr c37
                clear c37
                have H' := Aside0.mk H
                clear H
                obtain ⟨hcz38_0, hcz38_1, hcz38_2, hcz38_3, hcz38_4⟩ := bk5 BK361.out
                have hfz38_0 := bf BK361.out
                have p368 : 0 ≤ (x4_2 : Int) := of_decide_eq_true (by assumption)
                have q368 : x4_2 < (l0_0.length : Int) := of_decide_eq_true (by assumption)
                obtain ⟨ad368, e368, hx368_0⟩ := Kd.at_int HR0_0.out x4_2 p368 q368
                cases e368
                replace hx368_0 := (HB.out.cell (World.block_lt_of_cell? w _ hx368_0)).trans hx368_0
                replace p368 := eq_true p368
                replace q368 := eq_true q368
                have p369 : 0 ≤ (x4_2 : Int) := of_decide_eq_true (by assumption)
                have q369 : x4_2 < (l0_1.length : Int) := of_decide_eq_true (by assumption)
                obtain ⟨ad369, e369, hx369_0⟩ := Kd.at_int HR0_1.out x4_2 p369 q369
                cases e369
                replace hx369_0 := (HB.out.cell (World.block_lt_of_cell? w _ hx369_0)).trans hx369_0
                replace p369 := eq_true p369
                replace q369 := eq_true q369
                have p371 : 0 ≤ (x4_2 : Int) := of_decide_eq_true (by assumption); have q371 : x4_2 < (l0_1.length : Int) := of_decide_eq_true (by assumption); obtain ⟨ad371, e371, hx371_0⟩ := Kd.at_int HR0_1.out x4_2 p371 q371; obtain rfl : ad369 = ad371 := (by injection e371); replace hx371_0 := (HB.out.cell (World.block_lt_of_cell? w _ hx371_0)).trans hx371_0; replace p371 := eq_true p371; replace q371 := eq_true q371; have p372 : 0 ≤ ((rd l0_1 x4_2) : Int) := of_decide_eq_true (by assumption); have q372 : (rd l0_1 x4_2) < (l0_0.length : Int) := of_decide_eq_true (by assumption); obtain ⟨ad372, e372, hx372_0⟩ := Kd.at_int HR0_0.out (rd l0_1 x4_2) p372 q372; obtain rfl : ad368 = ad372 := (by injection e372); replace hx372_0 := (HB.out.cell (World.block_lt_of_cell? w _ hx372_0)).trans hx372_0; replace p372 := eq_true p372; replace q372 := eq_true q372
                go_wp2_with (first | (go_at_call 56; (with_reducible refine (portolanref04_within.calls (rd l0_1 x4_2) 0 (wrap64 ((l0_0.length : Int) - 1)) true _ A33.out).mono ?_); rintro e w' ⟨rfl, ⟨nd, rfl⟩⟩; (try first | exact ⟨rfl, _, World.drewN_drewN _ _ _⟩ | exact ⟨rfl, _, Eq.trans (World.drewN_drewN _ _ _) (congrArg (World.drewN _) (Nat.add_assoc _ _ _))⟩)))
                repeat (go_quiet (first | (go_at_call 56; (with_reducible refine (portolanref04_within.calls (rd l0_1 x4_2) 0 (wrap64 ((l0_0.length : Int) - 1)) true _ A33.out).mono ?_); rintro e w' ⟨rfl, ⟨nd, rfl⟩⟩; (try first | exact ⟨rfl, _, World.drewN_drewN _ _ _⟩ | exact ⟨rfl, _, Eq.trans (World.drewN_drewN _ _ _) (congrArg (World.drewN _) (Nat.add_assoc _ _ _))⟩))); try go_wp2_with (first | (go_at_call 56; (with_reducible refine (portolanref04_within.calls (rd l0_1 x4_2) 0 (wrap64 ((l0_0.length : Int) - 1)) true _ A33.out).mono ?_); rintro e w' ⟨rfl, ⟨nd, rfl⟩⟩; (try first | exact ⟨rfl, _, World.drewN_drewN _ _ _⟩ | exact ⟨rfl, _, Eq.trans (World.drewN_drewN _ _ _) (congrArg (World.drewN _) (Nat.add_assoc _ _ _))⟩))))
                go_roundg kj18
                case measure => have := HJ1.out; have := HK2.out; have := HJ18.out; omega
                case rel => exact ⟨(wrap64 (x4_2 + 1)), (by first | rfl | (simp; done) | (simp [*]; done)), H', ⟨by have := HJ1.out; have := HK2.out; have := HJ18.out; omega⟩, ⟨bx BK361.out⟩, ⟨bl HB⟩⟩
               rw [if_neg c37] at H
               have c37b0 : ((rd l0_0 (rd l0_1 x4_2)) == 1) = false := beq_eq_false_iff_ne.mpr c37
               have c37b1 : ((rd l0_0 (rd l0_1 x4_2)) != 1) = true := bne_iff_ne.mpr c37
               obtain rfl := Option.some.inj H
               obtain ⟨hcz39_0, hcz39_1, hcz39_2, hcz39_3, hcz39_4⟩ := bk5 BK361.out
               have hfz39_0 := bf BK361.out
               have p368 : 0 ≤ (x4_2 : Int) := of_decide_eq_true (by assumption)
               have q368 : x4_2 < (l0_0.length : Int) := of_decide_eq_true (by assumption)
               obtain ⟨ad368, e368, hx368_0⟩ := Kd.at_int HR0_0.out x4_2 p368 q368
               cases e368
               replace hx368_0 := (HB.out.cell (World.block_lt_of_cell? w _ hx368_0)).trans hx368_0
               replace p368 := eq_true p368
               replace q368 := eq_true q368
               have p369 : 0 ≤ (x4_2 : Int) := of_decide_eq_true (by assumption)
               have q369 : x4_2 < (l0_1.length : Int) := of_decide_eq_true (by assumption)
               obtain ⟨ad369, e369, hx369_0⟩ := Kd.at_int HR0_1.out x4_2 p369 q369
               cases e369
               replace hx369_0 := (HB.out.cell (World.block_lt_of_cell? w _ hx369_0)).trans hx369_0
               replace p369 := eq_true p369
               replace q369 := eq_true q369
               have p371 : 0 ≤ (x4_2 : Int) := of_decide_eq_true (by assumption); have q371 : x4_2 < (l0_1.length : Int) := of_decide_eq_true (by assumption); obtain ⟨ad371, e371, hx371_0⟩ := Kd.at_int HR0_1.out x4_2 p371 q371; obtain rfl : ad369 = ad371 := (by injection e371); replace hx371_0 := (HB.out.cell (World.block_lt_of_cell? w _ hx371_0)).trans hx371_0; replace p371 := eq_true p371; replace q371 := eq_true q371; have p372 : 0 ≤ ((rd l0_1 x4_2) : Int) := of_decide_eq_true (by assumption); have q372 : (rd l0_1 x4_2) < (l0_0.length : Int) := of_decide_eq_true (by assumption); obtain ⟨ad372, e372, hx372_0⟩ := Kd.at_int HR0_0.out (rd l0_1 x4_2) p372 q372; obtain rfl : ad368 = ad372 := (by injection e372); replace hx372_0 := (HB.out.cell (World.block_lt_of_cell? w _ hx372_0)).trans hx372_0; replace p372 := eq_true p372; replace q372 := eq_true q372
               go_wp2_with (first | (go_at_call 56; (with_reducible refine (portolanref04_within.calls (rd l0_1 x4_2) 0 (wrap64 ((l0_0.length : Int) - 1)) true _ A33.out).mono ?_); rintro e w' ⟨rfl, ⟨nd, rfl⟩⟩; (try first | exact ⟨rfl, _, World.drewN_drewN _ _ _⟩ | exact ⟨rfl, _, Eq.trans (World.drewN_drewN _ _ _) (congrArg (World.drewN _) (Nat.add_assoc _ _ _))⟩)))
               repeat (go_quiet (first | (go_at_call 56; (with_reducible refine (portolanref04_within.calls (rd l0_1 x4_2) 0 (wrap64 ((l0_0.length : Int) - 1)) true _ A33.out).mono ?_); rintro e w' ⟨rfl, ⟨nd, rfl⟩⟩; (try first | exact ⟨rfl, _, World.drewN_drewN _ _ _⟩ | exact ⟨rfl, _, Eq.trans (World.drewN_drewN _ _ _) (congrArg (World.drewN _) (Nat.add_assoc _ _ _))⟩))); try go_wp2_with (first | (go_at_call 56; (with_reducible refine (portolanref04_within.calls (rd l0_1 x4_2) 0 (wrap64 ((l0_0.length : Int) - 1)) true _ A33.out).mono ?_); rintro e w' ⟨rfl, ⟨nd, rfl⟩⟩; (try first | exact ⟨rfl, _, World.drewN_drewN _ _ _⟩ | exact ⟨rfl, _, Eq.trans (World.drewN_drewN _ _ _) (congrArg (World.drewN _) (Nat.add_assoc _ _ _))⟩))))
               go_ret
               exact ⟨by first | rfl | (simp [errW_none, errW_some] <;> rfl) | (simp [*, errW_none, errW_some] <;> rfl), bl HB⟩
              rw [if_neg c36] at H
              exact absurd H (by simp)
             rw [if_neg c35] at H
             exact absurd H (by simp)
            replace c34 := Bool.eq_false_iff.mpr c34
            subst c34
            have H1 : (some false) = some r := by rw [if_neg (show ¬ (false = true) by decide)] at H; exact H
            clear H
            have H := H1
            clear H1
            obtain rfl := Option.some.inj H
            obtain ⟨hcz40_0, hcz40_1, hcz40_2, hcz40_3, hcz40_4⟩ := bk5 BK361.out
            have hfz40_0 := bf BK361.out
            have p368 : 0 ≤ (x4_2 : Int) := of_decide_eq_true (by assumption)
            have q368 : x4_2 < (l0_0.length : Int) := of_decide_eq_true (by assumption)
            obtain ⟨ad368, e368, hx368_0⟩ := Kd.at_int HR0_0.out x4_2 p368 q368
            cases e368
            replace hx368_0 := (HB.out.cell (World.block_lt_of_cell? w _ hx368_0)).trans hx368_0
            replace p368 := eq_true p368
            replace q368 := eq_true q368
            have p369 : 0 ≤ (x4_2 : Int) := of_decide_eq_true (by assumption)
            have q369 : x4_2 < (l0_1.length : Int) := of_decide_eq_true (by assumption)
            obtain ⟨ad369, e369, hx369_0⟩ := Kd.at_int HR0_1.out x4_2 p369 q369
            cases e369
            replace hx369_0 := (HB.out.cell (World.block_lt_of_cell? w _ hx369_0)).trans hx369_0
            replace p369 := eq_true p369
            replace q369 := eq_true q369
            go_wp2_with (first | (go_at_call 56; (with_reducible refine (portolanref04_within.calls (rd l0_1 x4_2) 0 (wrap64 ((l0_0.length : Int) - 1)) false _ A33.out).mono ?_); rintro e w' ⟨rfl, ⟨nd, rfl⟩⟩; (try first | exact ⟨rfl, _, World.drewN_drewN _ _ _⟩ | exact ⟨rfl, _, Eq.trans (World.drewN_drewN _ _ _) (congrArg (World.drewN _) (Nat.add_assoc _ _ _))⟩)))
            repeat (go_quiet (first | (go_at_call 56; (with_reducible refine (portolanref04_within.calls (rd l0_1 x4_2) 0 (wrap64 ((l0_0.length : Int) - 1)) false _ A33.out).mono ?_); rintro e w' ⟨rfl, ⟨nd, rfl⟩⟩; (try first | exact ⟨rfl, _, World.drewN_drewN _ _ _⟩ | exact ⟨rfl, _, Eq.trans (World.drewN_drewN _ _ _) (congrArg (World.drewN _) (Nat.add_assoc _ _ _))⟩))); try go_wp2_with (first | (go_at_call 56; (with_reducible refine (portolanref04_within.calls (rd l0_1 x4_2) 0 (wrap64 ((l0_0.length : Int) - 1)) false _ A33.out).mono ?_); rintro e w' ⟨rfl, ⟨nd, rfl⟩⟩; (try first | exact ⟨rfl, _, World.drewN_drewN _ _ _⟩ | exact ⟨rfl, _, Eq.trans (World.drewN_drewN _ _ _) (congrArg (World.drewN _) (Nat.add_assoc _ _ _))⟩))))
            go_ret
            exact ⟨by first | rfl | (simp [errW_none, errW_some] <;> rfl) | (simp [*, errW_none, errW_some] <;> rfl), bl HB⟩
           rw [if_neg c32] at H
           exact absurd H (by simp)
          rw [if_neg c31] at H
          have c31b0 : ((rd l0_0 x4_2) == 2) = false := beq_eq_false_iff_ne.mpr c31
          have c31b1 : ((rd l0_0 x4_2) != 2) = true := bne_iff_ne.mpr c31
          by_cases c41 : x4_2 < (l0_1.length : Int)
          ·
           rw [if_pos c41] at H
           have c41b0 : decide (x4_2 < (l0_1.length : Int)) = true := decide_eq_true c41
           clear c41
           by_cases c42 : (rd l0_1 x4_2) = (-1)
           ·
            rw [if_pos c42] at H
            have c42b0 : ((rd l0_1 x4_2) == (-1)) = true := beq_iff_eq.mpr c42
            have c42b1 : ((rd l0_1 x4_2) != (-1)) = false := bne_eq_false_iff_eq.mpr c42
            clear c42
            have H' := Aside0.mk H
            clear H
            obtain ⟨hcz43_0, hcz43_1, hcz43_2, hcz43_3, hcz43_4⟩ := bk5 BK361.out
            have hfz43_0 := bf BK361.out
            have p368 : 0 ≤ (x4_2 : Int) := of_decide_eq_true (by assumption)
            have q368 : x4_2 < (l0_0.length : Int) := of_decide_eq_true (by assumption)
            obtain ⟨ad368, e368, hx368_0⟩ := Kd.at_int HR0_0.out x4_2 p368 q368
            cases e368
            replace hx368_0 := (HB.out.cell (World.block_lt_of_cell? w _ hx368_0)).trans hx368_0
            replace p368 := eq_true p368
            replace q368 := eq_true q368
            have p373 : 0 ≤ (x4_2 : Int) := of_decide_eq_true (by assumption)
            have q373 : x4_2 < (l0_1.length : Int) := of_decide_eq_true (by assumption)
            obtain ⟨ad373, e373, hx373_0⟩ := Kd.at_int HR0_1.out x4_2 p373 q373
            cases e373
            replace hx373_0 := (HB.out.cell (World.block_lt_of_cell? w _ hx373_0)).trans hx373_0
            replace p373 := eq_true p373
            replace q373 := eq_true q373
            go_wp2
            repeat (go_quiet (fail); try go_wp2)
            go_roundg kj18
            case measure => have := HJ1.out; have := HK2.out; have := HJ18.out; omega
            case rel => exact ⟨(wrap64 (x4_2 + 1)), (by first | rfl | (simp; done) | (simp [*]; done)), H', ⟨by have := HJ1.out; have := HK2.out; have := HJ18.out; omega⟩, ⟨bx BK361.out⟩, ⟨bl HB⟩⟩
           rw [if_neg c42] at H
           have c42b0 : ((rd l0_1 x4_2) == (-1)) = false := beq_eq_false_iff_ne.mpr c42
           have c42b1 : ((rd l0_1 x4_2) != (-1)) = true := bne_iff_ne.mpr c42
           obtain rfl := Option.some.inj H
           obtain ⟨hcz44_0, hcz44_1, hcz44_2, hcz44_3, hcz44_4⟩ := bk5 BK361.out
           have hfz44_0 := bf BK361.out
           have p368 : 0 ≤ (x4_2 : Int) := of_decide_eq_true (by assumption)
           have q368 : x4_2 < (l0_0.length : Int) := of_decide_eq_true (by assumption)
           obtain ⟨ad368, e368, hx368_0⟩ := Kd.at_int HR0_0.out x4_2 p368 q368
           cases e368
           replace hx368_0 := (HB.out.cell (World.block_lt_of_cell? w _ hx368_0)).trans hx368_0
           replace p368 := eq_true p368
           replace q368 := eq_true q368
           have p373 : 0 ≤ (x4_2 : Int) := of_decide_eq_true (by assumption)
           have q373 : x4_2 < (l0_1.length : Int) := of_decide_eq_true (by assumption)
           obtain ⟨ad373, e373, hx373_0⟩ := Kd.at_int HR0_1.out x4_2 p373 q373
           cases e373
           replace hx373_0 := (HB.out.cell (World.block_lt_of_cell? w _ hx373_0)).trans hx373_0
           replace p373 := eq_true p373
           replace q373 := eq_true q373
           go_wp2
           repeat (go_quiet (fail); try go_wp2)
           go_ret
           exact ⟨by first | rfl | (simp [errW_none, errW_some] <;> rfl) | (simp [*, errW_none, errW_some] <;> rfl), bl HB⟩
          rw [if_neg c41] at H
          exact absurd H (by simp)
         rw [if_neg c30] at H
         exact absurd H (by simp)
        rw [if_neg c29] at H
        exact absurd H (by simp)
     rw [if_neg c18] at H
     have c18b0 : decide (x4_2 < (l0_0.length : Int)) = false := decide_eq_false c18
     clear c18
     have H' := Aside0.mk H
     clear H
     go_wp2
     repeat (go_quiet (fail); try go_wp2)
     go_loopg [5] k2 (fun kq v5 w' => ∃ (x5_3 : Int), v5 = .int .i64 x5_3 ∧ Aside0 (portolanref04_Func.l1 kq x5_3 l0_0 l0_1 a0_2 a0_3 l0_4 = some r) ∧ Aside0 (kq ≤ k2) ∧ Aside0 (w'.heap[gb361]? = some (.cells #[(.slice A0_0 l0_0.length c0_0), (.slice A0_1 l0_1.length c0_1), .int .i64 a0_2, .int .i64 a0_3, (.slice A0_4 l0_4.length c0_4)] 30 (0, 0))) ∧ Aside0 (Below w.heap.size w w'))
     case atStart => exact ⟨(0), (by first | rfl | (simp; done) | (simp [*]; done)), H', ⟨Nat.le_refl _⟩, ⟨bx BK361.out⟩, ⟨bl HB⟩⟩
     case round =>
      clear H'
      try clear c1
      try clear c2
      try clear p2
      try clear c3
      try clear p3
      try clear q3
      try clear hx3
      try clear c4
      try clear c5
      try clear c5b0
      try clear c5b1
      try clear c6
      try clear c6b0
      try clear c6b1
      try clear c6b2
      try clear p6
      try clear c9
      try clear c11
      try clear c17
      try clear c18
      try clear c18b0
      try clear c20
      try clear c20b0
      try clear c21
      try clear c21b0
      try clear c23
      try clear c24
      try clear c24b0
      try clear c28
      try clear c29
      try clear c29b0
      try clear c30
      try clear c30b0
      try clear c31
      try clear c31b0
      try clear c31b1
      try clear c32
      try clear c32b0
      try clear c34
      try clear c35
      try clear c35b0
      try clear c36
      try clear c36b0
      try clear p36
      try clear q36
      try clear hx36
      try clear c37
      try clear c37b0
      try clear c37b1
      try clear p37
      try clear q37
      try clear hx37
      try clear c41
      try clear c41b0
      try clear c42
      try clear c42b0
      try clear c42b1
      try clear hcz13_0 hcz13_1 hcz13_2 hcz13_3 hcz13_4
      try clear hcz14_0 hcz14_1 hcz14_2 hcz14_3 hcz14_4
      try clear hcz15_0 hcz15_1 hcz15_2 hcz15_3 hcz15_4
      try clear hcz16_0 hcz16_1 hcz16_2 hcz16_3 hcz16_4
      try clear hcz25_0 hcz25_1 hcz25_2 hcz25_3 hcz25_4
      try clear hcz26_0 hcz26_1 hcz26_2 hcz26_3 hcz26_4
      try clear hcz27_0 hcz27_1 hcz27_2 hcz27_3 hcz27_4
      try clear hcz38_0 hcz38_1 hcz38_2 hcz38_3 hcz38_4
      try clear hcz39_0 hcz39_1 hcz39_2 hcz39_3 hcz39_4
      try clear hcz40_0 hcz40_1 hcz40_2 hcz40_3 hcz40_4
      try clear hcz43_0 hcz43_1 hcz43_2 hcz43_3 hcz43_4
      try clear hcz44_0 hcz44_1 hcz44_2 hcz44_3 hcz44_4
      try clear hcz4_0 hcz4_1 hcz4_2 hcz4_3 hcz4_4
      try clear hfz13_0
      try clear hfz14_0
      try clear hfz15_0
      try clear hfz16_0
      try clear hfz25_0
      try clear hfz26_0
      try clear hfz27_0
      try clear hfz38_0
      try clear hfz39_0
      try clear hfz40_0
      try clear hfz43_0
      try clear hfz44_0
      try clear hfz4_0
      try clear hx365_0
      try clear hx367_0
      try clear hx368_0
      try clear hx369_0
      try clear hx371_0
      try clear hx372_0
      try clear hx373_0
      try clear p2
      try clear p3
      try clear p365
      try clear p367
      try clear p368
      try clear p369
      try clear p371
      try clear p372
      try clear p373
      try clear q3
      try clear q365
      try clear q367
      try clear q368
      try clear q369
      try clear q371
      try clear q372
      try clear q373
      obtain ⟨x5_3, rfl, HA, HK3, BK361, HB⟩ := hrel
      cases gk with
      | zero => exact absurd HA.out (by simp [portolanref04_Func.l1])
      | succ k3 =>
       have H := HA.out
       clear HA
       simp only [portolanref04_Func.l1] at H
       by_cases c45 : x5_3 < (l0_4.length : Int)
       ·
        rw [if_pos c45] at H
        have c45b0 : decide (x5_3 < (l0_4.length : Int)) = true := decide_eq_true c45
        clear c45
        by_cases c46 : 0 ≤ x5_3
        ·
         rw [if_pos c46] at H
         have c46b0 : decide (0 ≤ x5_3) = true := decide_eq_true c46
         clear c46
         replace H := Option.bind_eq_some_iff.mp H
         obtain ⟨t375, A470, H⟩ := H
         replace H : (if t375 = true then (portolanref04_Func.l2 k3 x5_3 ((rd_T40 l0_4 x5_3).f0) 0 l0_0 l0_1 a0_2 a0_3 l0_4) else (some false)) = some r := H
         have A47 := Aside0.mk A470
         clear A470
         by_cases c48 : t375 = true
         ·
          subst c48
          have H1 : (portolanref04_Func.l2 k3 x5_3 ((rd_T40 l0_4 x5_3).f0) 0 l0_0 l0_1 a0_2 a0_3 l0_4) = some r := by rw [if_pos rfl] at H; exact H
          clear H
          have H := H1
          clear H1
          have H' := Aside0.mk H
          clear H
          obtain ⟨hcz49_0, hcz49_1, hcz49_2, hcz49_3, hcz49_4⟩ := bk5 BK361.out
          have hfz49_0 := bf BK361.out
          have p374 : 0 ≤ (x5_3 : Int) := of_decide_eq_true (by assumption)
          have q374 : x5_3 < (l0_4.length : Int) := of_decide_eq_true (by assumption)
          obtain ⟨ad374, A374_0, c374_0, e374, hx374_0, hl374_0, hi374_0⟩ := at_T40 HR0_4.out x5_3 p374 q374
          cases e374
          replace hx374_0 := (HB.out.cell (World.block_lt_of_cell? w _ hx374_0)).trans hx374_0
          have HR374_0 := Aside0.mk hi374_0
          have HC374_0 := Aside0.mk hl374_0
          clear hi374_0 hl374_0
          replace p374 := eq_true p374
          replace q374 := eq_true q374
          go_wp2_with (first | (go_at_call 56; (with_reducible refine (portolanref04_within.calls (((rd_T40 l0_4 x5_3).f0).length : Int) 1 40 true _ A47.out).mono ?_); rintro e w' ⟨rfl, ⟨nd, rfl⟩⟩; (try first | exact ⟨rfl, _, World.drewN_drewN _ _ _⟩ | exact ⟨rfl, _, Eq.trans (World.drewN_drewN _ _ _) (congrArg (World.drewN _) (Nat.add_assoc _ _ _))⟩)))
          repeat (go_quiet (first | (go_at_call 56; (with_reducible refine (portolanref04_within.calls (((rd_T40 l0_4 x5_3).f0).length : Int) 1 40 true _ A47.out).mono ?_); rintro e w' ⟨rfl, ⟨nd, rfl⟩⟩; (try first | exact ⟨rfl, _, World.drewN_drewN _ _ _⟩ | exact ⟨rfl, _, Eq.trans (World.drewN_drewN _ _ _) (congrArg (World.drewN _) (Nat.add_assoc _ _ _))⟩))); try go_wp2_with (first | (go_at_call 56; (with_reducible refine (portolanref04_within.calls (((rd_T40 l0_4 x5_3).f0).length : Int) 1 40 true _ A47.out).mono ?_); rintro e w' ⟨rfl, ⟨nd, rfl⟩⟩; (try first | exact ⟨rfl, _, World.drewN_drewN _ _ _⟩ | exact ⟨rfl, _, Eq.trans (World.drewN_drewN _ _ _) (congrArg (World.drewN _) (Nat.add_assoc _ _ _))⟩))))
          go_loopg [7] k3 (fun kq v7 w' => ∃ (x7_4 : Int), v7 = .int .i64 x7_4 ∧ Aside0 (portolanref04_Func.l2 kq x5_3 ((rd_T40 l0_4 x5_3).f0) x7_4 l0_0 l0_1 a0_2 a0_3 l0_4 = some r) ∧ Aside0 (kq ≤ k3) ∧ Aside0 (w'.heap[gb361]? = some (.cells #[(.slice A0_0 l0_0.length c0_0), (.slice A0_1 l0_1.length c0_1), .int .i64 a0_2, .int .i64 a0_3, (.slice (some ad374) l0_4.length c0_4)] 30 (0, 0))) ∧ Aside0 (Below w.heap.size w w'))
          case atStart => exact ⟨(0), (by first | rfl | (simp; done) | (simp [*]; done)), H', ⟨Nat.le_refl _⟩, ⟨bx BK361.out⟩, ⟨bl HB⟩⟩
          case round =>
           clear H'
           try clear c1
           try clear c2
           try clear p2
           try clear c3
           try clear p3
           try clear q3
           try clear hx3
           try clear c4
           try clear c5
           try clear c5b0
           try clear c5b1
           try clear c6
           try clear c6b0
           try clear c6b1
           try clear c6b2
           try clear p6
           try clear c9
           try clear c11
           try clear c17
           try clear c18
           try clear c18b0
           try clear c20
           try clear c20b0
           try clear c21
           try clear c21b0
           try clear c23
           try clear c24
           try clear c24b0
           try clear c28
           try clear c29
           try clear c29b0
           try clear c30
           try clear c30b0
           try clear c31
           try clear c31b0
           try clear c31b1
           try clear c32
           try clear c32b0
           try clear c34
           try clear c35
           try clear c35b0
           try clear c36
           try clear c36b0
           try clear p36
           try clear q36
           try clear hx36
           try clear c37
           try clear c37b0
           try clear c37b1
           try clear p37
           try clear q37
           try clear hx37
           try clear c41
           try clear c41b0
           try clear c42
           try clear c42b0
           try clear c42b1
           try clear c45
           try clear c45b0
           try clear c46
           try clear c46b0
           try clear c48
           try clear hcz13_0 hcz13_1 hcz13_2 hcz13_3 hcz13_4
           try clear hcz14_0 hcz14_1 hcz14_2 hcz14_3 hcz14_4
           try clear hcz15_0 hcz15_1 hcz15_2 hcz15_3 hcz15_4
           try clear hcz16_0 hcz16_1 hcz16_2 hcz16_3 hcz16_4
           try clear hcz25_0 hcz25_1 hcz25_2 hcz25_3 hcz25_4
           try clear hcz26_0 hcz26_1 hcz26_2 hcz26_3 hcz26_4
           try clear hcz27_0 hcz27_1 hcz27_2 hcz27_3 hcz27_4
           try clear hcz38_0 hcz38_1 hcz38_2 hcz38_3 hcz38_4
           try clear hcz39_0 hcz39_1 hcz39_2 hcz39_3 hcz39_4
           try clear hcz40_0 hcz40_1 hcz40_2 hcz40_3 hcz40_4
           try clear hcz43_0 hcz43_1 hcz43_2 hcz43_3 hcz43_4
           try clear hcz44_0 hcz44_1 hcz44_2 hcz44_3 hcz44_4
           try clear hcz49_0 hcz49_1 hcz49_2 hcz49_3 hcz49_4
           try clear hcz4_0 hcz4_1 hcz4_2 hcz4_3 hcz4_4
           try clear hfz13_0
           try clear hfz14_0
           try clear hfz15_0
           try clear hfz16_0
           try clear hfz25_0
           try clear hfz26_0
           try clear hfz27_0
           try clear hfz38_0
           try clear hfz39_0
           try clear hfz40_0
           try clear hfz43_0
           try clear hfz44_0
           try clear hfz49_0
           try clear hfz4_0
           try clear hx365_0
           try clear hx367_0
           try clear hx368_0
           try clear hx369_0
           try clear hx371_0
           try clear hx372_0
           try clear hx373_0
           try clear hx374_0
           try clear p2
           try clear p3
           try clear p36
           try clear p365
           try clear p367
           try clear p368
           try clear p369
           try clear p37
           try clear p371
           try clear p372
           try clear p373
           try clear p374
           try clear p6
           try clear q3
           try clear q36
           try clear q365
           try clear q367
           try clear q368
           try clear q369
           try clear q37
           try clear q371
           try clear q372
           try clear q373
           try clear q374
           obtain ⟨x7_4, rfl, HA, HK4, BK361, HB⟩ := hrel
           cases gk with
           | zero => exact absurd HA.out (by simp [portolanref04_Func.l2])
           | succ k4 =>
            have H := HA.out
            clear HA
            simp only [portolanref04_Func.l2] at H
            by_cases c50 : x7_4 < (((rd_T40 l0_4 x5_3).f0).length : Int)
            ·
             rw [if_pos c50] at H
             have c50b0 : decide (x7_4 < (((rd_T40 l0_4 x5_3).f0).length : Int)) = true := decide_eq_true c50
             clear c50
             by_cases c51 : 0 ≤ x7_4
             ·
              rw [if_pos c51] at H
              have c51b0 : decide (0 ≤ x7_4) = true := decide_eq_true c51
              clear c51
              replace H := Option.bind_eq_some_iff.mp H
              obtain ⟨t377, A520, H⟩ := H
              replace H : (if (t377 != (x7_4 == (wrap64 ((((rd_T40 l0_4 x5_3).f0).length : Int) - 1)))) = true then (some false) else (portolanref04_Func.l2 k4 x5_3 ((rd_T40 l0_4 x5_3).f0) (wrap64 (x7_4 + 1)) l0_0 l0_1 a0_2 a0_3 l0_4)) = some r := H
              have A52 := Aside0.mk A520
              clear A520
              by_cases c53 : (t377 != (x7_4 == (wrap64 ((((rd_T40 l0_4 x5_3).f0).length : Int) - 1)))) = true
              ·
               rw [if_pos c53] at H
               have c53b0 : (t377 != (x7_4 == (wrap64 ((((rd_T40 l0_4 x5_3).f0).length : Int) - 1)))) = true := c53
               (try (have c53b1 : decide (t377 = (x7_4 == (wrap64 ((((rd_T40 l0_4 x5_3).f0).length : Int) - 1)))) = false := by simpa using c53))
               (try (have c53b2 : (t377 == (x7_4 == (wrap64 ((((rd_T40 l0_4 x5_3).f0).length : Int) - 1)))) = false := by simpa using c53))
               (try (have c53b3 : ¬ (t377 = (x7_4 == (wrap64 ((((rd_T40 l0_4 x5_3).f0).length : Int) - 1)))) := by simpa using c53))
               clear c53
               obtain rfl := Option.some.inj H
               have p376 : 0 ≤ (x7_4 : Int) := of_decide_eq_true (by assumption)
               have q376 : x7_4 < (((rd_T40 l0_4 x5_3).f0).length : Int) := of_decide_eq_true (by assumption)
               obtain ⟨ad376, A376_6, c376_6, e376, hx376_0, hx376_1, hx376_2, hx376_3, hx376_4, hx376_5, hx376_6, hl376_6, hi376_6⟩ := at_T44 HR374_0.out x7_4 p376 q376
               cases e376
               replace hx376_0 := (HB.out.cell (World.block_lt_of_cell? w _ hx376_0)).trans hx376_0
               replace hx376_1 := (HB.out.cell (World.block_lt_of_cell? w _ hx376_1)).trans hx376_1
               replace hx376_2 := (HB.out.cell (World.block_lt_of_cell? w _ hx376_2)).trans hx376_2
               replace hx376_3 := (HB.out.cell (World.block_lt_of_cell? w _ hx376_3)).trans hx376_3
               replace hx376_4 := (HB.out.cell (World.block_lt_of_cell? w _ hx376_4)).trans hx376_4
               replace hx376_5 := (HB.out.cell (World.block_lt_of_cell? w _ hx376_5)).trans hx376_5
               replace hx376_6 := (HB.out.cell (World.block_lt_of_cell? w _ hx376_6)).trans hx376_6
               have HR376_6 := Aside0.mk hi376_6
               have HC376_6 := Aside0.mk hl376_6
               clear hi376_6 hl376_6
               replace p376 := eq_true p376
               replace q376 := eq_true q376
               go_wp2_with (first | (go_at_call 75; (with_reducible refine (portolanref04_Last.calls ((rd_T44 ((rd_T40 l0_4 x5_3).f0) x7_4).f0) t377 _ A52.out).mono ?_); rintro e w' ⟨rfl, ⟨nd, rfl⟩⟩; (try first | exact ⟨rfl, _, World.drewN_drewN _ _ _⟩ | exact ⟨rfl, _, Eq.trans (World.drewN_drewN _ _ _) (congrArg (World.drewN _) (Nat.add_assoc _ _ _))⟩)))
               repeat (go_quiet (first | (go_at_call 75; (with_reducible refine (portolanref04_Last.calls ((rd_T44 ((rd_T40 l0_4 x5_3).f0) x7_4).f0) t377 _ A52.out).mono ?_); rintro e w' ⟨rfl, ⟨nd, rfl⟩⟩; (try first | exact ⟨rfl, _, World.drewN_drewN _ _ _⟩ | exact ⟨rfl, _, Eq.trans (World.drewN_drewN _ _ _) (congrArg (World.drewN _) (Nat.add_assoc _ _ _))⟩))); try go_wp2_with (first | (go_at_call 75; (with_reducible refine (portolanref04_Last.calls ((rd_T44 ((rd_T40 l0_4 x5_3).f0) x7_4).f0) t377 _ A52.out).mono ?_); rintro e w' ⟨rfl, ⟨nd, rfl⟩⟩; (try first | exact ⟨rfl, _, World.drewN_drewN _ _ _⟩ | exact ⟨rfl, _, Eq.trans (World.drewN_drewN _ _ _) (congrArg (World.drewN _) (Nat.add_assoc _ _ _))⟩))))
               go_ret
               exact ⟨by first | rfl | (simp [errW_none, errW_some] <;> rfl) | (simp [*, errW_none, errW_some] <;> rfl), bl HB⟩
              rw [if_neg c53] at H
              have c53b0 : (t377 != (x7_4 == (wrap64 ((((rd_T40 l0_4 x5_3).f0).length : Int) - 1)))) = false := by simpa using c53
              (try (have c53b1 : decide (t377 = (x7_4 == (wrap64 ((((rd_T40 l0_4 x5_3).f0).length : Int) - 1)))) = true := by simpa using c53))
              (try (have c53b2 : (t377 == (x7_4 == (wrap64 ((((rd_T40 l0_4 x5_3).f0).length : Int) - 1)))) = true := by simpa using c53))
              clear c53
              have H' := Aside0.mk H
              clear H
              have p376 : 0 ≤ (x7_4 : Int) := of_decide_eq_true (by assumption)
              have q376 : x7_4 < (((rd_T40 l0_4 x5_3).f0).length : Int) := of_decide_eq_true (by assumption)
              obtain ⟨ad376, A376_6, c376_6, e376, hx376_0, hx376_1, hx376_2, hx376_3, hx376_4, hx376_5, hx376_6, hl376_6, hi376_6⟩ := at_T44 HR374_0.out x7_4 p376 q376
              cases e376
              replace hx376_0 := (HB.out.cell (World.block_lt_of_cell? w _ hx376_0)).trans hx376_0
              replace hx376_1 := (HB.out.cell (World.block_lt_of_cell? w _ hx376_1)).trans hx376_1
              replace hx376_2 := (HB.out.cell (World.block_lt_of_cell? w _ hx376_2)).trans hx376_2
              replace hx376_3 := (HB.out.cell (World.block_lt_of_cell? w _ hx376_3)).trans hx376_3
              replace hx376_4 := (HB.out.cell (World.block_lt_of_cell? w _ hx376_4)).trans hx376_4
              replace hx376_5 := (HB.out.cell (World.block_lt_of_cell? w _ hx376_5)).trans hx376_5
              replace hx376_6 := (HB.out.cell (World.block_lt_of_cell? w _ hx376_6)).trans hx376_6
              have HR376_6 := Aside0.mk hi376_6
              have HC376_6 := Aside0.mk hl376_6
              clear hi376_6 hl376_6
              replace p376 := eq_true p376
              replace q376 := eq_true q376
              go_wp2_with (first | (go_at_call 75; (with_reducible refine (portolanref04_Last.calls ((rd_T44 ((rd_T40 l0_4 x5_3).f0) x7_4).f0) t377 _ A52.out).mono ?_); rintro e w' ⟨rfl, ⟨nd, rfl⟩⟩; (try first | exact ⟨rfl, _, World.drewN_drewN _ _ _⟩ | exact ⟨rfl, _, Eq.trans (World.drewN_drewN _ _ _) (congrArg (World.drewN _) (Nat.add_assoc _ _ _))⟩)))
              repeat (go_quiet (first | (go_at_call 75; (with_reducible refine (portolanref04_Last.calls ((rd_T44 ((rd_T40 l0_4 x5_3).f0) x7_4).f0) t377 _ A52.out).mono ?_); rintro e w' ⟨rfl, ⟨nd, rfl⟩⟩; (try first | exact ⟨rfl, _, World.drewN_drewN _ _ _⟩ | exact ⟨rfl, _, Eq.trans (World.drewN_drewN _ _ _) (congrArg (World.drewN _) (Nat.add_assoc _ _ _))⟩))); try go_wp2_with (first | (go_at_call 75; (with_reducible refine (portolanref04_Last.calls ((rd_T44 ((rd_T40 l0_4 x5_3).f0) x7_4).f0) t377 _ A52.out).mono ?_); rintro e w' ⟨rfl, ⟨nd, rfl⟩⟩; (try first | exact ⟨rfl, _, World.drewN_drewN _ _ _⟩ | exact ⟨rfl, _, Eq.trans (World.drewN_drewN _ _ _) (congrArg (World.drewN _) (Nat.add_assoc _ _ _))⟩))))
              go_roundg k4
              case measure => have := HJ1.out; have := HK2.out; have := HK3.out; have := HK4.out; omega
              case rel => exact ⟨(wrap64 (x7_4 + 1)), (by first | rfl | (simp; done) | (simp [*]; done)), H', ⟨by have := HJ1.out; have := HK2.out; have := HK3.out; have := HK4.out; omega⟩, ⟨bx BK361.out⟩, ⟨bl HB⟩⟩
             rw [if_neg c51] at H
             exact absurd H (by simp)
            rw [if_neg c50] at H
            have c50b0 : decide (x7_4 < (((rd_T40 l0_4 x5_3).f0).length : Int)) = false := decide_eq_false c50
            clear c50
            have H' := Aside0.mk H
            clear H
            go_wp2
            repeat (go_quiet (fail); try go_wp2)
            go_roundg k4
            case measure => have := HJ1.out; have := HK2.out; have := HK3.out; have := HK4.out; omega
            case rel => exact ⟨(wrap64 (x5_3 + 1)), (by first | rfl | (simp; done) | (simp [*]; done)), H', ⟨by have := HJ1.out; have := HK2.out; have := HK3.out; have := HK4.out; omega⟩, ⟨bx BK361.out⟩, ⟨bl HB⟩⟩
         replace c48 := Bool.eq_false_iff.mpr c48
         subst c48
         have H1 : (some false) = some r := by rw [if_neg (show ¬ (false = true) by decide)] at H; exact H
         clear H
         have H := H1
         clear H1
         obtain rfl := Option.some.inj H
         obtain ⟨hcz54_0, hcz54_1, hcz54_2, hcz54_3, hcz54_4⟩ := bk5 BK361.out
         have hfz54_0 := bf BK361.out
         have p374 : 0 ≤ (x5_3 : Int) := of_decide_eq_true (by assumption)
         have q374 : x5_3 < (l0_4.length : Int) := of_decide_eq_true (by assumption)
         obtain ⟨ad374, A374_0, c374_0, e374, hx374_0, hl374_0, hi374_0⟩ := at_T40 HR0_4.out x5_3 p374 q374
         cases e374
         replace hx374_0 := (HB.out.cell (World.block_lt_of_cell? w _ hx374_0)).trans hx374_0
         have HR374_0 := Aside0.mk hi374_0
         have HC374_0 := Aside0.mk hl374_0
         clear hi374_0 hl374_0
         replace p374 := eq_true p374
         replace q374 := eq_true q374
         go_wp2_with (first | (go_at_call 56; (with_reducible refine (portolanref04_within.calls (((rd_T40 l0_4 x5_3).f0).length : Int) 1 40 false _ A47.out).mono ?_); rintro e w' ⟨rfl, ⟨nd, rfl⟩⟩; (try first | exact ⟨rfl, _, World.drewN_drewN _ _ _⟩ | exact ⟨rfl, _, Eq.trans (World.drewN_drewN _ _ _) (congrArg (World.drewN _) (Nat.add_assoc _ _ _))⟩)))
         repeat (go_quiet (first | (go_at_call 56; (with_reducible refine (portolanref04_within.calls (((rd_T40 l0_4 x5_3).f0).length : Int) 1 40 false _ A47.out).mono ?_); rintro e w' ⟨rfl, ⟨nd, rfl⟩⟩; (try first | exact ⟨rfl, _, World.drewN_drewN _ _ _⟩ | exact ⟨rfl, _, Eq.trans (World.drewN_drewN _ _ _) (congrArg (World.drewN _) (Nat.add_assoc _ _ _))⟩))); try go_wp2_with (first | (go_at_call 56; (with_reducible refine (portolanref04_within.calls (((rd_T40 l0_4 x5_3).f0).length : Int) 1 40 false _ A47.out).mono ?_); rintro e w' ⟨rfl, ⟨nd, rfl⟩⟩; (try first | exact ⟨rfl, _, World.drewN_drewN _ _ _⟩ | exact ⟨rfl, _, Eq.trans (World.drewN_drewN _ _ _) (congrArg (World.drewN _) (Nat.add_assoc _ _ _))⟩))))
         go_ret
         exact ⟨by first | rfl | (simp [errW_none, errW_some] <;> rfl) | (simp [*, errW_none, errW_some] <;> rfl), bl HB⟩
        rw [if_neg c46] at H
        exact absurd H (by simp)
       rw [if_neg c45] at H
       have c45b0 : decide (x5_3 < (l0_4.length : Int)) = false := decide_eq_false c45
       clear c45
       obtain rfl := Option.some.inj H
       obtain ⟨hcz55_0, hcz55_1, hcz55_2, hcz55_3, hcz55_4⟩ := bk5 BK361.out
       have hfz55_0 := bf BK361.out
       go_wp2
       repeat (go_quiet (fail); try go_wp2)
       go_ret
       exact ⟨by first | rfl | (simp [errW_none, errW_some] <;> rfl) | (simp [*, errW_none, errW_some] <;> rfl), bl HB⟩
end Go.Proofs.YtdmimhjmbdkhmaaDoor.X
