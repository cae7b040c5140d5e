/- Part of a proof about the Go function named in the last text of this claim. -/
import Derived.Test.YtdmimhjmbdkhmaaDoorZw
import Derived.Test.YtdmimhjmbdkhmaaDoorXx0
import Derived.Test.YtdmimhjmbdkhmaaDoorXx8
import Derived.Test.YtdmimhjmbdkhmaaDoorXx10
import Derived.Test.YtdmimhjmbdkhmaaDoorZh
set_option linter.unusedVariables false
set_option linter.unusedSimpArgs false
namespace Go.Proofs.YtdmimhjmbdkhmaaDoor.X
open Go.RowKit Go.Proofs.YtdmimhjmbdkhmaaDoorW.PrintWords Go.Proofs.YtdmimhjmbdkhmaaDoorW.PrintLast Go.Proofs.YtdmimhjmbdkhmaaDoorW.PrintMore
attribute [local go_sem] max2_int min2_int max_two min_two max_three min_three max_four min_four
set_option linter.unusedVariables false
set_option linter.unusedSimpArgs false
mutual
def portolanref04_Ins.j0 : Nat → Int → Bool → List (S30) → Int → Int → Int → Int → Int → Int → List Int → Option (Bool)
 | 0, _, _, _, _, _, _, _, _, _, _ => none
 | k + 1, x1, x31, x408000, x409000, x409001, x409002, x409003, x409004, x409005, x409006 => if x31 = true then (some false) else (if 0 ≤ x1 then (if x1 < (x408000.length : Int) then ((portolanref04_Uses.f k x409000 x409001 x409002 x409003 x409004 x409005 x409006).bind fun t414 => ((portolanref04_Sets.f x409000 x409001 x409002 x409003 x409004 x409005 x409006).bind fun bt417 => (if bt417.2 = true then (if t414.length < 17592186044416 then (portolanref04_Ins.j1 k (t414 ++ [bt417.1]) x408000 x409000 x409001 x409002 x409003 x409004 x409005 x409006 ((rd_T30 x408000 x1).f0) ((rd_T30 x408000 x1).f1) ((rd_T30 x408000 x1).f2) ((rd_T30 x408000 x1).f3) ((rd_T30 x408000 x1).f4)) else (none)) else (portolanref04_Ins.j1 k t414 x408000 x409000 x409001 x409002 x409003 x409004 x409005 x409006 ((rd_T30 x408000 x1).f0) ((rd_T30 x408000 x1).f1) ((rd_T30 x408000 x1).f2) ((rd_T30 x408000 x1).f3) ((rd_T30 x408000 x1).f4))))) else (none)) else (none))
def portolanref04_Ins.j1 : Nat → List Int → List (S30) → Int → Int → Int → Int → Int → Int → List Int → List Int → List Int → Int → Int → List (S40) → Option (Bool)
 | 0, _, _, _, _, _, _, _, _, _, _, _, _, _, _ => none
 | k + 1, x8, x408000, x409000, x409001, x409002, x409003, x409004, x409005, x409006, x414000, x414001, x414002, x414003, x414004 => portolanref04_Ins.l0 k x8 0 x408000 x409000 x409001 x409002 x409003 x409004 x409005 x409006 x414000 x414001 x414002 x414003 x414004
def portolanref04_Ins.l0 : Nat → List Int → Int → List (S30) → Int → Int → Int → Int → Int → Int → List Int → List Int → List Int → Int → Int → List (S40) → Option (Bool)
 | 0, _, _, _, _, _, _, _, _, _, _, _, _, _, _, _ => none
 | k + 1, x8, x11, x408000, x409000, x409001, x409002, x409003, x409004, x409005, x409006, x414000, x414001, x414002, x414003, x414004 => if x11 < (x8.length : Int) then (if 0 ≤ x11 then ((portolanref04_within.f (rd x8 x11) 0 (wrap64 ((x414000.length : Int) - 1))).bind fun t423 => (if t423 = true then (portolanref04_Ins.l0 k x8 (wrap64 (x11 + 1)) x408000 x409000 x409001 x409002 x409003 x409004 x409005 x409006 x414000 x414001 x414002 x414003 x414004) else (some false))) else (none)) else ((portolanref04_Next.f x409000 x409001 x409002 x409003 x409004 x409005 x409006).bind fun t424 => (portolanref04_Ins.l1 k t424 0 x408000 x409000 x409001 x409002 x409003 x409004 x409005 x409006 x414000 x414001 x414002 x414003 x414004))
def portolanref04_Ins.l1 : Nat → List Int → Int → List (S30) → Int → Int → Int → Int → Int → Int → List Int → List Int → List Int → Int → Int → List (S40) → Option (Bool)
 | 0, _, _, _, _, _, _, _, _, _, _, _, _, _, _, _ => none
 | k + 1, x12, x13, x408000, x409000, x409001, x409002, x409003, x409004, x409005, x409006, x414000, x414001, x414002, x414003, x414004 => if x13 < (x12.length : Int) then (if 0 ≤ x13 then ((portolanref04_within.f (rd x12 x13) 1 (wrap64 ((x414004.length : Int) - 1))).bind fun t428 => (if t428 = true then (portolanref04_Ins.l1 k x12 (wrap64 (x13 + 1)) x408000 x409000 x409001 x409002 x409003 x409004 x409005 x409006 x414000 x414001 x414002 x414003 x414004) else (some false))) else (none)) else (if x409000 = 19 then ((portolanref04_within.f x409004 0 (wrap64 ((x408000.length : Int) - 1))).bind fun t429 => (if t429 = true then (if 0 ≤ x409004 then (if x409004 < (x408000.length : Int) then (some ((x409006.length : Int) == ((rd_T30 x408000 x409004).f2))) else (none)) else (none)) else (some false))) else (if x409000 = 1 then ((portolanref04_within.f x409004 (-2147483648) 2147483648).bind fun t431 => (some t431)) else (if x409000 = 16 then ((portolanref04_within.f x409004 (-8) 8).bind fun t432 => (some t432)) else (if x409000 = 10 then ((portolanref04_within.f x409004 0 8).bind fun t433 => (if t433 = true then ((portolanref04_within.f x409005 0 8).bind fun t434 => (some t434)) else (some false))) else (if x409000 = 11 then ((portolanref04_within.f x409004 0 7).bind fun t435 => (some t435)) else (if x409000 = 12 then ((portolanref04_within.f x409004 0 7).bind fun t436 => (some t436)) else (if x409000 = 13 then ((portolanref04_within.f x409004 0 7).bind fun t437 => (some t437)) else (if x409000 = 14 then ((portolanref04_within.f x409004 0 7).bind fun t438 => (some t438)) else (if x409000 = 15 then ((portolanref04_within.f x409004 0 7).bind fun t439 => (some t439)) else (some true))))))))))
end
def portolanref04_Ins.f (k : Nat) (l0_0 : List (S30)) (a1 : Int) (a2_0 : Int) (a2_1 : Int) (a2_2 : Int) (a2_3 : Int) (a2_4 : Int) (a2_5 : Int) (l2_6 : List Int) : Option (Bool) := (portolanref04_within.f a1 0 (wrap64 ((l0_0.length : Int) - 1))).bind fun t409 => (if t409 = true then ((portolanref03_Parts.f a2_0).bind fun t410 => (if t410.toList = ([] : List UInt8) then (portolanref04_Ins.j0 k a1 true l0_0 a2_0 a2_1 a2_2 a2_3 a2_4 a2_5 l2_6) else ((portolanref04_bare.f a2_0 a2_1 a2_2 a2_3 a2_4 a2_5 l2_6).bind fun t411 => (portolanref04_Ins.j0 k a1 (!t411) l0_0 a2_0 a2_1 a2_2 a2_3 a2_4 a2_5 l2_6)))) else (portolanref04_Ins.j0 k a1 true l0_0 a2_0 a2_1 a2_2 a2_3 a2_4 a2_5 l2_6))
set_option maxHeartbeats 8000000 in
set_option maxRecDepth 100000 in
theorem portolanref04_Ins.calls (k : Nat) (A0_0 : Option Addr) (c0_0 : Nat) (l0_0 : List (S30)) (a1 : Int) (a2_0 : Int) (a2_1 : Int) (a2_2 : Int) (a2_3 : Int) (a2_4 : Int) (a2_5 : Int) (A2_6 : Option Addr) (c2_6 : Nat) (l2_6 : List Int) (r : Bool) (w : World) (hr0_0 : Kd.C k30 w A0_0 l0_0.length l0_0) (hc0_0 : l0_0.length ≤ c0_0) (hr2_6 : Kd.C (Kd.int .i64) w A2_6 l2_6.length l2_6) (hc2_6 : l2_6.length ≤ c2_6) (h : portolanref04_Ins.f k l0_0 a1 a2_0 a2_1 a2_2 a2_3 a2_4 a2_5 l2_6 = some r) :
 Calls Tryd.prog 58 #[.agg #[.slice A0_0 l0_0.length c0_0], .int .i64 a1, .agg #[.int .i64 a2_0, .int .i64 a2_1, .int .i64 a2_2, .int .i64 a2_3, .int .i64 a2_4, .int .i64 a2_5, .slice A2_6 l2_6.length c2_6]] w fun e w' => e = .returned (.bool r) ∧ Below w.heap.size w w' := by
 have hu24 := Tryd.underlying24
 have hu44 := Tryd.underlying44
 have hu30 := Tryd.underlying30
 have HR0_0 := Aside0.mk hr0_0
 have HC0_0 := Aside0.mk hc0_0
 clear hr0_0 hc0_0
 have HR2_6 := Aside0.mk hr2_6
 have HC2_6 := Aside0.mk hc2_6
 clear hr2_6 hc2_6
 have HB := Aside0.mk (Below.refl w.heap.size w)
 have H : ((portolanref04_within.f a1 0 (wrap64 ((l0_0.length : Int) - 1))).bind fun t409 => (if t409 = true then ((portolanref03_Parts.f a2_0).bind fun t410 => (if t410.toList = ([] : List UInt8) then (portolanref04_Ins.j0 k a1 true l0_0 a2_0 a2_1 a2_2 a2_3 a2_4 a2_5 l2_6) else ((portolanref04_bare.f a2_0 a2_1 a2_2 a2_3 a2_4 a2_5 l2_6).bind fun t411 => (portolanref04_Ins.j0 k a1 (!t411) l0_0 a2_0 a2_1 a2_2 a2_3 a2_4 a2_5 l2_6)))) else (portolanref04_Ins.j0 k a1 true l0_0 a2_0 a2_1 a2_2 a2_3 a2_4 a2_5 l2_6))) = some r := h
 clear h
 have HC4 := Aside0.mk H
 clear H
 go_enter Tryd.func58, Tryd.ntmps58
 go_upto_region 1 with (first | ((with_reducible refine gate_dst (N := 3) rfl ?_); (try (refine gate_guard (by rfl) ?_; dsimp only)); refine box_event ?hg (N := 3) ?hd (cs := #[.slice A0_0 l0_0.length c0_0]) (t := 24) ?hr ?_; (case hd => rfl); (case hg => rfl); (case hr => first | (go_simp; done) | (go_simp; rfl)); intro gb407 hg w5 hbox hb; have BK407 := Aside0.mk (hbox); have GW407 := ge hg (bl HB); have GE407 := ge hg (bl HB); replace HB := Aside0.mk (below_step (bl HB) hb); clear hb hbox hg) | ((with_reducible refine gate_dst (N := 5) rfl ?_); (try (refine gate_guard (by rfl) ?_; dsimp only)); refine box_event ?hg (N := 5) ?hd (cs := #[.int .i64 a2_0, .int .i64 a2_1, .int .i64 a2_2, .int .i64 a2_3, .int .i64 a2_4, .int .i64 a2_5, .slice A2_6 l2_6.length c2_6]) (t := 44) ?hr ?_; (case hd => rfl); (case hg => rfl); (case hr => first | (go_simp; done) | (go_simp; rfl)); intro gb408 hg w6 hbox hb; have BK408 := Aside0.mk (hbox); have GW408 := ge hg (bl HB); have GE408 := ge hg (bl HB); replace HB := Aside0.mk (below_step (bl HB) hb); have NB407_408 := Aside0.mk ((by rw [hg]; exact Nat.ne_of_lt (blk_lt (g := gb407) (o := .cells #[.slice A0_0 l0_0.length c0_0] 24 (0, 0)) (bx BK407.out)) : gb407 ≠ gb408)); have NB408_407 := Aside0.mk ((by rw [hg]; exact Nat.ne_of_gt (blk_lt (g := gb407) (o := .cells #[.slice A0_0 l0_0.length c0_0] 24 (0, 0)) (bx BK407.out)) : gb408 ≠ gb407)); replace BK407 := Aside0.mk (blk_below (bx BK407.out) hb); clear hb hbox hg))
 repeat (go_quiet (first | ((with_reducible refine gate_dst (N := 3) rfl ?_); (try (refine gate_guard (by rfl) ?_; dsimp only)); refine box_event ?hg (N := 3) ?hd (cs := #[.slice A0_0 l0_0.length c0_0]) (t := 24) ?hr ?_; (case hd => rfl); (case hg => rfl); (case hr => first | (go_simp; done) | (go_simp; rfl)); intro gb407 hg w5 hbox hb; have BK407 := Aside0.mk (hbox); have GW407 := ge hg (bl HB); have GE407 := ge hg (bl HB); replace HB := Aside0.mk (below_step (bl HB) hb); clear hb hbox hg) | ((with_reducible refine gate_dst (N := 5) rfl ?_); (try (refine gate_guard (by rfl) ?_; dsimp only)); refine box_event ?hg (N := 5) ?hd (cs := #[.int .i64 a2_0, .int .i64 a2_1, .int .i64 a2_2, .int .i64 a2_3, .int .i64 a2_4, .int .i64 a2_5, .slice A2_6 l2_6.length c2_6]) (t := 44) ?hr ?_; (case hd => rfl); (case hg => rfl); (case hr => first | (go_simp; done) | (go_simp; rfl)); intro gb408 hg w6 hbox hb; have BK408 := Aside0.mk (hbox); have GW408 := ge hg (bl HB); have GE408 := ge hg (bl HB); replace HB := Aside0.mk (below_step (bl HB) hb); have NB407_408 := Aside0.mk ((by rw [hg]; exact Nat.ne_of_lt (blk_lt (g := gb407) (o := .cells #[.slice A0_0 l0_0.length c0_0] 24 (0, 0)) (bx BK407.out)) : gb407 ≠ gb408)); have NB408_407 := Aside0.mk ((by rw [hg]; exact Nat.ne_of_gt (blk_lt (g := gb407) (o := .cells #[.slice A0_0 l0_0.length c0_0] 24 (0, 0)) (bx BK407.out)) : gb408 ≠ gb407)); replace BK407 := Aside0.mk (blk_below (bx BK407.out) hb); clear hb hbox hg)); go_upto_region 1 with (first | ((with_reducible refine gate_dst (N := 3) rfl ?_); (try (refine gate_guard (by rfl) ?_; dsimp only)); refine box_event ?hg (N := 3) ?hd (cs := #[.slice A0_0 l0_0.length c0_0]) (t := 24) ?hr ?_; (case hd => rfl); (case hg => rfl); (case hr => first | (go_simp; done) | (go_simp; rfl)); intro gb407 hg w5 hbox hb; have BK407 := Aside0.mk (hbox); have GW407 := ge hg (bl HB); have GE407 := ge hg (bl HB); replace HB := Aside0.mk (below_step (bl HB) hb); clear hb hbox hg) | ((with_reducible refine gate_dst (N := 5) rfl ?_); (try (refine gate_guard (by rfl) ?_; dsimp only)); refine box_event ?hg (N := 5) ?hd (cs := #[.int .i64 a2_0, .int .i64 a2_1, .int .i64 a2_2, .int .i64 a2_3, .int .i64 a2_4, .int .i64 a2_5, .slice A2_6 l2_6.length c2_6]) (t := 44) ?hr ?_; (case hd => rfl); (case hg => rfl); (case hr => first | (go_simp; done) | (go_simp; rfl)); intro gb408 hg w6 hbox hb; have BK408 := Aside0.mk (hbox); have GW408 := ge hg (bl HB); have GE408 := ge hg (bl HB); replace HB := Aside0.mk (below_step (bl HB) hb); have NB407_408 := Aside0.mk ((by rw [hg]; exact Nat.ne_of_lt (blk_lt (g := gb407) (o := .cells #[.slice A0_0 l0_0.length c0_0] 24 (0, 0)) (bx BK407.out)) : gb407 ≠ gb408)); have NB408_407 := Aside0.mk ((by rw [hg]; exact Nat.ne_of_gt (blk_lt (g := gb407) (o := .cells #[.slice A0_0 l0_0.length c0_0] 24 (0, 0)) (bx BK407.out)) : gb408 ≠ gb407)); replace BK407 := Aside0.mk (blk_below (bx BK407.out) hb); clear hb hbox hg)))
 (try simp only [Act.put, List.setIfInBounds_toArray, List.set_cons_zero, List.set_cons_succ])
 go_cut [31] (fun v31 wc => ∃ (kq : Nat) (x31_3 : Bool), v31 = .bool x31_3 ∧ Aside0 (portolanref04_Ins.j0 kq a1 x31_3 l0_0 a2_0 a2_1 a2_2 a2_3 a2_4 a2_5 l2_6 = some r) ∧ Aside0 (kq ≤ k) ∧ Aside0 (wc.heap[gb407]? = some (.cells #[(.slice A0_0 l0_0.length c0_0)] 24 (0, 0))) ∧ Aside0 (wc.heap[gb408]? = some (.cells #[.int .i64 a2_0, .int .i64 a2_1, .int .i64 a2_2, .int .i64 a2_3, .int .i64 a2_4, .int .i64 a2_5, (.slice A2_6 l2_6.length c2_6)] 44 (0, 0))) ∧ Aside0 (Below w.heap.size w wc))
 case first =>
  have H := HC4.out
  clear HC4
  replace H := Option.bind_eq_some_iff.mp H
  obtain ⟨t409, A70, H⟩ := H
  replace H : (if t409 = true then ((portolanref03_Parts.f a2_0).bind fun t410 => (if t410.toList = ([] : List UInt8) then (portolanref04_Ins.j0 k a1 true l0_0 a2_0 a2_1 a2_2 a2_3 a2_4 a2_5 l2_6) else ((portolanref04_bare.f a2_0 a2_1 a2_2 a2_3 a2_4 a2_5 l2_6).bind fun t411 => (portolanref04_Ins.j0 k a1 (!t411) l0_0 a2_0 a2_1 a2_2 a2_3 a2_4 a2_5 l2_6)))) else (portolanref04_Ins.j0 k a1 true l0_0 a2_0 a2_1 a2_2 a2_3 a2_4 a2_5 l2_6)) = some r := H
  have A7 := Aside0.mk A70
  clear A70
  by_cases c8 : t409 = true
  ·
   subst c8
   have H1 : ((portolanref03_Parts.f a2_0).bind fun t410 => (if t410.toList = ([] : List UInt8) then (portolanref04_Ins.j0 k a1 true l0_0 a2_0 a2_1 a2_2 a2_3 a2_4 a2_5 l2_6) else ((portolanref04_bare.f a2_0 a2_1 a2_2 a2_3 a2_4 a2_5 l2_6).bind fun t411 => (portolanref04_Ins.j0 k a1 (!t411) l0_0 a2_0 a2_1 a2_2 a2_3 a2_4 a2_5 l2_6)))) = some r := by rw [if_pos rfl] at H; exact H
   clear H
   have H := H1
   clear H1
   replace H := Option.bind_eq_some_iff.mp H
   obtain ⟨t410, A90, H⟩ := H
   replace H : (if t410.toList = ([] : List UInt8) then (portolanref04_Ins.j0 k a1 true l0_0 a2_0 a2_1 a2_2 a2_3 a2_4 a2_5 l2_6) else ((portolanref04_bare.f a2_0 a2_1 a2_2 a2_3 a2_4 a2_5 l2_6).bind fun t411 => (portolanref04_Ins.j0 k a1 (!t411) l0_0 a2_0 a2_1 a2_2 a2_3 a2_4 a2_5 l2_6))) = some r := H
   have A9 := Aside0.mk A90
   clear A90
   by_cases c10 : t410.toList = ([] : List UInt8)
   ·
    rw [if_pos c10] at H
    have c10b0 : (t410.toList == ([] : List UInt8)) = true := beq_iff_eq.mpr c10
    have c10b1 : (t410.toList != ([] : List UInt8)) = false := bne_eq_false_iff_eq.mpr c10
    clear c10
    (first | rw [c10b0] | (simp only [i64_w, i32_w]; rw [c10b0]) | skip)
    have H' := Aside0.mk H
    clear H
    have hnb11 := NB407_408.out
    have hnc11 := NB408_407.out
    have hcz12_0 := bk1 BK407.out
    have hfz12_0 := bf BK407.out
    go_wp2_with (first | (go_at_call 56; (with_reducible refine (portolanref04_within.calls a1 0 (wrap64 ((l0_0.length : Int) - 1)) true _ A7.out).mono ?_); rintro e w' ⟨rfl, ⟨nd, rfl⟩⟩; (try first | exact ⟨rfl, _, World.drewN_drewN _ _ _⟩ | exact ⟨rfl, _, Eq.trans (World.drewN_drewN _ _ _) (congrArg (World.drewN _) (Nat.add_assoc _ _ _))⟩); obtain ⟨hcz13_0, hcz13_1, hcz13_2, hcz13_3, hcz13_4, hcz13_5, hcz13_6⟩ := bk7 BK408.out; have hfz13_0 := bf BK408.out) | (go_at_call 67; (with_reducible refine (portolanref03_Parts.calls a2_0 t410 _ A9.out).mono ?_); rintro e w' ⟨rfl, ⟨nd, rfl⟩⟩; (try first | exact ⟨rfl, _, World.drewN_drewN _ _ _⟩ | exact ⟨rfl, _, Eq.trans (World.drewN_drewN _ _ _) (congrArg (World.drewN _) (Nat.add_assoc _ _ _))⟩)))
    repeat (go_quiet (first | (go_at_call 56; (with_reducible refine (portolanref04_within.calls a1 0 (wrap64 ((l0_0.length : Int) - 1)) true _ A7.out).mono ?_); rintro e w' ⟨rfl, ⟨nd, rfl⟩⟩; (try first | exact ⟨rfl, _, World.drewN_drewN _ _ _⟩ | exact ⟨rfl, _, Eq.trans (World.drewN_drewN _ _ _) (congrArg (World.drewN _) (Nat.add_assoc _ _ _))⟩); obtain ⟨hcz13_0, hcz13_1, hcz13_2, hcz13_3, hcz13_4, hcz13_5, hcz13_6⟩ := bk7 BK408.out; have hfz13_0 := bf BK408.out) | (go_at_call 67; (with_reducible refine (portolanref03_Parts.calls a2_0 t410 _ A9.out).mono ?_); rintro e w' ⟨rfl, ⟨nd, rfl⟩⟩; (try first | exact ⟨rfl, _, World.drewN_drewN _ _ _⟩ | exact ⟨rfl, _, Eq.trans (World.drewN_drewN _ _ _) (congrArg (World.drewN _) (Nat.add_assoc _ _ _))⟩))); try go_wp2_with (first | (go_at_call 56; (with_reducible refine (portolanref04_within.calls a1 0 (wrap64 ((l0_0.length : Int) - 1)) true _ A7.out).mono ?_); rintro e w' ⟨rfl, ⟨nd, rfl⟩⟩; (try first | exact ⟨rfl, _, World.drewN_drewN _ _ _⟩ | exact ⟨rfl, _, Eq.trans (World.drewN_drewN _ _ _) (congrArg (World.drewN _) (Nat.add_assoc _ _ _))⟩); obtain ⟨hcz13_0, hcz13_1, hcz13_2, hcz13_3, hcz13_4, hcz13_5, hcz13_6⟩ := bk7 BK408.out; have hfz13_0 := bf BK408.out) | (go_at_call 67; (with_reducible refine (portolanref03_Parts.calls a2_0 t410 _ A9.out).mono ?_); rintro e w' ⟨rfl, ⟨nd, rfl⟩⟩; (try first | exact ⟨rfl, _, World.drewN_drewN _ _ _⟩ | exact ⟨rfl, _, Eq.trans (World.drewN_drewN _ _ _) (congrArg (World.drewN _) (Nat.add_assoc _ _ _))⟩))))
    go_meet
    case rel => exact ⟨_, (true), (by first | rfl | (simp; done) | (simp [*]; done)), H', ⟨by first | omega | exact Nat.le_refl _⟩, ⟨bx BK407.out⟩, ⟨bx BK408.out⟩, ⟨bl HB⟩⟩
   rw [if_neg c10] at H
   have c10b0 : (t410.toList == ([] : List UInt8)) = false := beq_eq_false_iff_ne.mpr c10
   have c10b1 : (t410.toList != ([] : List UInt8)) = true := bne_iff_ne.mpr c10
   (first | rw [c10b0] | (simp only [i64_w, i32_w]; rw [c10b0]) | skip)
   replace H := Option.bind_eq_some_iff.mp H
   obtain ⟨t411, A140, H⟩ := H
   replace H : (portolanref04_Ins.j0 k a1 (!t411) l0_0 a2_0 a2_1 a2_2 a2_3 a2_4 a2_5 l2_6) = some r := H
   have A14 := Aside0.mk A140
   clear A140
   have H' := Aside0.mk H
   clear H
   have hnb15 := NB407_408.out
   have hnc15 := NB408_407.out
   have hcz16_0 := bk1 BK407.out
   have hfz16_0 := bf BK407.out
   go_wp2_with (first | (go_at_call 56; (with_reducible refine (portolanref04_within.calls a1 0 (wrap64 ((l0_0.length : Int) - 1)) true _ A7.out).mono ?_); rintro e w' ⟨rfl, ⟨nd, rfl⟩⟩; (try first | exact ⟨rfl, _, World.drewN_drewN _ _ _⟩ | exact ⟨rfl, _, Eq.trans (World.drewN_drewN _ _ _) (congrArg (World.drewN _) (Nat.add_assoc _ _ _))⟩); obtain ⟨hcz17_0, hcz17_1, hcz17_2, hcz17_3, hcz17_4, hcz17_5, hcz17_6⟩ := bk7 BK408.out; have hfz17_0 := bf BK408.out) | (go_at_call 67; (with_reducible refine (portolanref03_Parts.calls a2_0 t410 _ A9.out).mono ?_); rintro e w' ⟨rfl, ⟨nd, rfl⟩⟩; (try first | exact ⟨rfl, _, World.drewN_drewN _ _ _⟩ | exact ⟨rfl, _, Eq.trans (World.drewN_drewN _ _ _) (congrArg (World.drewN _) (Nat.add_assoc _ _ _))⟩)) | (go_at_call 76; (with_reducible refine (portolanref04_bare.calls a2_0 a2_1 a2_2 a2_3 a2_4 a2_5 _ _ l2_6 t411 _ ?side1 ?side2 A14.out).mono ?_); (case side1 => exact (Kd.C_below HR2_6.out (bl HB))); (case side2 => exact HC2_6.out); rintro e w18 ⟨rfl, hb⟩; replace BK407 := Aside0.mk (blk_below (bx BK407.out) hb); replace BK408 := Aside0.mk (blk_below (bx BK408.out) hb); replace HB := Aside0.mk (below_step (bl HB) hb); (try clear hb); (try clear hb2); (try clear hk); (try clear hi)))
   repeat (go_quiet (first | (go_at_call 56; (with_reducible refine (portolanref04_within.calls a1 0 (wrap64 ((l0_0.length : Int) - 1)) true _ A7.out).mono ?_); rintro e w' ⟨rfl, ⟨nd, rfl⟩⟩; (try first | exact ⟨rfl, _, World.drewN_drewN _ _ _⟩ | exact ⟨rfl, _, Eq.trans (World.drewN_drewN _ _ _) (congrArg (World.drewN _) (Nat.add_assoc _ _ _))⟩); obtain ⟨hcz17_0, hcz17_1, hcz17_2, hcz17_3, hcz17_4, hcz17_5, hcz17_6⟩ := bk7 BK408.out; have hfz17_0 := bf BK408.out) | (go_at_call 67; (with_reducible refine (portolanref03_Parts.calls a2_0 t410 _ A9.out).mono ?_); rintro e w' ⟨rfl, ⟨nd, rfl⟩⟩; (try first | exact ⟨rfl, _, World.drewN_drewN _ _ _⟩ | exact ⟨rfl, _, Eq.trans (World.drewN_drewN _ _ _) (congrArg (World.drewN _) (Nat.add_assoc _ _ _))⟩)) | (go_at_call 76; (with_reducible refine (portolanref04_bare.calls a2_0 a2_1 a2_2 a2_3 a2_4 a2_5 _ _ l2_6 t411 _ ?side1 ?side2 A14.out).mono ?_); (case side1 => exact (Kd.C_below HR2_6.out (bl HB))); (case side2 => exact HC2_6.out); rintro e w18 ⟨rfl, hb⟩; replace BK407 := Aside0.mk (blk_below (bx BK407.out) hb); replace BK408 := Aside0.mk (blk_below (bx BK408.out) hb); replace HB := Aside0.mk (below_step (bl HB) hb); (try clear hb); (try clear hb2); (try clear hk); (try clear hi))); try go_wp2_with (first | (go_at_call 56; (with_reducible refine (portolanref04_within.calls a1 0 (wrap64 ((l0_0.length : Int) - 1)) true _ A7.out).mono ?_); rintro e w' ⟨rfl, ⟨nd, rfl⟩⟩; (try first | exact ⟨rfl, _, World.drewN_drewN _ _ _⟩ | exact ⟨rfl, _, Eq.trans (World.drewN_drewN _ _ _) (congrArg (World.drewN _) (Nat.add_assoc _ _ _))⟩); obtain ⟨hcz17_0, hcz17_1, hcz17_2, hcz17_3, hcz17_4, hcz17_5, hcz17_6⟩ := bk7 BK408.out; have hfz17_0 := bf BK408.out) | (go_at_call 67; (with_reducible refine (portolanref03_Parts.calls a2_0 t410 _ A9.out).mono ?_); rintro e w' ⟨rfl, ⟨nd, rfl⟩⟩; (try first | exact ⟨rfl, _, World.drewN_drewN _ _ _⟩ | exact ⟨rfl, _, Eq.trans (World.drewN_drewN _ _ _) (congrArg (World.drewN _) (Nat.add_assoc _ _ _))⟩)) | (go_at_call 76; (with_reducible refine (portolanref04_bare.calls a2_0 a2_1 a2_2 a2_3 a2_4 a2_5 _ _ l2_6 t411 _ ?side1 ?side2 A14.out).mono ?_); (case side1 => exact (Kd.C_below HR2_6.out (bl HB))); (case side2 => exact HC2_6.out); rintro e w18 ⟨rfl, hb⟩; replace BK407 := Aside0.mk (blk_below (bx BK407.out) hb); replace BK408 := Aside0.mk (blk_below (bx BK408.out) hb); replace HB := Aside0.mk (below_step (bl HB) hb); (try clear hb); (try clear hb2); (try clear hk); (try clear hi))))
   go_meet
   case rel => exact ⟨_, (!t411), (by first | rfl | (simp; done) | (simp [*]; done)), H', ⟨by first | omega | exact Nat.le_refl _⟩, ⟨bx BK407.out⟩, ⟨bx BK408.out⟩, ⟨bl HB⟩⟩
  replace c8 := Bool.eq_false_iff.mpr c8
  subst c8
  have H1 : (portolanref04_Ins.j0 k a1 true l0_0 a2_0 a2_1 a2_2 a2_3 a2_4 a2_5 l2_6) = some r := by rw [if_neg (show ¬ (false = true) by decide)] at H; exact H
  clear H
  have H := H1
  clear H1
  have H' := Aside0.mk H
  clear H
  have hnb19 := NB407_408.out
  have hnc19 := NB408_407.out
  have hcz20_0 := bk1 BK407.out
  have hfz20_0 := bf BK407.out
  go_wp2_with (first | (go_at_call 56; (with_reducible refine (portolanref04_within.calls a1 0 (wrap64 ((l0_0.length : Int) - 1)) false _ A7.out).mono ?_); rintro e w' ⟨rfl, ⟨nd, rfl⟩⟩; (try first | exact ⟨rfl, _, World.drewN_drewN _ _ _⟩ | exact ⟨rfl, _, Eq.trans (World.drewN_drewN _ _ _) (congrArg (World.drewN _) (Nat.add_assoc _ _ _))⟩)))
  repeat (go_quiet (first | (go_at_call 56; (with_reducible refine (portolanref04_within.calls a1 0 (wrap64 ((l0_0.length : Int) - 1)) false _ A7.out).mono ?_); rintro e w' ⟨rfl, ⟨nd, rfl⟩⟩; (try first | exact ⟨rfl, _, World.drewN_drewN _ _ _⟩ | exact ⟨rfl, _, Eq.trans (World.drewN_drewN _ _ _) (congrArg (World.drewN _) (Nat.add_assoc _ _ _))⟩))); try go_wp2_with (first | (go_at_call 56; (with_reducible refine (portolanref04_within.calls a1 0 (wrap64 ((l0_0.length : Int) - 1)) false _ A7.out).mono ?_); rintro e w' ⟨rfl, ⟨nd, rfl⟩⟩; (try first | exact ⟨rfl, _, World.drewN_drewN _ _ _⟩ | exact ⟨rfl, _, Eq.trans (World.drewN_drewN _ _ _) (congrArg (World.drewN _) (Nat.add_assoc _ _ _))⟩))))
  go_meet
  case rel => exact ⟨_, (true), (by first | rfl | (simp; done) | (simp [*]; done)), H', ⟨by first | omega | exact Nat.le_refl _⟩, ⟨bx BK407.out⟩, ⟨bx BK408.out⟩, ⟨bl HB⟩⟩
 case rest =>
  clear HC4
  try clear c1
  try clear c2
  try clear p2
  try clear c5
  try clear p6
  try clear c8
  try clear c10
  try clear c10b0
  try clear c10b1
  try clear c11
  try clear c15
  try clear c19
  try clear hcz12_0
  try clear hcz13_0 hcz13_1 hcz13_2 hcz13_3 hcz13_4 hcz13_5 hcz13_6
  try clear hcz16_0
  try clear hcz17_0 hcz17_1 hcz17_2 hcz17_3 hcz17_4 hcz17_5 hcz17_6
  try clear hcz20_0
  try clear hfz12_0
  try clear hfz13_0
  try clear hfz16_0
  try clear hfz17_0
  try clear hfz20_0
  obtain ⟨kq, x31_3, rfl, HA, HJ3, BK407, BK408, HB⟩ := hcut
  cases kq with
  | zero => exact absurd HA.out (by simp [portolanref04_Ins.j0])
  | succ kj3 =>
   have H := HA.out
   clear HA
   simp only [portolanref04_Ins.j0] at H
   by_cases c21 : x31_3 = true
   ·
    subst c21
    have H1 : (some false) = some r := by rw [if_pos rfl] at H; exact H
    clear H
    have H := H1
    clear H1
    obtain rfl := Option.some.inj H
    go_wp2
    repeat (go_quiet (fail); try go_wp2)
    go_ret
    exact ⟨by first | rfl | (simp [errW_none, errW_some] <;> rfl) | (simp [*, errW_none, errW_some] <;> rfl), bl HB⟩
   replace c21 := Bool.eq_false_iff.mpr c21
   subst c21
   have H1 : (if 0 ≤ a1 then (if a1 < (l0_0.length : Int) then ((portolanref04_Uses.f kj3 a2_0 a2_1 a2_2 a2_3 a2_4 a2_5 l2_6).bind fun t414 => ((portolanref04_Sets.f a2_0 a2_1 a2_2 a2_3 a2_4 a2_5 l2_6).bind fun bt417 => (if bt417.2 = true then (if t414.length < 17592186044416 then (portolanref04_Ins.j1 kj3 (t414 ++ [bt417.1]) l0_0 a2_0 a2_1 a2_2 a2_3 a2_4 a2_5 l2_6 ((rd_T30 l0_0 a1).f0) ((rd_T30 l0_0 a1).f1) ((rd_T30 l0_0 a1).f2) ((rd_T30 l0_0 a1).f3) ((rd_T30 l0_0 a1).f4)) else (none)) else (portolanref04_Ins.j1 kj3 t414 l0_0 a2_0 a2_1 a2_2 a2_3 a2_4 a2_5 l2_6 ((rd_T30 l0_0 a1).f0) ((rd_T30 l0_0 a1).f1) ((rd_T30 l0_0 a1).f2) ((rd_T30 l0_0 a1).f3) ((rd_T30 l0_0 a1).f4))))) else (none)) else (none)) = some r := by rw [if_neg (show ¬ (false = true) by decide)] at H; exact H
   clear H
   have H := H1
   clear H1
   by_cases c22 : 0 ≤ a1
   ·
    rw [if_pos c22] at H
    have c22b0 : decide (0 ≤ a1) = true := decide_eq_true c22
    clear c22
    by_cases c23 : a1 < (l0_0.length : Int)
    ·
     rw [if_pos c23] at H
     have c23b0 : decide (a1 < (l0_0.length : Int)) = true := decide_eq_true c23
     clear c23
     replace H := Option.bind_eq_some_iff.mp H
     obtain ⟨t414, A240, H⟩ := H
     replace H : ((portolanref04_Sets.f a2_0 a2_1 a2_2 a2_3 a2_4 a2_5 l2_6).bind fun bt417 => (if bt417.2 = true then (if t414.length < 17592186044416 then (portolanref04_Ins.j1 kj3 (t414 ++ [bt417.1]) l0_0 a2_0 a2_1 a2_2 a2_3 a2_4 a2_5 l2_6 ((rd_T30 l0_0 a1).f0) ((rd_T30 l0_0 a1).f1) ((rd_T30 l0_0 a1).f2) ((rd_T30 l0_0 a1).f3) ((rd_T30 l0_0 a1).f4)) else (none)) else (portolanref04_Ins.j1 kj3 t414 l0_0 a2_0 a2_1 a2_2 a2_3 a2_4 a2_5 l2_6 ((rd_T30 l0_0 a1).f0) ((rd_T30 l0_0 a1).f1) ((rd_T30 l0_0 a1).f2) ((rd_T30 l0_0 a1).f3) ((rd_T30 l0_0 a1).f4)))) = some r := H
     have A24 := Aside0.mk A240
     clear A240
     replace H := Option.bind_eq_some_iff.mp H
     obtain ⟨⟨t417, t418⟩, A250, H⟩ := H
     replace H : (if t418 = true then (if t414.length < 17592186044416 then (portolanref04_Ins.j1 kj3 (t414 ++ [t417]) l0_0 a2_0 a2_1 a2_2 a2_3 a2_4 a2_5 l2_6 ((rd_T30 l0_0 a1).f0) ((rd_T30 l0_0 a1).f1) ((rd_T30 l0_0 a1).f2) ((rd_T30 l0_0 a1).f3) ((rd_T30 l0_0 a1).f4)) else (none)) else (portolanref04_Ins.j1 kj3 t414 l0_0 a2_0 a2_1 a2_2 a2_3 a2_4 a2_5 l2_6 ((rd_T30 l0_0 a1).f0) ((rd_T30 l0_0 a1).f1) ((rd_T30 l0_0 a1).f2) ((rd_T30 l0_0 a1).f3) ((rd_T30 l0_0 a1).f4))) = some r := H
     have A25 := Aside0.mk A250
     clear A250
     have HC26 := Aside0.mk H
     clear H
     have hnb27 := NB407_408.out
     have hnc27 := NB408_407.out
     have hcz28_0 := bk1 BK407.out
     have hfz28_0 := bf BK407.out
     have p412 : 0 ≤ (a1 : Int) := of_decide_eq_true (by assumption)
     have q412 : a1 < (l0_0.length : Int) := of_decide_eq_true (by assumption)
     obtain ⟨ad412, A412_0, c412_0, A412_1, c412_1, A412_4, c412_4, e412, hx412_0, hx412_1, hx412_2, hx412_3, hx412_4, hl412_0, hi412_0, hl412_1, hi412_1, hl412_4, hi412_4⟩ := at_T30 HR0_0.out a1 p412 q412
     cases e412
     replace hx412_0 := (HB.out.cell (World.block_lt_of_cell? w _ hx412_0)).trans hx412_0
     replace hx412_1 := (HB.out.cell (World.block_lt_of_cell? w _ hx412_1)).trans hx412_1
     replace hx412_2 := (HB.out.cell (World.block_lt_of_cell? w _ hx412_2)).trans hx412_2
     replace hx412_3 := (HB.out.cell (World.block_lt_of_cell? w _ hx412_3)).trans hx412_3
     replace hx412_4 := (HB.out.cell (World.block_lt_of_cell? w _ hx412_4)).trans hx412_4
     have HR412_0 := Aside0.mk hi412_0
     have HC412_0 := Aside0.mk hl412_0
     clear hi412_0 hl412_0
     have HR412_1 := Aside0.mk hi412_1
     have HC412_1 := Aside0.mk hl412_1
     clear hi412_1 hl412_1
     have HR412_4 := Aside0.mk hi412_4
     have HC412_4 := Aside0.mk hl412_4
     clear hi412_4 hl412_4
     replace p412 := eq_true p412
     replace q412 := eq_true q412
     go_upto_if 44 with (first | ((with_reducible refine gate_dst (N := 7) rfl ?_); (try (refine gate_guard (by rfl) ?_; dsimp only)); refine box_event ?hg (N := 7) ?hd (cs := #[.slice none 0 0, .slice none 0 0, .int .i64 0, .int .i64 0, .slice none 0 0]) (t := 30) ?hr ?_; (case hd => rfl); (case hg => rfl); (case hr => first | (go_simp; done) | (go_simp; rfl)); intro gb413 hg w29 hbox hb; have BK413 := Aside0.mk (hbox); have GW413 := ge hg (bl HB); have GE413 := ge hg (bl HB); replace HB := Aside0.mk (below_step (bl HB) hb); have NB407_413 := Aside0.mk ((by rw [hg]; exact Nat.ne_of_lt (blk_lt (g := gb407) (o := .cells #[.slice (some ad412) l0_0.length c0_0] 24 (0, 0)) (bx BK407.out)) : gb407 ≠ gb413)); have NB413_407 := Aside0.mk ((by rw [hg]; exact Nat.ne_of_gt (blk_lt (g := gb407) (o := .cells #[.slice (some ad412) l0_0.length c0_0] 24 (0, 0)) (bx BK407.out)) : gb413 ≠ gb407)); replace BK407 := Aside0.mk (blk_below (bx BK407.out) hb); have NB408_413 := Aside0.mk ((by rw [hg]; exact Nat.ne_of_lt (blk_lt (g := gb408) (o := .cells #[.int .i64 a2_0, .int .i64 a2_1, .int .i64 a2_2, .int .i64 a2_3, .int .i64 a2_4, .int .i64 a2_5, .slice A2_6 l2_6.length c2_6] 44 (0, 0)) (bx BK408.out)) : gb408 ≠ gb413)); have NB413_408 := Aside0.mk ((by rw [hg]; exact Nat.ne_of_gt (blk_lt (g := gb408) (o := .cells #[.int .i64 a2_0, .int .i64 a2_1, .int .i64 a2_2, .int .i64 a2_3, .int .i64 a2_4, .int .i64 a2_5, .slice A2_6 l2_6.length c2_6] 44 (0, 0)) (bx BK408.out)) : gb413 ≠ gb408)); replace BK408 := Aside0.mk (blk_below (bx BK408.out) hb); clear hb hbox hg; have hnb30 := NB413_407.out; have hnc30 := NB407_413.out; have hnb31 := NB413_408.out; have hnc31 := NB408_413.out; obtain ⟨hcz32_0, hcz32_1, hcz32_2, hcz32_3, hcz32_4⟩ := bk5 BK413.out; have hfz32_0 := bf BK413.out; obtain ⟨hcz33_0, hcz33_1, hcz33_2, hcz33_3, hcz33_4, hcz33_5, hcz33_6⟩ := bk7 BK408.out; have hfz33_0 := bf BK408.out) | (go_at_call 19; (with_reducible refine (portolanref04_Uses.calls kj3 a2_0 a2_1 a2_2 a2_3 a2_4 a2_5 _ _ l2_6 t414 _ ?side1 ?side2 A24.out).mono ?_); (case side1 => exact Kd.C_below HR2_6.out (bl HB)); (case side2 => exact HC2_6.out); rintro e w34 ⟨v415, rfl, ho0, hb⟩; have HO416 := Aside0.mk (Kd.R_lower ho0 (below_size (bl HB))); replace BK407 := Aside0.mk (blk_below (g := gb407) (o := .cells #[.slice (some ad412) l0_0.length c0_0] 24 (0, 0)) (by refine bp ?_; refine blk_far ?_ NB407_413.out _; refine bp ?_; refine blk_far ?_ NB407_413.out _; refine bp ?_; refine blk_far ?_ NB407_413.out _; refine bp ?_; refine blk_far ?_ NB407_413.out _; refine bp ?_; refine blk_far ?_ NB407_413.out _; refine bp ?_; exact BK407.out) hb); replace BK408 := Aside0.mk (blk_below (g := gb408) (o := .cells #[.int .i64 a2_0, .int .i64 a2_1, .int .i64 a2_2, .int .i64 a2_3, .int .i64 a2_4, .int .i64 a2_5, .slice A2_6 l2_6.length c2_6] 44 (0, 0)) (by refine bp ?_; refine blk_far ?_ NB408_413.out _; refine bp ?_; refine blk_far ?_ NB408_413.out _; refine bp ?_; refine blk_far ?_ NB408_413.out _; refine bp ?_; refine blk_far ?_ NB408_413.out _; refine bp ?_; refine blk_far ?_ NB408_413.out _; refine bp ?_; exact BK408.out) hb); replace BK413 := Aside0.mk (blk_below (g := gb413) (o := .cells #[.slice A412_0 ((rd_T30 l0_0 a1).f0).length c412_0, .slice A412_1 ((rd_T30 l0_0 a1).f1).length c412_1, .int .i64 ((rd_T30 l0_0 a1).f2), .int .i64 ((rd_T30 l0_0 a1).f3), .slice A412_4 ((rd_T30 l0_0 a1).f4).length c412_4] 30 (0, 0)) (by refine bp ?_; refine blk_put (cs := #[.slice A412_0 ((rd_T30 l0_0 a1).f0).length c412_0, .slice A412_1 ((rd_T30 l0_0 a1).f1).length c412_1, .int .i64 ((rd_T30 l0_0 a1).f2), .int .i64 ((rd_T30 l0_0 a1).f3), .slice none 0 0]) ?_ 4 _ rfl; refine bp ?_; refine blk_put (cs := #[.slice A412_0 ((rd_T30 l0_0 a1).f0).length c412_0, .slice A412_1 ((rd_T30 l0_0 a1).f1).length c412_1, .int .i64 ((rd_T30 l0_0 a1).f2), .int .i64 0, .slice none 0 0]) ?_ 3 _ rfl; refine bp ?_; refine blk_put (cs := #[.slice A412_0 ((rd_T30 l0_0 a1).f0).length c412_0, .slice A412_1 ((rd_T30 l0_0 a1).f1).length c412_1, .int .i64 0, .int .i64 0, .slice none 0 0]) ?_ 2 _ rfl; refine bp ?_; refine blk_put (cs := #[.slice A412_0 ((rd_T30 l0_0 a1).f0).length c412_0, .slice none 0 0, .int .i64 0, .int .i64 0, .slice none 0 0]) ?_ 1 _ rfl; refine bp ?_; refine blk_put (cs := #[.slice none 0 0, .slice none 0 0, .int .i64 0, .int .i64 0, .slice none 0 0]) ?_ 0 _ rfl; refine bp ?_; exact BK413.out) hb); replace HB := Aside0.mk (below_step (bl HB) hb); (try clear hb); (try clear hb2); (try clear hk); (try clear hi); (try clear ho0); obtain ⟨hcz35_0, hcz35_1, hcz35_2, hcz35_3, hcz35_4, hcz35_5, hcz35_6⟩ := bk7 BK408.out; have hfz35_0 := bf BK408.out) | (go_at_call 16; (with_reducible refine (portolanref04_Sets.calls a2_0 a2_1 a2_2 a2_3 a2_4 a2_5 _ _ l2_6 t417 t418 _ ?side1 ?side2 A25.out).mono ?_); (case side1 => exact Kd.Cx (Kd.C_below HR2_6.out HB.out)); (case side2 => exact HC2_6.out); rintro e w36 ⟨rfl, hb⟩; replace HO416 := Aside0.mk (Kd.R_below (Kd.Rx HO416.out) hb); replace BK407 := Aside0.mk (blk_below (bx BK407.out) hb); replace BK408 := Aside0.mk (blk_below (bx BK408.out) hb); replace BK413 := Aside0.mk (blk_below (bx BK413.out) hb); replace HB := Aside0.mk (below_step (bl HB) hb); (try clear hb); (try clear hb2); (try clear hk); (try clear hi)))
     repeat (go_quiet (first | ((with_reducible refine gate_dst (N := 7) rfl ?_); (try (refine gate_guard (by rfl) ?_; dsimp only)); refine box_event ?hg (N := 7) ?hd (cs := #[.slice none 0 0, .slice none 0 0, .int .i64 0, .int .i64 0, .slice none 0 0]) (t := 30) ?hr ?_; (case hd => rfl); (case hg => rfl); (case hr => first | (go_simp; done) | (go_simp; rfl)); intro gb413 hg w29 hbox hb; have BK413 := Aside0.mk (hbox); have GW413 := ge hg (bl HB); have GE413 := ge hg (bl HB); replace HB := Aside0.mk (below_step (bl HB) hb); have NB407_413 := Aside0.mk ((by rw [hg]; exact Nat.ne_of_lt (blk_lt (g := gb407) (o := .cells #[.slice (some ad412) l0_0.length c0_0] 24 (0, 0)) (bx BK407.out)) : gb407 ≠ gb413)); have NB413_407 := Aside0.mk ((by rw [hg]; exact Nat.ne_of_gt (blk_lt (g := gb407) (o := .cells #[.slice (some ad412) l0_0.length c0_0] 24 (0, 0)) (bx BK407.out)) : gb413 ≠ gb407)); replace BK407 := Aside0.mk (blk_below (bx BK407.out) hb); have NB408_413 := Aside0.mk ((by rw [hg]; exact Nat.ne_of_lt (blk_lt (g := gb408) (o := .cells #[.int .i64 a2_0, .int .i64 a2_1, .int .i64 a2_2, .int .i64 a2_3, .int .i64 a2_4, .int .i64 a2_5, .slice A2_6 l2_6.length c2_6] 44 (0, 0)) (bx BK408.out)) : gb408 ≠ gb413)); have NB413_408 := Aside0.mk ((by rw [hg]; exact Nat.ne_of_gt (blk_lt (g := gb408) (o := .cells #[.int .i64 a2_0, .int .i64 a2_1, .int .i64 a2_2, .int .i64 a2_3, .int .i64 a2_4, .int .i64 a2_5, .slice A2_6 l2_6.length c2_6] 44 (0, 0)) (bx BK408.out)) : gb413 ≠ gb408)); replace BK408 := Aside0.mk (blk_below (bx BK408.out) hb); clear hb hbox hg; have hnb30 := NB413_407.out; have hnc30 := NB407_413.out; have hnb31 := NB413_408.out; have hnc31 := NB408_413.out; obtain ⟨hcz32_0, hcz32_1, hcz32_2, hcz32_3, hcz32_4⟩ := bk5 BK413.out; have hfz32_0 := bf BK413.out; obtain ⟨hcz33_0, hcz33_1, hcz33_2, hcz33_3, hcz33_4, hcz33_5, hcz33_6⟩ := bk7 BK408.out; have hfz33_0 := bf BK408.out) | (go_at_call 19; (with_reducible refine (portolanref04_Uses.calls kj3 a2_0 a2_1 a2_2 a2_3 a2_4 a2_5 _ _ l2_6 t414 _ ?side1 ?side2 A24.out).mono ?_); (case side1 => exact Kd.C_below HR2_6.out (bl HB)); (case side2 => exact HC2_6.out); rintro e w34 ⟨v415, rfl, ho0, hb⟩; have HO416 := Aside0.mk (Kd.R_lower ho0 (below_size (bl HB))); replace BK407 := Aside0.mk (blk_below (g := gb407) (o := .cells #[.slice (some ad412) l0_0.length c0_0] 24 (0, 0)) (by refine bp ?_; refine blk_far ?_ NB407_413.out _; refine bp ?_; refine blk_far ?_ NB407_413.out _; refine bp ?_; refine blk_far ?_ NB407_413.out _; refine bp ?_; refine blk_far ?_ NB407_413.out _; refine bp ?_; refine blk_far ?_ NB407_413.out _; refine bp ?_; exact BK407.out) hb); replace BK408 := Aside0.mk (blk_below (g := gb408) (o := .cells #[.int .i64 a2_0, .int .i64 a2_1, .int .i64 a2_2, .int .i64 a2_3, .int .i64 a2_4, .int .i64 a2_5, .slice A2_6 l2_6.length c2_6] 44 (0, 0)) (by refine bp ?_; refine blk_far ?_ NB408_413.out _; refine bp ?_; refine blk_far ?_ NB408_413.out _; refine bp ?_; refine blk_far ?_ NB408_413.out _; refine bp ?_; refine blk_far ?_ NB408_413.out _; refine bp ?_; refine blk_far ?_ NB408_413.out _; refine bp ?_; exact BK408.out) hb); replace BK413 := Aside0.mk (blk_below (g := gb413) (o := .cells #[.slice A412_0 ((rd_T30 l0_0 a1).f0).length c412_0, .slice A412_1 ((rd_T30 l0_0 a1).f1).length c412_1, .int .i64 ((rd_T30 l0_0 a1).f2), .int .i64 ((rd_T30 l0_0 a1).f3), .slice A412_4 ((rd_T30 l0_0 a1).f4).length c412_4] 30 (0, 0)) (by refine bp ?_; refine blk_put (cs := #[.slice A412_0 ((rd_T30 l0_0 a1).f0).length c412_0, .slice A412_1 ((rd_T30 l0_0 a1).f1).length c412_1, .int .i64 ((rd_T30 l0_0 a1).f2), .int .i64 ((rd_T30 l0_0 a1).f3), .slice none 0 0]) ?_ 4 _ rfl; refine bp ?_; refine blk_put (cs := #[.slice A412_0 ((rd_T30 l0_0 a1).f0).length c412_0, .slice A412_1 ((rd_T30 l0_0 a1).f1).length c412_1, .int .i64 ((rd_T30 l0_0 a1).f2), .int .i64 0, .slice none 0 0]) ?_ 3 _ rfl; refine bp ?_; refine blk_put (cs := #[.slice A412_0 ((rd_T30 l0_0 a1).f0).length c412_0, .slice A412_1 ((rd_T30 l0_0 a1).f1).length c412_1, .int .i64 0, .int .i64 0, .slice none 0 0]) ?_ 2 _ rfl; refine bp ?_; refine blk_put (cs := #[.slice A412_0 ((rd_T30 l0_0 a1).f0).length c412_0, .slice none 0 0, .int .i64 0, .int .i64 0, .slice none 0 0]) ?_ 1 _ rfl; refine bp ?_; refine blk_put (cs := #[.slice none 0 0, .slice none 0 0, .int .i64 0, .int .i64 0, .slice none 0 0]) ?_ 0 _ rfl; refine bp ?_; exact BK413.out) hb); replace HB := Aside0.mk (below_step (bl HB) hb); (try clear hb); (try clear hb2); (try clear hk); (try clear hi); (try clear ho0); obtain ⟨hcz35_0, hcz35_1, hcz35_2, hcz35_3, hcz35_4, hcz35_5, hcz35_6⟩ := bk7 BK408.out; have hfz35_0 := bf BK408.out) | (go_at_call 16; (with_reducible refine (portolanref04_Sets.calls a2_0 a2_1 a2_2 a2_3 a2_4 a2_5 _ _ l2_6 t417 t418 _ ?side1 ?side2 A25.out).mono ?_); (case side1 => exact Kd.Cx (Kd.C_below HR2_6.out HB.out)); (case side2 => exact HC2_6.out); rintro e w36 ⟨rfl, hb⟩; replace HO416 := Aside0.mk (Kd.R_below (Kd.Rx HO416.out) hb); replace BK407 := Aside0.mk (blk_below (bx BK407.out) hb); replace BK408 := Aside0.mk (blk_below (bx BK408.out) hb); replace BK413 := Aside0.mk (blk_below (bx BK413.out) hb); replace HB := Aside0.mk (below_step (bl HB) hb); (try clear hb); (try clear hb2); (try clear hk); (try clear hi))); go_upto_if 44 with (first | ((with_reducible refine gate_dst (N := 7) rfl ?_); (try (refine gate_guard (by rfl) ?_; dsimp only)); refine box_event ?hg (N := 7) ?hd (cs := #[.slice none 0 0, .slice none 0 0, .int .i64 0, .int .i64 0, .slice none 0 0]) (t := 30) ?hr ?_; (case hd => rfl); (case hg => rfl); (case hr => first | (go_simp; done) | (go_simp; rfl)); intro gb413 hg w29 hbox hb; have BK413 := Aside0.mk (hbox); have GW413 := ge hg (bl HB); have GE413 := ge hg (bl HB); replace HB := Aside0.mk (below_step (bl HB) hb); have NB407_413 := Aside0.mk ((by rw [hg]; exact Nat.ne_of_lt (blk_lt (g := gb407) (o := .cells #[.slice (some ad412) l0_0.length c0_0] 24 (0, 0)) (bx BK407.out)) : gb407 ≠ gb413)); have NB413_407 := Aside0.mk ((by rw [hg]; exact Nat.ne_of_gt (blk_lt (g := gb407) (o := .cells #[.slice (some ad412) l0_0.length c0_0] 24 (0, 0)) (bx BK407.out)) : gb413 ≠ gb407)); replace BK407 := Aside0.mk (blk_below (bx BK407.out) hb); have NB408_413 := Aside0.mk ((by rw [hg]; exact Nat.ne_of_lt (blk_lt (g := gb408) (o := .cells #[.int .i64 a2_0, .int .i64 a2_1, .int .i64 a2_2, .int .i64 a2_3, .int .i64 a2_4, .int .i64 a2_5, .slice A2_6 l2_6.length c2_6] 44 (0, 0)) (bx BK408.out)) : gb408 ≠ gb413)); have NB413_408 := Aside0.mk ((by rw [hg]; exact Nat.ne_of_gt (blk_lt (g := gb408) (o := .cells #[.int .i64 a2_0, .int .i64 a2_1, .int .i64 a2_2, .int .i64 a2_3, .int .i64 a2_4, .int .i64 a2_5, .slice A2_6 l2_6.length c2_6] 44 (0, 0)) (bx BK408.out)) : gb413 ≠ gb408)); replace BK408 := Aside0.mk (blk_below (bx BK408.out) hb); clear hb hbox hg; have hnb30 := NB413_407.out; have hnc30 := NB407_413.out; have hnb31 := NB413_408.out; have hnc31 := NB408_413.out; obtain ⟨hcz32_0, hcz32_1, hcz32_2, hcz32_3, hcz32_4⟩ := bk5 BK413.out; have hfz32_0 := bf BK413.out; obtain ⟨hcz33_0, hcz33_1, hcz33_2, hcz33_3, hcz33_4, hcz33_5, hcz33_6⟩ := bk7 BK408.out; have hfz33_0 := bf BK408.out) | (go_at_call 19; (with_reducible refine (portolanref04_Uses.calls kj3 a2_0 a2_1 a2_2 a2_3 a2_4 a2_5 _ _ l2_6 t414 _ ?side1 ?side2 A24.out).mono ?_); (case side1 => exact Kd.C_below HR2_6.out (bl HB)); (case side2 => exact HC2_6.out); rintro e w34 ⟨v415, rfl, ho0, hb⟩; have HO416 := Aside0.mk (Kd.R_lower ho0 (below_size (bl HB))); replace BK407 := Aside0.mk (blk_below (g := gb407) (o := .cells #[.slice (some ad412) l0_0.length c0_0] 24 (0, 0)) (by refine bp ?_; refine blk_far ?_ NB407_413.out _; refine bp ?_; refine blk_far ?_ NB407_413.out _; refine bp ?_; refine blk_far ?_ NB407_413.out _; refine bp ?_; refine blk_far ?_ NB407_413.out _; refine bp ?_; refine blk_far ?_ NB407_413.out _; refine bp ?_; exact BK407.out) hb); replace BK408 := Aside0.mk (blk_below (g := gb408) (o := .cells #[.int .i64 a2_0, .int .i64 a2_1, .int .i64 a2_2, .int .i64 a2_3, .int .i64 a2_4, .int .i64 a2_5, .slice A2_6 l2_6.length c2_6] 44 (0, 0)) (by refine bp ?_; refine blk_far ?_ NB408_413.out _; refine bp ?_; refine blk_far ?_ NB408_413.out _; refine bp ?_; refine blk_far ?_ NB408_413.out _; refine bp ?_; refine blk_far ?_ NB408_413.out _; refine bp ?_; refine blk_far ?_ NB408_413.out _; refine bp ?_; exact BK408.out) hb); replace BK413 := Aside0.mk (blk_below (g := gb413) (o := .cells #[.slice A412_0 ((rd_T30 l0_0 a1).f0).length c412_0, .slice A412_1 ((rd_T30 l0_0 a1).f1).length c412_1, .int .i64 ((rd_T30 l0_0 a1).f2), .int .i64 ((rd_T30 l0_0 a1).f3), .slice A412_4 ((rd_T30 l0_0 a1).f4).length c412_4] 30 (0, 0)) (by refine bp ?_; refine blk_put (cs := #[.slice A412_0 ((rd_T30 l0_0 a1).f0).length c412_0, .slice A412_1 ((rd_T30 l0_0 a1).f1).length c412_1, .int .i64 ((rd_T30 l0_0 a1).f2), .int .i64 ((rd_T30 l0_0 a1).f3), .slice none 0 0]) ?_ 4 _ rfl; refine bp ?_; refine blk_put (cs := #[.slice A412_0 ((rd_T30 l0_0 a1).f0).length c412_0, .slice A412_1 ((rd_T30 l0_0 a1).f1).length c412_1, .int .i64 ((rd_T30 l0_0 a1).f2), .int .i64 0, .slice none 0 0]) ?_ 3 _ rfl; refine bp ?_; refine blk_put (cs := #[.slice A412_0 ((rd_T30 l0_0 a1).f0).length c412_0, .slice A412_1 ((rd_T30 l0_0 a1).f1).length c412_1, .int .i64 0, .int .i64 0, .slice none 0 0]) ?_ 2 _ rfl; refine bp ?_; refine blk_put (cs := #[.slice A412_0 ((rd_T30 l0_0 a1).f0).length c412_0, .slice none 0 0, .int .i64 0, .int .i64 0, .slice none 0 0]) ?_ 1 _ rfl; refine bp ?_; refine blk_put (cs := #[.slice none 0 0, .slice none 0 0, .int .i64 0, .int .i64 0, .slice none 0 0]) ?_ 0 _ rfl; refine bp ?_; exact BK413.out) hb); replace HB := Aside0.mk (below_step (bl HB) hb); (try clear hb); (try clear hb2); (try clear hk); (try clear hi); (try clear ho0); obtain ⟨hcz35_0, hcz35_1, hcz35_2, hcz35_3, hcz35_4, hcz35_5, hcz35_6⟩ := bk7 BK408.out; have hfz35_0 := bf BK408.out) | (go_at_call 16; (with_reducible refine (portolanref04_Sets.calls a2_0 a2_1 a2_2 a2_3 a2_4 a2_5 _ _ l2_6 t417 t418 _ ?side1 ?side2 A25.out).mono ?_); (case side1 => exact Kd.Cx (Kd.C_below HR2_6.out HB.out)); (case side2 => exact HC2_6.out); rintro e w36 ⟨rfl, hb⟩; replace HO416 := Aside0.mk (Kd.R_below (Kd.Rx HO416.out) hb); replace BK407 := Aside0.mk (blk_below (bx BK407.out) hb); replace BK408 := Aside0.mk (blk_below (bx BK408.out) hb); replace BK413 := Aside0.mk (blk_below (bx BK413.out) hb); replace HB := Aside0.mk (below_step (bl HB) hb); (try clear hb); (try clear hb2); (try clear hk); (try clear hi))))
     (try simp only [Act.put, List.setIfInBounds_toArray, List.set_cons_zero, List.set_cons_succ])
     go_cut [8] (fun v8 wc => ∃ (kq : Nat) (x8_25 : List Int), Aside0 (portolanref04_Ins.j1 kq x8_25 l0_0 a2_0 a2_1 a2_2 a2_3 a2_4 a2_5 l2_6 ((rd_T30 l0_0 a1).f0) ((rd_T30 l0_0 a1).f1) ((rd_T30 l0_0 a1).f2) ((rd_T30 l0_0 a1).f3) ((rd_T30 l0_0 a1).f4) = some r) ∧ Aside0 (kq ≤ kj3) ∧ Aside0 (Kd.R (Kd.int .i64) 3 wc w.heap.size (fun _ => True) v8 x8_25) ∧ Aside0 (wc.heap[gb407]? = some (.cells #[(.slice (some ad412) l0_0.length c0_0)] 24 (0, 0))) ∧ Aside0 (wc.heap[gb408]? = some (.cells #[.int .i64 a2_0, .int .i64 a2_1, .int .i64 a2_2, .int .i64 a2_3, .int .i64 a2_4, .int .i64 a2_5, (.slice A2_6 l2_6.length c2_6)] 44 (0, 0))) ∧ Aside0 (wc.heap[gb413]? = some (.cells #[(.slice A412_0 ((rd_T30 l0_0 a1).f0).length c412_0), (.slice A412_1 ((rd_T30 l0_0 a1).f1).length c412_1), .int .i64 ((rd_T30 l0_0 a1).f2), .int .i64 ((rd_T30 l0_0 a1).f3), (.slice A412_4 ((rd_T30 l0_0 a1).f4).length c412_4)] 30 (0, 0))) ∧ Aside0 (Below w.heap.size w wc))
     case first =>
      have H := HC26.out
      clear HC26
      by_cases c37 : t418 = true
      ·
       subst c37
       have H1 : (if t414.length < 17592186044416 then (portolanref04_Ins.j1 kj3 (t414 ++ [t417]) l0_0 a2_0 a2_1 a2_2 a2_3 a2_4 a2_5 l2_6 ((rd_T30 l0_0 a1).f0) ((rd_T30 l0_0 a1).f1) ((rd_T30 l0_0 a1).f2) ((rd_T30 l0_0 a1).f3) ((rd_T30 l0_0 a1).f4)) else (none)) = some r := by rw [if_pos rfl] at H; exact H
       clear H
       have H := H1
       clear H1
       by_cases c38 : t414.length < 17592186044416
       ·
        rw [if_pos c38] at H
        have LMc38 := Aside0.mk c38
        clear c38
        obtain ⟨y419, hy419⟩ : ∃ y_ : List Int, y_ = (t414 ++ [t417]) := ⟨_, rfl⟩
        replace H : (portolanref04_Ins.j1 kj3 y419 l0_0 a2_0 a2_1 a2_2 a2_3 a2_4 a2_5 l2_6 ((rd_T30 l0_0 a1).f0) ((rd_T30 l0_0 a1).f1) ((rd_T30 l0_0 a1).f2) ((rd_T30 l0_0 a1).f3) ((rd_T30 l0_0 a1).f4)) = some r := by first | (rw [hy419]; with_reducible exact H) | (have H2_ := (Option.bind_some _ _).symm.trans H; rw [hy419]; with_reducible exact H2_) | (have H2_ := (Option.bind_some _ _).symm.trans H; with_reducible exact H2_) | with_reducible exact H | (rw [hy419]; exact H) | exact H
        have Ny419 := Aside0.mk hy419
        clear hy419
        have H' := Aside0.mk H
        clear H
        go_wp2_with (first | ((with_reducible refine gate_builtin (b := .append) (xs := #[.tmp 45, .tmp 47]) rfl ?_); (try (refine gate_guard (by rfl) ?_; dsimp only)); at_builtin; refine Kd.R_append (Kd.int .i64) (w0 := w) w.heap.size rfl (.tmp 45) (.tmp 47) 27 3 (.int .i64 0) 8 rfl Tryd.underlying27 info3 rfl (by decide) (by omega) v415 t414 t417 [.int .i64 t417] (fun _ => True) (fun _ => False) rfl rfl ?aP (fun _ hk => hk.elim) ?aF ?aO ?aB ?aS ?aL ?_; (case aP => exact rfl); (case aB => exact (bl HB)); (case aF => exact (fun _ _ => trivial)); (case aO => exact (Kd.Rx HO416.out)); (case aS => exact (below_size (bl HB))); (case aL => have := LMc38.out; omega); intro v420 w39 ho hb hg hat; rw [← Ny419.out] at ho; replace BK407 := Aside0.mk (blk_grown (g := gb407) (o := .cells #[.slice (some ad412) l0_0.length c0_0] 24 (0, 0)) (bx BK407.out) hg (Kd.R_ne HO416.out BK407.out (by decide))); replace BK408 := Aside0.mk (blk_grown (g := gb408) (o := .cells #[.int .i64 a2_0, .int .i64 a2_1, .int .i64 a2_2, .int .i64 a2_3, .int .i64 a2_4, .int .i64 a2_5, .slice A2_6 l2_6.length c2_6] 44 (0, 0)) (bx BK408.out) hg (Kd.R_ne HO416.out BK408.out (by decide))); replace BK413 := Aside0.mk (blk_grown (g := gb413) (o := .cells #[.slice A412_0 ((rd_T30 l0_0 a1).f0).length c412_0, .slice A412_1 ((rd_T30 l0_0 a1).f1).length c412_1, .int .i64 ((rd_T30 l0_0 a1).f2), .int .i64 ((rd_T30 l0_0 a1).f3), .slice A412_4 ((rd_T30 l0_0 a1).f4).length c412_4] 30 (0, 0)) (bx BK413.out) hg (Kd.R_ne HO416.out BK413.out (by decide))); replace HB := Aside0.mk (hb); have HO421 := Aside0.mk (ho); clear HO416; clear ho hb hg hat))
        repeat (go_quiet (first | ((with_reducible refine gate_builtin (b := .append) (xs := #[.tmp 45, .tmp 47]) rfl ?_); (try (refine gate_guard (by rfl) ?_; dsimp only)); at_builtin; refine Kd.R_append (Kd.int .i64) (w0 := w) w.heap.size rfl (.tmp 45) (.tmp 47) 27 3 (.int .i64 0) 8 rfl Tryd.underlying27 info3 rfl (by decide) (by omega) v415 t414 t417 [.int .i64 t417] (fun _ => True) (fun _ => False) rfl rfl ?aP (fun _ hk => hk.elim) ?aF ?aO ?aB ?aS ?aL ?_; (case aP => exact rfl); (case aB => exact (bl HB)); (case aF => exact (fun _ _ => trivial)); (case aO => exact (Kd.Rx HO416.out)); (case aS => exact (below_size (bl HB))); (case aL => have := LMc38.out; omega); intro v420 w39 ho hb hg hat; rw [← Ny419.out] at ho; replace BK407 := Aside0.mk (blk_grown (g := gb407) (o := .cells #[.slice (some ad412) l0_0.length c0_0] 24 (0, 0)) (bx BK407.out) hg (Kd.R_ne HO416.out BK407.out (by decide))); replace BK408 := Aside0.mk (blk_grown (g := gb408) (o := .cells #[.int .i64 a2_0, .int .i64 a2_1, .int .i64 a2_2, .int .i64 a2_3, .int .i64 a2_4, .int .i64 a2_5, .slice A2_6 l2_6.length c2_6] 44 (0, 0)) (bx BK408.out) hg (Kd.R_ne HO416.out BK408.out (by decide))); replace BK413 := Aside0.mk (blk_grown (g := gb413) (o := .cells #[.slice A412_0 ((rd_T30 l0_0 a1).f0).length c412_0, .slice A412_1 ((rd_T30 l0_0 a1).f1).length c412_1, .int .i64 ((rd_T30 l0_0 a1).f2), .int .i64 ((rd_T30 l0_0 a1).f3), .slice A412_4 ((rd_T30 l0_0 a1).f4).length c412_4] 30 (0, 0)) (bx BK413.out) hg (Kd.R_ne HO416.out BK413.out (by decide))); replace HB := Aside0.mk (hb); have HO421 := Aside0.mk (ho); clear HO416; clear ho hb hg hat)); try go_wp2_with (first | ((with_reducible refine gate_builtin (b := .append) (xs := #[.tmp 45, .tmp 47]) rfl ?_); (try (refine gate_guard (by rfl) ?_; dsimp only)); at_builtin; refine Kd.R_append (Kd.int .i64) (w0 := w) w.heap.size rfl (.tmp 45) (.tmp 47) 27 3 (.int .i64 0) 8 rfl Tryd.underlying27 info3 rfl (by decide) (by omega) v415 t414 t417 [.int .i64 t417] (fun _ => True) (fun _ => False) rfl rfl ?aP (fun _ hk => hk.elim) ?aF ?aO ?aB ?aS ?aL ?_; (case aP => exact rfl); (case aB => exact (bl HB)); (case aF => exact (fun _ _ => trivial)); (case aO => exact (Kd.Rx HO416.out)); (case aS => exact (below_size (bl HB))); (case aL => have := LMc38.out; omega); intro v420 w39 ho hb hg hat; rw [← Ny419.out] at ho; replace BK407 := Aside0.mk (blk_grown (g := gb407) (o := .cells #[.slice (some ad412) l0_0.length c0_0] 24 (0, 0)) (bx BK407.out) hg (Kd.R_ne HO416.out BK407.out (by decide))); replace BK408 := Aside0.mk (blk_grown (g := gb408) (o := .cells #[.int .i64 a2_0, .int .i64 a2_1, .int .i64 a2_2, .int .i64 a2_3, .int .i64 a2_4, .int .i64 a2_5, .slice A2_6 l2_6.length c2_6] 44 (0, 0)) (bx BK408.out) hg (Kd.R_ne HO416.out BK408.out (by decide))); replace BK413 := Aside0.mk (blk_grown (g := gb413) (o := .cells #[.slice A412_0 ((rd_T30 l0_0 a1).f0).length c412_0, .slice A412_1 ((rd_T30 l0_0 a1).f1).length c412_1, .int .i64 ((rd_T30 l0_0 a1).f2), .int .i64 ((rd_T30 l0_0 a1).f3), .slice A412_4 ((rd_T30 l0_0 a1).f4).length c412_4] 30 (0, 0)) (bx BK413.out) hg (Kd.R_ne HO416.out BK413.out (by decide))); replace HB := Aside0.mk (hb); have HO421 := Aside0.mk (ho); clear HO416; clear ho hb hg hat)))
        go_meet
        case rel => exact ⟨_, (y419), H', ⟨by have := HJ3.out; first | omega | exact Nat.le_refl _⟩, ⟨Kd.Rx HO421.out⟩, ⟨bx BK407.out⟩, ⟨bx BK408.out⟩, ⟨bx BK413.out⟩, ⟨bl HB⟩⟩
       rw [if_neg c38] at H
       exact absurd H (by simp)
      replace c37 := Bool.eq_false_iff.mpr c37
      subst c37
      have H1 : (portolanref04_Ins.j1 kj3 t414 l0_0 a2_0 a2_1 a2_2 a2_3 a2_4 a2_5 l2_6 ((rd_T30 l0_0 a1).f0) ((rd_T30 l0_0 a1).f1) ((rd_T30 l0_0 a1).f2) ((rd_T30 l0_0 a1).f3) ((rd_T30 l0_0 a1).f4)) = some r := by rw [if_neg (show ¬ (false = true) by decide)] at H; exact H
      clear H
      have H := H1
      clear H1
      have H' := Aside0.mk H
      clear H
      go_wp2
      repeat (go_quiet (fail); try go_wp2)
      go_meet
      case rel => exact ⟨_, (t414), H', ⟨by have := HJ3.out; first | omega | exact Nat.le_refl _⟩, ⟨Kd.Rx HO416.out⟩, ⟨bx BK407.out⟩, ⟨bx BK408.out⟩, ⟨bx BK413.out⟩, ⟨bl HB⟩⟩
     case rest =>
      clear HC26
      try clear c1
      try clear c2
      try clear p2
      try clear c3
      try clear c4
      try clear p4
      try clear q4
      try clear hx4
      try clear c5
      try clear p6
      try clear c8
      try clear c10
      try clear c10b0
      try clear c10b1
      try clear c11
      try clear c15
      try clear c19
      try clear c21
      try clear c22
      try clear c22b0
      try clear c23
      try clear c23b0
      try clear c27
      try clear c30
      try clear c31
      try clear c37
      try clear c38
      try clear hcz12_0
      try clear hcz13_0 hcz13_1 hcz13_2 hcz13_3 hcz13_4 hcz13_5 hcz13_6
      try clear hcz16_0
      try clear hcz17_0 hcz17_1 hcz17_2 hcz17_3 hcz17_4 hcz17_5 hcz17_6
      try clear hcz20_0
      try clear hcz28_0
      try clear hcz32_0 hcz32_1 hcz32_2 hcz32_3 hcz32_4
      try clear hcz33_0 hcz33_1 hcz33_2 hcz33_3 hcz33_4 hcz33_5 hcz33_6
      try clear hcz35_0 hcz35_1 hcz35_2 hcz35_3 hcz35_4 hcz35_5 hcz35_6
      try clear hfz12_0
      try clear hfz13_0
      try clear hfz16_0
      try clear hfz17_0
      try clear hfz20_0
      try clear hfz28_0
      try clear hfz32_0
      try clear hfz33_0
      try clear hfz35_0
      try clear hx412_0
      try clear hx412_1
      try clear hx412_2
      try clear hx412_3
      try clear hx412_4
      try clear p2
      try clear p412
      try clear p6
      try clear q412
      obtain ⟨kq, x8_25, HA, HJ25, HO_8, BK407, BK408, BK413, HB⟩ := hcut
      cases kq with
      | zero => exact absurd HA.out (by simp [portolanref04_Ins.j1])
      | succ kj25 =>
       have H := HA.out
       clear HA
       simp only [portolanref04_Ins.j1] at H
       have H' := Aside0.mk H
       clear H
       go_wp2
       repeat (go_quiet (fail); try go_wp2)
       go_loopg [11] kj25 (fun kq v11 w' => ∃ (x11_3 : Int), v11 = .int .i64 x11_3 ∧ Aside0 (portolanref04_Ins.l0 kq x8_25 x11_3 l0_0 a2_0 a2_1 a2_2 a2_3 a2_4 a2_5 l2_6 ((rd_T30 l0_0 a1).f0) ((rd_T30 l0_0 a1).f1) ((rd_T30 l0_0 a1).f2) ((rd_T30 l0_0 a1).f3) ((rd_T30 l0_0 a1).f4) = some r) ∧ Aside0 (kq ≤ kj25) ∧ Aside0 (Kd.R (Kd.int .i64) 3 w' w.heap.size (fun _ => True) u8 x8_25) ∧ Aside0 (w'.heap[gb407]? = some (.cells #[(.slice (some ad412) l0_0.length c0_0)] 24 (0, 0))) ∧ Aside0 (w'.heap[gb408]? = some (.cells #[.int .i64 a2_0, .int .i64 a2_1, .int .i64 a2_2, .int .i64 a2_3, .int .i64 a2_4, .int .i64 a2_5, (.slice A2_6 l2_6.length c2_6)] 44 (0, 0))) ∧ Aside0 (w'.heap[gb413]? = some (.cells #[(.slice A412_0 ((rd_T30 l0_0 a1).f0).length c412_0), (.slice A412_1 ((rd_T30 l0_0 a1).f1).length c412_1), .int .i64 ((rd_T30 l0_0 a1).f2), .int .i64 ((rd_T30 l0_0 a1).f3), (.slice A412_4 ((rd_T30 l0_0 a1).f4).length c412_4)] 30 (0, 0))) ∧ Aside0 (Below w.heap.size w w'))
       case atStart => exact ⟨(0), (by first | rfl | (simp; done) | (simp [*]; done)), H', ⟨Nat.le_refl _⟩, ⟨Kd.Rx HO_8.out⟩, ⟨bx BK407.out⟩, ⟨bx BK408.out⟩, ⟨bx BK413.out⟩, ⟨bl HB⟩⟩
       case round =>
        clear H'
        try clear c1
        try clear c2
        try clear p2
        try clear c3
        try clear c4
        try clear p4
        try clear q4
        try clear hx4
        try clear c5
        try clear p6
        try clear c8
        try clear c10
        try clear c10b0
        try clear c10b1
        try clear c11
        try clear c15
        try clear c19
        try clear c21
        try clear c22
        try clear c22b0
        try clear c23
        try clear c23b0
        try clear c27
        try clear c30
        try clear c31
        try clear c37
        try clear c38
        try clear hcz12_0
        try clear hcz13_0 hcz13_1 hcz13_2 hcz13_3 hcz13_4 hcz13_5 hcz13_6
        try clear hcz16_0
        try clear hcz17_0 hcz17_1 hcz17_2 hcz17_3 hcz17_4 hcz17_5 hcz17_6
        try clear hcz20_0
        try clear hcz28_0
        try clear hcz32_0 hcz32_1 hcz32_2 hcz32_3 hcz32_4
        try clear hcz33_0 hcz33_1 hcz33_2 hcz33_3 hcz33_4 hcz33_5 hcz33_6
        try clear hcz35_0 hcz35_1 hcz35_2 hcz35_3 hcz35_4 hcz35_5 hcz35_6
        try clear hfz12_0
        try clear hfz13_0
        try clear hfz16_0
        try clear hfz17_0
        try clear hfz20_0
        try clear hfz28_0
        try clear hfz32_0
        try clear hfz33_0
        try clear hfz35_0
        try clear hx412_0
        try clear hx412_1
        try clear hx412_2
        try clear hx412_3
        try clear hx412_4
        try clear p2
        try clear p4
        try clear p412
        try clear p6
        try clear q4
        try clear q412
        obtain ⟨x11_3, rfl, HA, HK3, HO_8, BK407, BK408, BK413, HB⟩ := hrel
        cases gk with
        | zero => exact absurd HA.out (by simp [portolanref04_Ins.l0])
        | succ k3 =>
         have H := HA.out
         clear HA
         simp only [portolanref04_Ins.l0] at H
         by_cases c40 : x11_3 < (x8_25.length : Int)
         ·
          rw [if_pos c40] at H
          have c40b0 : decide (x11_3 < (x8_25.length : Int)) = true := decide_eq_true c40
          clear c40
          by_cases c41 : 0 ≤ x11_3
          ·
           rw [if_pos c41] at H
           have c41b0 : decide (0 ≤ x11_3) = true := decide_eq_true c41
           clear c41
           replace H := Option.bind_eq_some_iff.mp H
           obtain ⟨t423, A420, H⟩ := H
           replace H : (if t423 = true then (portolanref04_Ins.l0 k3 x8_25 (wrap64 (x11_3 + 1)) l0_0 a2_0 a2_1 a2_2 a2_3 a2_4 a2_5 l2_6 ((rd_T30 l0_0 a1).f0) ((rd_T30 l0_0 a1).f1) ((rd_T30 l0_0 a1).f2) ((rd_T30 l0_0 a1).f3) ((rd_T30 l0_0 a1).f4)) else (some false)) = some r := H
           have A42 := Aside0.mk A420
           clear A420
           by_cases c43 : t423 = true
           ·
            subst c43
            have H1 : (portolanref04_Ins.l0 k3 x8_25 (wrap64 (x11_3 + 1)) l0_0 a2_0 a2_1 a2_2 a2_3 a2_4 a2_5 l2_6 ((rd_T30 l0_0 a1).f0) ((rd_T30 l0_0 a1).f1) ((rd_T30 l0_0 a1).f2) ((rd_T30 l0_0 a1).f3) ((rd_T30 l0_0 a1).f4)) = some r := by rw [if_pos rfl] at H; exact H
            clear H
            have H := H1
            clear H1
            have H' := Aside0.mk H
            clear H
            obtain ⟨Ao44, co44, eo44⟩ := Kd.R_slice HO_8.out
            subst eo44
            have p422 : 0 ≤ (x11_3 : Int) := of_decide_eq_true (by assumption)
            have q422 : x11_3 < (x8_25.length : Int) := of_decide_eq_true (by assumption)
            obtain ⟨ad422, e422, hx422_0⟩ := Kd.at_int (Kd.R_reads' HO_8.out).2.2 x11_3 p422 q422
            cases e422
            replace p422 := eq_true p422
            replace q422 := eq_true q422
            have hnb45 := NB413_407.out
            have hnc45 := NB407_413.out
            have hnb46 := NB413_408.out
            have hnc46 := NB408_413.out
            obtain ⟨hcz47_0, hcz47_1, hcz47_2, hcz47_3, hcz47_4⟩ := bk5 BK413.out
            have hfz47_0 := bf BK413.out
            go_wp2_with (first | (go_at_call 56; (with_reducible refine (portolanref04_within.calls (rd x8_25 x11_3) 0 (wrap64 ((((rd_T30 l0_0 a1).f0).length : Int) - 1)) true _ A42.out).mono ?_); rintro e w' ⟨rfl, ⟨nd, rfl⟩⟩; (try first | exact ⟨rfl, _, World.drewN_drewN _ _ _⟩ | exact ⟨rfl, _, Eq.trans (World.drewN_drewN _ _ _) (congrArg (World.drewN _) (Nat.add_assoc _ _ _))⟩)))
            repeat (go_quiet (first | (go_at_call 56; (with_reducible refine (portolanref04_within.calls (rd x8_25 x11_3) 0 (wrap64 ((((rd_T30 l0_0 a1).f0).length : Int) - 1)) true _ A42.out).mono ?_); rintro e w' ⟨rfl, ⟨nd, rfl⟩⟩; (try first | exact ⟨rfl, _, World.drewN_drewN _ _ _⟩ | exact ⟨rfl, _, Eq.trans (World.drewN_drewN _ _ _) (congrArg (World.drewN _) (Nat.add_assoc _ _ _))⟩))); try go_wp2_with (first | (go_at_call 56; (with_reducible refine (portolanref04_within.calls (rd x8_25 x11_3) 0 (wrap64 ((((rd_T30 l0_0 a1).f0).length : Int) - 1)) true _ A42.out).mono ?_); rintro e w' ⟨rfl, ⟨nd, rfl⟩⟩; (try first | exact ⟨rfl, _, World.drewN_drewN _ _ _⟩ | exact ⟨rfl, _, Eq.trans (World.drewN_drewN _ _ _) (congrArg (World.drewN _) (Nat.add_assoc _ _ _))⟩))))
            go_roundg k3
            case measure => have := HJ3.out; have := HJ25.out; have := HK3.out; omega
            case rel => exact ⟨(wrap64 (x11_3 + 1)), (by first | rfl | (simp; done) | (simp [*]; done)), H', ⟨by have := HJ3.out; have := HJ25.out; have := HK3.out; omega⟩, ⟨Kd.Rx HO_8.out⟩, ⟨bx BK407.out⟩, ⟨bx BK408.out⟩, ⟨bx BK413.out⟩, ⟨bl HB⟩⟩
           replace c43 := Bool.eq_false_iff.mpr c43
           subst c43
           have H1 : (some false) = some r := by rw [if_neg (show ¬ (false = true) by decide)] at H; exact H
           clear H
           have H := H1
           clear H1
           obtain rfl := Option.some.inj H
           obtain ⟨Ao48, co48, eo48⟩ := Kd.R_slice HO_8.out
           subst eo48
           have p422 : 0 ≤ (x11_3 : Int) := of_decide_eq_true (by assumption)
           have q422 : x11_3 < (x8_25.length : Int) := of_decide_eq_true (by assumption)
           obtain ⟨ad422, e422, hx422_0⟩ := Kd.at_int (Kd.R_reads' HO_8.out).2.2 x11_3 p422 q422
           cases e422
           replace p422 := eq_true p422
           replace q422 := eq_true q422
           have hnb49 := NB413_407.out
           have hnc49 := NB407_413.out
           have hnb50 := NB413_408.out
           have hnc50 := NB408_413.out
           obtain ⟨hcz51_0, hcz51_1, hcz51_2, hcz51_3, hcz51_4⟩ := bk5 BK413.out
           have hfz51_0 := bf BK413.out
           go_wp2_with (first | (go_at_call 56; (with_reducible refine (portolanref04_within.calls (rd x8_25 x11_3) 0 (wrap64 ((((rd_T30 l0_0 a1).f0).length : Int) - 1)) false _ A42.out).mono ?_); rintro e w' ⟨rfl, ⟨nd, rfl⟩⟩; (try first | exact ⟨rfl, _, World.drewN_drewN _ _ _⟩ | exact ⟨rfl, _, Eq.trans (World.drewN_drewN _ _ _) (congrArg (World.drewN _) (Nat.add_assoc _ _ _))⟩)))
           repeat (go_quiet (first | (go_at_call 56; (with_reducible refine (portolanref04_within.calls (rd x8_25 x11_3) 0 (wrap64 ((((rd_T30 l0_0 a1).f0).length : Int) - 1)) false _ A42.out).mono ?_); rintro e w' ⟨rfl, ⟨nd, rfl⟩⟩; (try first | exact ⟨rfl, _, World.drewN_drewN _ _ _⟩ | exact ⟨rfl, _, Eq.trans (World.drewN_drewN _ _ _) (congrArg (World.drewN _) (Nat.add_assoc _ _ _))⟩))); try go_wp2_with (first | (go_at_call 56; (with_reducible refine (portolanref04_within.calls (rd x8_25 x11_3) 0 (wrap64 ((((rd_T30 l0_0 a1).f0).length : Int) - 1)) false _ A42.out).mono ?_); rintro e w' ⟨rfl, ⟨nd, rfl⟩⟩; (try first | exact ⟨rfl, _, World.drewN_drewN _ _ _⟩ | exact ⟨rfl, _, Eq.trans (World.drewN_drewN _ _ _) (congrArg (World.drewN _) (Nat.add_assoc _ _ _))⟩))))
           go_ret
           exact ⟨by first | rfl | (simp [errW_none, errW_some] <;> rfl) | (simp [*, errW_none, errW_some] <;> rfl), bl HB⟩
          rw [if_neg c41] at H
          exact absurd H (by simp)
         rw [if_neg c40] at H
         have c40b0 : decide (x11_3 < (x8_25.length : Int)) = false := decide_eq_false c40
         clear c40
         replace H := Option.bind_eq_some_iff.mp H
         obtain ⟨t424, A520, H⟩ := H
         replace H : (portolanref04_Ins.l1 k3 t424 0 l0_0 a2_0 a2_1 a2_2 a2_3 a2_4 a2_5 l2_6 ((rd_T30 l0_0 a1).f0) ((rd_T30 l0_0 a1).f1) ((rd_T30 l0_0 a1).f2) ((rd_T30 l0_0 a1).f3) ((rd_T30 l0_0 a1).f4)) = some r := H
         have A52 := Aside0.mk A520
         clear A520
         have H' := Aside0.mk H
         clear H
         obtain ⟨Ao53, co53, eo53⟩ := Kd.R_slice HO_8.out
         subst eo53
         have hnb54 := NB408_407.out
         have hnc54 := NB407_408.out
         have hnb55 := NB408_413.out
         have hnc55 := NB413_408.out
         obtain ⟨hcz56_0, hcz56_1, hcz56_2, hcz56_3, hcz56_4, hcz56_5, hcz56_6⟩ := bk7 BK408.out
         have hfz56_0 := bf BK408.out
         go_wp2_with (first | (go_at_call 36; (with_reducible refine (portolanref04_Next.calls a2_0 a2_1 a2_2 a2_3 a2_4 a2_5 _ _ l2_6 t424 _ ?side1 ?side2 A52.out).mono ?_); (case side1 => exact Kd.Cx (Kd.C_below HR2_6.out HB.out)); (case side2 => exact HC2_6.out); rintro e w57 ⟨v425, rfl, ho0, hb⟩; have HO426 := Aside0.mk (Kd.R_lower (Kd.R_new' ho0 (Kd.R_lt (Kd.Rx HO_8.out))) (below_size (bl HB))); replace HO_8 := Aside0.mk (Kd.R_elder' (Kd.Rx HO_8.out) (Kd.R_base ho0) hb); replace BK407 := Aside0.mk (blk_below (bx BK407.out) hb); replace BK408 := Aside0.mk (blk_below (bx BK408.out) hb); replace BK413 := Aside0.mk (blk_below (bx BK413.out) hb); replace HB := Aside0.mk (below_step (bl HB) hb); (try clear hb); (try clear hb2); (try clear hk); (try clear hi); (try clear ho0)))
         repeat (go_quiet (first | (go_at_call 36; (with_reducible refine (portolanref04_Next.calls a2_0 a2_1 a2_2 a2_3 a2_4 a2_5 _ _ l2_6 t424 _ ?side1 ?side2 A52.out).mono ?_); (case side1 => exact Kd.Cx (Kd.C_below HR2_6.out HB.out)); (case side2 => exact HC2_6.out); rintro e w57 ⟨v425, rfl, ho0, hb⟩; have HO426 := Aside0.mk (Kd.R_lower (Kd.R_new' ho0 (Kd.R_lt (Kd.Rx HO_8.out))) (below_size (bl HB))); replace HO_8 := Aside0.mk (Kd.R_elder' (Kd.Rx HO_8.out) (Kd.R_base ho0) hb); replace BK407 := Aside0.mk (blk_below (bx BK407.out) hb); replace BK408 := Aside0.mk (blk_below (bx BK408.out) hb); replace BK413 := Aside0.mk (blk_below (bx BK413.out) hb); replace HB := Aside0.mk (below_step (bl HB) hb); (try clear hb); (try clear hb2); (try clear hk); (try clear hi); (try clear ho0))); try go_wp2_with (first | (go_at_call 36; (with_reducible refine (portolanref04_Next.calls a2_0 a2_1 a2_2 a2_3 a2_4 a2_5 _ _ l2_6 t424 _ ?side1 ?side2 A52.out).mono ?_); (case side1 => exact Kd.Cx (Kd.C_below HR2_6.out HB.out)); (case side2 => exact HC2_6.out); rintro e w57 ⟨v425, rfl, ho0, hb⟩; have HO426 := Aside0.mk (Kd.R_lower (Kd.R_new' ho0 (Kd.R_lt (Kd.Rx HO_8.out))) (below_size (bl HB))); replace HO_8 := Aside0.mk (Kd.R_elder' (Kd.Rx HO_8.out) (Kd.R_base ho0) hb); replace BK407 := Aside0.mk (blk_below (bx BK407.out) hb); replace BK408 := Aside0.mk (blk_below (bx BK408.out) hb); replace BK413 := Aside0.mk (blk_below (bx BK413.out) hb); replace HB := Aside0.mk (below_step (bl HB) hb); (try clear hb); (try clear hb2); (try clear hk); (try clear hi); (try clear ho0))))
         go_loopg [13] k3 (fun kq v13 w' => ∃ (x13_4 : Int), v13 = .int .i64 x13_4 ∧ Aside0 (portolanref04_Ins.l1 kq t424 x13_4 l0_0 a2_0 a2_1 a2_2 a2_3 a2_4 a2_5 l2_6 ((rd_T30 l0_0 a1).f0) ((rd_T30 l0_0 a1).f1) ((rd_T30 l0_0 a1).f2) ((rd_T30 l0_0 a1).f3) ((rd_T30 l0_0 a1).f4) = some r) ∧ Aside0 (kq ≤ k3) ∧ Aside0 (Kd.R (Kd.int .i64) 3 w' w.heap.size (fun _ => True) v425 t424) ∧ Aside0 (w'.heap[gb407]? = some (.cells #[(.slice (some ad412) l0_0.length c0_0)] 24 (0, 0))) ∧ Aside0 (w'.heap[gb408]? = some (.cells #[.int .i64 a2_0, .int .i64 a2_1, .int .i64 a2_2, .int .i64 a2_3, .int .i64 a2_4, .int .i64 a2_5, (.slice A2_6 l2_6.length c2_6)] 44 (0, 0))) ∧ Aside0 (w'.heap[gb413]? = some (.cells #[(.slice A412_0 ((rd_T30 l0_0 a1).f0).length c412_0), (.slice A412_1 ((rd_T30 l0_0 a1).f1).length c412_1), .int .i64 ((rd_T30 l0_0 a1).f2), .int .i64 ((rd_T30 l0_0 a1).f3), (.slice A412_4 ((rd_T30 l0_0 a1).f4).length c412_4)] 30 (0, 0))) ∧ Aside0 (Below w.heap.size w w'))
         case atStart => exact ⟨(0), (by first | rfl | (simp; done) | (simp [*]; done)), H', ⟨Nat.le_refl _⟩, ⟨by (with_reducible repeat (first | apply Kd.R_alloc | apply Kd.R_drewN | apply Kd.R_drew)); exact Kd.R_mono HO426.out (fun _ hk => trivial)⟩, ⟨bx BK407.out⟩, ⟨bx BK408.out⟩, ⟨bx BK413.out⟩, ⟨bl HB⟩⟩
         case round =>
          clear H'
          try clear c1
          try clear c2
          try clear p2
          try clear c3
          try clear c4
          try clear p4
          try clear q4
          try clear hx4
          try clear c5
          try clear p6
          try clear c8
          try clear c10
          try clear c10b0
          try clear c10b1
          try clear c11
          try clear c15
          try clear c19
          try clear c21
          try clear c22
          try clear c22b0
          try clear c23
          try clear c23b0
          try clear c27
          try clear c30
          try clear c31
          try clear c37
          try clear c38
          try clear c40
          try clear c40b0
          try clear c41
          try clear c41b0
          try clear p41
          try clear q41
          try clear hx41
          try clear p42
          try clear q42
          try clear hx42
          try clear c43
          try clear c45
          try clear c46
          try clear c49
          try clear c50
          try clear c54
          try clear c55
          try clear hcz12_0
          try clear hcz13_0 hcz13_1 hcz13_2 hcz13_3 hcz13_4 hcz13_5 hcz13_6
          try clear hcz16_0
          try clear hcz17_0 hcz17_1 hcz17_2 hcz17_3 hcz17_4 hcz17_5 hcz17_6
          try clear hcz20_0
          try clear hcz28_0
          try clear hcz32_0 hcz32_1 hcz32_2 hcz32_3 hcz32_4
          try clear hcz33_0 hcz33_1 hcz33_2 hcz33_3 hcz33_4 hcz33_5 hcz33_6
          try clear hcz35_0 hcz35_1 hcz35_2 hcz35_3 hcz35_4 hcz35_5 hcz35_6
          try clear hcz47_0 hcz47_1 hcz47_2 hcz47_3 hcz47_4
          try clear hcz51_0 hcz51_1 hcz51_2 hcz51_3 hcz51_4
          try clear hcz56_0 hcz56_1 hcz56_2 hcz56_3 hcz56_4 hcz56_5 hcz56_6
          try clear hfz12_0
          try clear hfz13_0
          try clear hfz16_0
          try clear hfz17_0
          try clear hfz20_0
          try clear hfz28_0
          try clear hfz32_0
          try clear hfz33_0
          try clear hfz35_0
          try clear hfz47_0
          try clear hfz51_0
          try clear hfz56_0
          try clear hx412_0
          try clear hx412_1
          try clear hx412_2
          try clear hx412_3
          try clear hx412_4
          try clear hx422_0
          try clear p2
          try clear p4
          try clear p412
          try clear p422
          try clear p6
          try clear q4
          try clear q412
          try clear q422
          obtain ⟨x13_4, rfl, HA, HK4, HO_12, BK407, BK408, BK413, HB⟩ := hrel
          cases gk with
          | zero => exact absurd HA.out (by simp [portolanref04_Ins.l1])
          | succ k4 =>
           have H := HA.out
           clear HA
           simp only [portolanref04_Ins.l1] at H
           by_cases c58 : x13_4 < (t424.length : Int)
           ·
            rw [if_pos c58] at H
            have c58b0 : decide (x13_4 < (t424.length : Int)) = true := decide_eq_true c58
            clear c58
            by_cases c59 : 0 ≤ x13_4
            ·
             rw [if_pos c59] at H
             have c59b0 : decide (0 ≤ x13_4) = true := decide_eq_true c59
             clear c59
             replace H := Option.bind_eq_some_iff.mp H
             obtain ⟨t428, A600, H⟩ := H
             replace H : (if t428 = true then (portolanref04_Ins.l1 k4 t424 (wrap64 (x13_4 + 1)) l0_0 a2_0 a2_1 a2_2 a2_3 a2_4 a2_5 l2_6 ((rd_T30 l0_0 a1).f0) ((rd_T30 l0_0 a1).f1) ((rd_T30 l0_0 a1).f2) ((rd_T30 l0_0 a1).f3) ((rd_T30 l0_0 a1).f4)) else (some false)) = some r := H
             have A60 := Aside0.mk A600
             clear A600
             by_cases c61 : t428 = true
             ·
              subst c61
              have H1 : (portolanref04_Ins.l1 k4 t424 (wrap64 (x13_4 + 1)) l0_0 a2_0 a2_1 a2_2 a2_3 a2_4 a2_5 l2_6 ((rd_T30 l0_0 a1).f0) ((rd_T30 l0_0 a1).f1) ((rd_T30 l0_0 a1).f2) ((rd_T30 l0_0 a1).f3) ((rd_T30 l0_0 a1).f4)) = some r := by rw [if_pos rfl] at H; exact H
              clear H
              have H := H1
              clear H1
              have H' := Aside0.mk H
              clear H
              obtain ⟨Ao62, co62, eo62⟩ := Kd.R_slice HO_12.out
              subst eo62
              have p427 : 0 ≤ (x13_4 : Int) := of_decide_eq_true (by assumption)
              have q427 : x13_4 < (t424.length : Int) := of_decide_eq_true (by assumption)
              obtain ⟨ad427, e427, hx427_0⟩ := Kd.at_int (Kd.R_reads' HO_12.out).2.2 x13_4 p427 q427
              cases e427
              replace p427 := eq_true p427
              replace q427 := eq_true q427
              have hnb63 := NB413_407.out
              have hnc63 := NB407_413.out
              have hnb64 := NB413_408.out
              have hnc64 := NB408_413.out
              obtain ⟨hcz65_0, hcz65_1, hcz65_2, hcz65_3, hcz65_4⟩ := bk5 BK413.out
              have hfz65_0 := bf BK413.out
              go_wp2_with (first | (go_at_call 56; (with_reducible refine (portolanref04_within.calls (rd t424 x13_4) 1 (wrap64 ((((rd_T30 l0_0 a1).f4).length : Int) - 1)) true _ A60.out).mono ?_); rintro e w' ⟨rfl, ⟨nd, rfl⟩⟩; (try first | exact ⟨rfl, _, World.drewN_drewN _ _ _⟩ | exact ⟨rfl, _, Eq.trans (World.drewN_drewN _ _ _) (congrArg (World.drewN _) (Nat.add_assoc _ _ _))⟩)))
              repeat (go_quiet (first | (go_at_call 56; (with_reducible refine (portolanref04_within.calls (rd t424 x13_4) 1 (wrap64 ((((rd_T30 l0_0 a1).f4).length : Int) - 1)) true _ A60.out).mono ?_); rintro e w' ⟨rfl, ⟨nd, rfl⟩⟩; (try first | exact ⟨rfl, _, World.drewN_drewN _ _ _⟩ | exact ⟨rfl, _, Eq.trans (World.drewN_drewN _ _ _) (congrArg (World.drewN _) (Nat.add_assoc _ _ _))⟩))); try go_wp2_with (first | (go_at_call 56; (with_reducible refine (portolanref04_within.calls (rd t424 x13_4) 1 (wrap64 ((((rd_T30 l0_0 a1).f4).length : Int) - 1)) true _ A60.out).mono ?_); rintro e w' ⟨rfl, ⟨nd, rfl⟩⟩; (try first | exact ⟨rfl, _, World.drewN_drewN _ _ _⟩ | exact ⟨rfl, _, Eq.trans (World.drewN_drewN _ _ _) (congrArg (World.drewN _) (Nat.add_assoc _ _ _))⟩))))
              go_roundg k4
              case measure => have := HJ3.out; have := HJ25.out; have := HK3.out; have := HK4.out; omega
              case rel => exact ⟨(wrap64 (x13_4 + 1)), (by first | rfl | (simp; done) | (simp [*]; done)), H', ⟨by have := HJ3.out; have := HJ25.out; have := HK3.out; have := HK4.out; omega⟩, ⟨Kd.Rx HO_12.out⟩, ⟨bx BK407.out⟩, ⟨bx BK408.out⟩, ⟨bx BK413.out⟩, ⟨bl HB⟩⟩
             replace c61 := Bool.eq_false_iff.mpr c61
             subst c61
             have H1 : (some false) = some r := by rw [if_neg (show ¬ (false = true) by decide)] at H; exact H
             clear H
             have H := H1
             clear H1
             obtain rfl := Option.some.inj H
             obtain ⟨Ao66, co66, eo66⟩ := Kd.R_slice HO_12.out
             subst eo66
             have p427 : 0 ≤ (x13_4 : Int) := of_decide_eq_true (by assumption)
             have q427 : x13_4 < (t424.length : Int) := of_decide_eq_true (by assumption)
             obtain ⟨ad427, e427, hx427_0⟩ := Kd.at_int (Kd.R_reads' HO_12.out).2.2 x13_4 p427 q427
             cases e427
             replace p427 := eq_true p427
             replace q427 := eq_true q427
             have hnb67 := NB413_407.out
             have hnc67 := NB407_413.out
             have hnb68 := NB413_408.out
             have hnc68 := NB408_413.out
             obtain ⟨hcz69_0, hcz69_1, hcz69_2, hcz69_3, hcz69_4⟩ := bk5 BK413.out
             have hfz69_0 := bf BK413.out
             go_wp2_with (first | (go_at_call 56; (with_reducible refine (portolanref04_within.calls (rd t424 x13_4) 1 (wrap64 ((((rd_T30 l0_0 a1).f4).length : Int) - 1)) false _ A60.out).mono ?_); rintro e w' ⟨rfl, ⟨nd, rfl⟩⟩; (try first | exact ⟨rfl, _, World.drewN_drewN _ _ _⟩ | exact ⟨rfl, _, Eq.trans (World.drewN_drewN _ _ _) (congrArg (World.drewN _) (Nat.add_assoc _ _ _))⟩)))
             repeat (go_quiet (first | (go_at_call 56; (with_reducible refine (portolanref04_within.calls (rd t424 x13_4) 1 (wrap64 ((((rd_T30 l0_0 a1).f4).length : Int) - 1)) false _ A60.out).mono ?_); rintro e w' ⟨rfl, ⟨nd, rfl⟩⟩; (try first | exact ⟨rfl, _, World.drewN_drewN _ _ _⟩ | exact ⟨rfl, _, Eq.trans (World.drewN_drewN _ _ _) (congrArg (World.drewN _) (Nat.add_assoc _ _ _))⟩))); try go_wp2_with (first | (go_at_call 56; (with_reducible refine (portolanref04_within.calls (rd t424 x13_4) 1 (wrap64 ((((rd_T30 l0_0 a1).f4).length : Int) - 1)) false _ A60.out).mono ?_); rintro e w' ⟨rfl, ⟨nd, rfl⟩⟩; (try first | exact ⟨rfl, _, World.drewN_drewN _ _ _⟩ | exact ⟨rfl, _, Eq.trans (World.drewN_drewN _ _ _) (congrArg (World.drewN _) (Nat.add_assoc _ _ _))⟩))))
             go_ret
             exact ⟨by first | rfl | (simp [errW_none, errW_some] <;> rfl) | (simp [*, errW_none, errW_some] <;> rfl), bl HB⟩
            rw [if_neg c59] at H
            exact absurd H (by simp)
           rw [if_neg c58] at H
           have c58b0 : decide (x13_4 < (t424.length : Int)) = false := decide_eq_false c58
           clear c58
           by_cases c70 : a2_0 = 19
           ·
            rw [if_pos c70] at H
            have c70b0 : (a2_0 == 19) = true := beq_iff_eq.mpr c70
            have c70b1 : (a2_0 != 19) = false := bne_eq_false_iff_eq.mpr c70
            clear c70
            replace H := Option.bind_eq_some_iff.mp H
            obtain ⟨t429, A710, H⟩ := H
            replace H : (if t429 = true then (if 0 ≤ a2_4 then (if a2_4 < (l0_0.length : Int) then (some ((l2_6.length : Int) == ((rd_T30 l0_0 a2_4).f2))) else (none)) else (none)) else (some false)) = some r := H
            have A71 := Aside0.mk A710
            clear A710
            by_cases c72 : t429 = true
            ·
             subst c72
             have H1 : (if 0 ≤ a2_4 then (if a2_4 < (l0_0.length : Int) then (some ((l2_6.length : Int) == ((rd_T30 l0_0 a2_4).f2))) else (none)) else (none)) = some r := by rw [if_pos rfl] at H; exact H
             clear H
             have H := H1
             clear H1
             by_cases c73 : 0 ≤ a2_4
             ·
              rw [if_pos c73] at H
              have c73b0 : decide (0 ≤ a2_4) = true := decide_eq_true c73
              clear c73
              by_cases c74 : a2_4 < (l0_0.length : Int)
              ·
               rw [if_pos c74] at H
               have c74b0 : decide (a2_4 < (l0_0.length : Int)) = true := decide_eq_true c74
               clear c74
               obtain rfl := Option.some.inj H
               obtain ⟨Ao75, co75, eo75⟩ := Kd.R_slice HO_12.out
               subst eo75
               have hnb76 := NB408_407.out
               have hnc76 := NB407_408.out
               have hnb77 := NB408_413.out
               have hnc77 := NB413_408.out
               obtain ⟨hcz78_0, hcz78_1, hcz78_2, hcz78_3, hcz78_4, hcz78_5, hcz78_6⟩ := bk7 BK408.out
               have hfz78_0 := bf BK408.out
               have hnb79 := NB407_413.out
               have hnc79 := NB413_407.out
               have hcz80_0 := bk1 BK407.out
               have hfz80_0 := bf BK407.out
               have p430 : 0 ≤ (a2_4 : Int) := of_decide_eq_true (by assumption); have q430 : a2_4 < (l0_0.length : Int) := of_decide_eq_true (by assumption); obtain ⟨ad430, A430_0, c430_0, A430_1, c430_1, A430_4, c430_4, e430, hx430_0, hx430_1, hx430_2, hx430_3, hx430_4, hl430_0, hi430_0, hl430_1, hi430_1, hl430_4, hi430_4⟩ := at_T30 HR0_0.out a2_4 p430 q430; obtain rfl : ad412 = ad430 := (by injection e430); replace hx430_0 := (HB.out.cell (World.block_lt_of_cell? w _ hx430_0)).trans hx430_0; replace hx430_1 := (HB.out.cell (World.block_lt_of_cell? w _ hx430_1)).trans hx430_1; replace hx430_2 := (HB.out.cell (World.block_lt_of_cell? w _ hx430_2)).trans hx430_2; replace hx430_3 := (HB.out.cell (World.block_lt_of_cell? w _ hx430_3)).trans hx430_3; replace hx430_4 := (HB.out.cell (World.block_lt_of_cell? w _ hx430_4)).trans hx430_4; have HR430_0 := Aside0.mk hi430_0; have HC430_0 := Aside0.mk hl430_0; clear hi430_0 hl430_0; have HR430_1 := Aside0.mk hi430_1; have HC430_1 := Aside0.mk hl430_1; clear hi430_1 hl430_1; have HR430_4 := Aside0.mk hi430_4; have HC430_4 := Aside0.mk hl430_4; clear hi430_4 hl430_4; replace p430 := eq_true p430; replace q430 := eq_true q430
               go_wp2_with (first | (go_at_call 56; (with_reducible refine (portolanref04_within.calls a2_4 0 (wrap64 ((l0_0.length : Int) - 1)) true _ A71.out).mono ?_); rintro e w' ⟨rfl, ⟨nd, rfl⟩⟩; (try first | exact ⟨rfl, _, World.drewN_drewN _ _ _⟩ | exact ⟨rfl, _, Eq.trans (World.drewN_drewN _ _ _) (congrArg (World.drewN _) (Nat.add_assoc _ _ _))⟩)))
               repeat (go_quiet (first | (go_at_call 56; (with_reducible refine (portolanref04_within.calls a2_4 0 (wrap64 ((l0_0.length : Int) - 1)) true _ A71.out).mono ?_); rintro e w' ⟨rfl, ⟨nd, rfl⟩⟩; (try first | exact ⟨rfl, _, World.drewN_drewN _ _ _⟩ | exact ⟨rfl, _, Eq.trans (World.drewN_drewN _ _ _) (congrArg (World.drewN _) (Nat.add_assoc _ _ _))⟩))); try go_wp2_with (first | (go_at_call 56; (with_reducible refine (portolanref04_within.calls a2_4 0 (wrap64 ((l0_0.length : Int) - 1)) true _ A71.out).mono ?_); rintro e w' ⟨rfl, ⟨nd, rfl⟩⟩; (try first | exact ⟨rfl, _, World.drewN_drewN _ _ _⟩ | exact ⟨rfl, _, Eq.trans (World.drewN_drewN _ _ _) (congrArg (World.drewN _) (Nat.add_assoc _ _ _))⟩))))
               go_ret
               exact ⟨by first | rfl | (simp [errW_none, errW_some] <;> rfl) | (simp [*, errW_none, errW_some] <;> rfl), bl HB⟩
              rw [if_neg c74] at H
              exact absurd H (by simp)
             rw [if_neg c73] at H
             exact absurd H (by simp)
            replace c72 := Bool.eq_false_iff.mpr c72
            subst c72
            have H1 : (some false) = some r := by rw [if_neg (show ¬ (false = true) by decide)] at H; exact H
            clear H
            have H := H1
            clear H1
            obtain rfl := Option.some.inj H
            obtain ⟨Ao81, co81, eo81⟩ := Kd.R_slice HO_12.out
            subst eo81
            have hnb82 := NB408_407.out
            have hnc82 := NB407_408.out
            have hnb83 := NB408_413.out
            have hnc83 := NB413_408.out
            obtain ⟨hcz84_0, hcz84_1, hcz84_2, hcz84_3, hcz84_4, hcz84_5, hcz84_6⟩ := bk7 BK408.out
            have hfz84_0 := bf BK408.out
            have hnb85 := NB407_413.out
            have hnc85 := NB413_407.out
            have hcz86_0 := bk1 BK407.out
            have hfz86_0 := bf BK407.out
            go_wp2_with (first | (go_at_call 56; (with_reducible refine (portolanref04_within.calls a2_4 0 (wrap64 ((l0_0.length : Int) - 1)) false _ A71.out).mono ?_); rintro e w' ⟨rfl, ⟨nd, rfl⟩⟩; (try first | exact ⟨rfl, _, World.drewN_drewN _ _ _⟩ | exact ⟨rfl, _, Eq.trans (World.drewN_drewN _ _ _) (congrArg (World.drewN _) (Nat.add_assoc _ _ _))⟩)))
            repeat (go_quiet (first | (go_at_call 56; (with_reducible refine (portolanref04_within.calls a2_4 0 (wrap64 ((l0_0.length : Int) - 1)) false _ A71.out).mono ?_); rintro e w' ⟨rfl, ⟨nd, rfl⟩⟩; (try first | exact ⟨rfl, _, World.drewN_drewN _ _ _⟩ | exact ⟨rfl, _, Eq.trans (World.drewN_drewN _ _ _) (congrArg (World.drewN _) (Nat.add_assoc _ _ _))⟩))); try go_wp2_with (first | (go_at_call 56; (with_reducible refine (portolanref04_within.calls a2_4 0 (wrap64 ((l0_0.length : Int) - 1)) false _ A71.out).mono ?_); rintro e w' ⟨rfl, ⟨nd, rfl⟩⟩; (try first | exact ⟨rfl, _, World.drewN_drewN _ _ _⟩ | exact ⟨rfl, _, Eq.trans (World.drewN_drewN _ _ _) (congrArg (World.drewN _) (Nat.add_assoc _ _ _))⟩))))
            go_ret
            exact ⟨by first | rfl | (simp [errW_none, errW_some] <;> rfl) | (simp [*, errW_none, errW_some] <;> rfl), bl HB⟩
           rw [if_neg c70] at H
           have c70b0 : (a2_0 == 19) = false := beq_eq_false_iff_ne.mpr c70
           have c70b1 : (a2_0 != 19) = true := bne_iff_ne.mpr c70
           by_cases c87 : a2_0 = 1
           ·
            rw [if_pos c87] at H
            have c87b0 : (a2_0 == 1) = true := beq_iff_eq.mpr c87
            have c87b1 : (a2_0 != 1) = false := bne_eq_false_iff_eq.mpr c87
            clear c87
            replace H := Option.bind_eq_some_iff.mp H
            obtain ⟨t431, A880, H⟩ := H
            replace H : (some t431) = some r := H
            have A88 := Aside0.mk A880
            clear A880
            obtain rfl := Option.some.inj H
            obtain ⟨Ao89, co89, eo89⟩ := Kd.R_slice HO_12.out
            subst eo89
            have hnb90 := NB408_407.out
            have hnc90 := NB407_408.out
            have hnb91 := NB408_413.out
            have hnc91 := NB413_408.out
            obtain ⟨hcz92_0, hcz92_1, hcz92_2, hcz92_3, hcz92_4, hcz92_5, hcz92_6⟩ := bk7 BK408.out
            have hfz92_0 := bf BK408.out
            go_wp2_with (first | (go_at_call 56; (with_reducible refine (portolanref04_within.calls a2_4 (-2147483648) 2147483648 t431 _ A88.out).mono ?_); rintro e w' ⟨rfl, ⟨nd, rfl⟩⟩; (try first | exact ⟨rfl, _, World.drewN_drewN _ _ _⟩ | exact ⟨rfl, _, Eq.trans (World.drewN_drewN _ _ _) (congrArg (World.drewN _) (Nat.add_assoc _ _ _))⟩)))
            repeat (go_quiet (first | (go_at_call 56; (with_reducible refine (portolanref04_within.calls a2_4 (-2147483648) 2147483648 t431 _ A88.out).mono ?_); rintro e w' ⟨rfl, ⟨nd, rfl⟩⟩; (try first | exact ⟨rfl, _, World.drewN_drewN _ _ _⟩ | exact ⟨rfl, _, Eq.trans (World.drewN_drewN _ _ _) (congrArg (World.drewN _) (Nat.add_assoc _ _ _))⟩))); try go_wp2_with (first | (go_at_call 56; (with_reducible refine (portolanref04_within.calls a2_4 (-2147483648) 2147483648 t431 _ A88.out).mono ?_); rintro e w' ⟨rfl, ⟨nd, rfl⟩⟩; (try first | exact ⟨rfl, _, World.drewN_drewN _ _ _⟩ | exact ⟨rfl, _, Eq.trans (World.drewN_drewN _ _ _) (congrArg (World.drewN _) (Nat.add_assoc _ _ _))⟩))))
            go_ret
            exact ⟨by first | rfl | (simp [errW_none, errW_some] <;> rfl) | (simp [*, errW_none, errW_some] <;> rfl), bl HB⟩
           rw [if_neg c87] at H
           have c87b0 : (a2_0 == 1) = false := beq_eq_false_iff_ne.mpr c87
           have c87b1 : (a2_0 != 1) = true := bne_iff_ne.mpr c87
           by_cases c93 : a2_0 = 16
           ·
            rw [if_pos c93] at H
            have c93b0 : (a2_0 == 16) = true := beq_iff_eq.mpr c93
            have c93b1 : (a2_0 != 16) = false := bne_eq_false_iff_eq.mpr c93
            clear c93
            replace H := Option.bind_eq_some_iff.mp H
            obtain ⟨t432, A940, H⟩ := H
            replace H : (some t432) = some r := H
            have A94 := Aside0.mk A940
            clear A940
            obtain rfl := Option.some.inj H
            obtain ⟨Ao95, co95, eo95⟩ := Kd.R_slice HO_12.out
            subst eo95
            have hnb96 := NB408_407.out
            have hnc96 := NB407_408.out
            have hnb97 := NB408_413.out
            have hnc97 := NB413_408.out
            obtain ⟨hcz98_0, hcz98_1, hcz98_2, hcz98_3, hcz98_4, hcz98_5, hcz98_6⟩ := bk7 BK408.out
            have hfz98_0 := bf BK408.out
            go_wp2_with (first | (go_at_call 56; (with_reducible refine (portolanref04_within.calls a2_4 (-8) 8 t432 _ A94.out).mono ?_); rintro e w' ⟨rfl, ⟨nd, rfl⟩⟩; (try first | exact ⟨rfl, _, World.drewN_drewN _ _ _⟩ | exact ⟨rfl, _, Eq.trans (World.drewN_drewN _ _ _) (congrArg (World.drewN _) (Nat.add_assoc _ _ _))⟩)))
            repeat (go_quiet (first | (go_at_call 56; (with_reducible refine (portolanref04_within.calls a2_4 (-8) 8 t432 _ A94.out).mono ?_); rintro e w' ⟨rfl, ⟨nd, rfl⟩⟩; (try first | exact ⟨rfl, _, World.drewN_drewN _ _ _⟩ | exact ⟨rfl, _, Eq.trans (World.drewN_drewN _ _ _) (congrArg (World.drewN _) (Nat.add_assoc _ _ _))⟩))); try go_wp2_with (first | (go_at_call 56; (with_reducible refine (portolanref04_within.calls a2_4 (-8) 8 t432 _ A94.out).mono ?_); rintro e w' ⟨rfl, ⟨nd, rfl⟩⟩; (try first | exact ⟨rfl, _, World.drewN_drewN _ _ _⟩ | exact ⟨rfl, _, Eq.trans (World.drewN_drewN _ _ _) (congrArg (World.drewN _) (Nat.add_assoc _ _ _))⟩))))
            go_ret
            exact ⟨by first | rfl | (simp [errW_none, errW_some] <;> rfl) | (simp [*, errW_none, errW_some] <;> rfl), bl HB⟩
           rw [if_neg c93] at H
           have c93b0 : (a2_0 == 16) = false := beq_eq_false_iff_ne.mpr c93
           have c93b1 : (a2_0 != 16) = true := bne_iff_ne.mpr c93
           by_cases c99 : a2_0 = 10
           ·
            rw [if_pos c99] at H
            have c99b0 : (a2_0 == 10) = true := beq_iff_eq.mpr c99
            have c99b1 : (a2_0 != 10) = false := bne_eq_false_iff_eq.mpr c99
            clear c99
            replace H := Option.bind_eq_some_iff.mp H
            obtain ⟨t433, A1000, H⟩ := H
            replace H : (if t433 = true then ((portolanref04_within.f a2_5 0 8).bind fun t434 => (some t434)) else (some false)) = some r := H
            have A100 := Aside0.mk A1000
            clear A1000
            by_cases c101 : t433 = true
            ·
             subst c101
             have H1 : ((portolanref04_within.f a2_5 0 8).bind fun t434 => (some t434)) = some r := by rw [if_pos rfl] at H; exact H
             clear H
             have H := H1
             clear H1
             replace H := Option.bind_eq_some_iff.mp H
             obtain ⟨t434, A1020, H⟩ := H
             replace H : (some t434) = some r := H
             have A102 := Aside0.mk A1020
             clear A1020
             obtain rfl := Option.some.inj H
             obtain ⟨Ao103, co103, eo103⟩ := Kd.R_slice HO_12.out
             subst eo103
             have hnb104 := NB408_407.out
             have hnc104 := NB407_408.out
             have hnb105 := NB408_413.out
             have hnc105 := NB413_408.out
             obtain ⟨hcz106_0, hcz106_1, hcz106_2, hcz106_3, hcz106_4, hcz106_5, hcz106_6⟩ := bk7 BK408.out
             have hfz106_0 := bf BK408.out
             go_wp2_with (first | (go_at_call 56; (with_reducible refine (portolanref04_within.calls a2_4 0 8 true _ A100.out).mono ?_); rintro e w' ⟨rfl, ⟨nd, rfl⟩⟩; (try first | exact ⟨rfl, _, World.drewN_drewN _ _ _⟩ | exact ⟨rfl, _, Eq.trans (World.drewN_drewN _ _ _) (congrArg (World.drewN _) (Nat.add_assoc _ _ _))⟩)) | (go_at_call 56; (with_reducible refine (portolanref04_within.calls a2_5 0 8 t434 _ A102.out).mono ?_); rintro e w' ⟨rfl, ⟨nd, rfl⟩⟩; (try first | exact ⟨rfl, _, World.drewN_drewN _ _ _⟩ | exact ⟨rfl, _, Eq.trans (World.drewN_drewN _ _ _) (congrArg (World.drewN _) (Nat.add_assoc _ _ _))⟩)))
             repeat (go_quiet (first | (go_at_call 56; (with_reducible refine (portolanref04_within.calls a2_4 0 8 true _ A100.out).mono ?_); rintro e w' ⟨rfl, ⟨nd, rfl⟩⟩; (try first | exact ⟨rfl, _, World.drewN_drewN _ _ _⟩ | exact ⟨rfl, _, Eq.trans (World.drewN_drewN _ _ _) (congrArg (World.drewN _) (Nat.add_assoc _ _ _))⟩)) | (go_at_call 56; (with_reducible refine (portolanref04_within.calls a2_5 0 8 t434 _ A102.out).mono ?_); rintro e w' ⟨rfl, ⟨nd, rfl⟩⟩; (try first | exact ⟨rfl, _, World.drewN_drewN _ _ _⟩ | exact ⟨rfl, _, Eq.trans (World.drewN_drewN _ _ _) (congrArg (World.drewN _) (Nat.add_assoc _ _ _))⟩))); try go_wp2_with (first | (go_at_call 56; (with_reducible refine (portolanref04_within.calls a2_4 0 8 true _ A100.out).mono ?_); rintro e w' ⟨rfl, ⟨nd, rfl⟩⟩; (try first | exact ⟨rfl, _, World.drewN_drewN _ _ _⟩ | exact ⟨rfl, _, Eq.trans (World.drewN_drewN _ _ _) (congrArg (World.drewN _) (Nat.add_assoc _ _ _))⟩)) | (go_at_call 56; (with_reducible refine (portolanref04_within.calls a2_5 0 8 t434 _ A102.out).mono ?_); rintro e w' ⟨rfl, ⟨nd, rfl⟩⟩; (try first | exact ⟨rfl, _, World.drewN_drewN _ _ _⟩ | exact ⟨rfl, _, Eq.trans (World.drewN_drewN _ _ _) (congrArg (World.drewN _) (Nat.add_assoc _ _ _))⟩))))
             go_ret
             exact ⟨by first | rfl | (simp [errW_none, errW_some] <;> rfl) | (simp [*, errW_none, errW_some] <;> rfl), bl HB⟩
            replace c101 := Bool.eq_false_iff.mpr c101
            subst c101
            have H1 : (some false) = some r := by rw [if_neg (show ¬ (false = true) by decide)] at H; exact H
            clear H
            have H := H1
            clear H1
            obtain rfl := Option.some.inj H
            obtain ⟨Ao107, co107, eo107⟩ := Kd.R_slice HO_12.out
            subst eo107
            have hnb108 := NB408_407.out
            have hnc108 := NB407_408.out
            have hnb109 := NB408_413.out
            have hnc109 := NB413_408.out
            obtain ⟨hcz110_0, hcz110_1, hcz110_2, hcz110_3, hcz110_4, hcz110_5, hcz110_6⟩ := bk7 BK408.out
            have hfz110_0 := bf BK408.out
            go_wp2_with (first | (go_at_call 56; (with_reducible refine (portolanref04_within.calls a2_4 0 8 false _ A100.out).mono ?_); rintro e w' ⟨rfl, ⟨nd, rfl⟩⟩; (try first | exact ⟨rfl, _, World.drewN_drewN _ _ _⟩ | exact ⟨rfl, _, Eq.trans (World.drewN_drewN _ _ _) (congrArg (World.drewN _) (Nat.add_assoc _ _ _))⟩)))
            repeat (go_quiet (first | (go_at_call 56; (with_reducible refine (portolanref04_within.calls a2_4 0 8 false _ A100.out).mono ?_); rintro e w' ⟨rfl, ⟨nd, rfl⟩⟩; (try first | exact ⟨rfl, _, World.drewN_drewN _ _ _⟩ | exact ⟨rfl, _, Eq.trans (World.drewN_drewN _ _ _) (congrArg (World.drewN _) (Nat.add_assoc _ _ _))⟩))); try go_wp2_with (first | (go_at_call 56; (with_reducible refine (portolanref04_within.calls a2_4 0 8 false _ A100.out).mono ?_); rintro e w' ⟨rfl, ⟨nd, rfl⟩⟩; (try first | exact ⟨rfl, _, World.drewN_drewN _ _ _⟩ | exact ⟨rfl, _, Eq.trans (World.drewN_drewN _ _ _) (congrArg (World.drewN _) (Nat.add_assoc _ _ _))⟩))))
            go_ret
            exact ⟨by first | rfl | (simp [errW_none, errW_some] <;> rfl) | (simp [*, errW_none, errW_some] <;> rfl), bl HB⟩
           rw [if_neg c99] at H
           have c99b0 : (a2_0 == 10) = false := beq_eq_false_iff_ne.mpr c99
           have c99b1 : (a2_0 != 10) = true := bne_iff_ne.mpr c99
           by_cases c111 : a2_0 = 11
           ·
            rw [if_pos c111] at H
            have c111b0 : (a2_0 == 11) = true := beq_iff_eq.mpr c111
            have c111b1 : (a2_0 != 11) = false := bne_eq_false_iff_eq.mpr c111
            clear c111
            replace H := Option.bind_eq_some_iff.mp H
            obtain ⟨t435, A1120, H⟩ := H
            replace H : (some t435) = some r := H
            have A112 := Aside0.mk A1120
            clear A1120
            obtain rfl := Option.some.inj H
            obtain ⟨Ao113, co113, eo113⟩ := Kd.R_slice HO_12.out
            subst eo113
            have hnb114 := NB408_407.out
            have hnc114 := NB407_408.out
            have hnb115 := NB408_413.out
            have hnc115 := NB413_408.out
            obtain ⟨hcz116_0, hcz116_1, hcz116_2, hcz116_3, hcz116_4, hcz116_5, hcz116_6⟩ := bk7 BK408.out
            have hfz116_0 := bf BK408.out
            go_wp2_with (first | (go_at_call 56; (with_reducible refine (portolanref04_within.calls a2_4 0 7 t435 _ A112.out).mono ?_); rintro e w' ⟨rfl, ⟨nd, rfl⟩⟩; (try first | exact ⟨rfl, _, World.drewN_drewN _ _ _⟩ | exact ⟨rfl, _, Eq.trans (World.drewN_drewN _ _ _) (congrArg (World.drewN _) (Nat.add_assoc _ _ _))⟩)))
            repeat (go_quiet (first | (go_at_call 56; (with_reducible refine (portolanref04_within.calls a2_4 0 7 t435 _ A112.out).mono ?_); rintro e w' ⟨rfl, ⟨nd, rfl⟩⟩; (try first | exact ⟨rfl, _, World.drewN_drewN _ _ _⟩ | exact ⟨rfl, _, Eq.trans (World.drewN_drewN _ _ _) (congrArg (World.drewN _) (Nat.add_assoc _ _ _))⟩))); try go_wp2_with (first | (go_at_call 56; (with_reducible refine (portolanref04_within.calls a2_4 0 7 t435 _ A112.out).mono ?_); rintro e w' ⟨rfl, ⟨nd, rfl⟩⟩; (try first | exact ⟨rfl, _, World.drewN_drewN _ _ _⟩ | exact ⟨rfl, _, Eq.trans (World.drewN_drewN _ _ _) (congrArg (World.drewN _) (Nat.add_assoc _ _ _))⟩))))
            go_ret
            exact ⟨by first | rfl | (simp [errW_none, errW_some] <;> rfl) | (simp [*, errW_none, errW_some] <;> rfl), bl HB⟩
           rw [if_neg c111] at H
           have c111b0 : (a2_0 == 11) = false := beq_eq_false_iff_ne.mpr c111
           have c111b1 : (a2_0 != 11) = true := bne_iff_ne.mpr c111
           by_cases c117 : a2_0 = 12
           ·
            rw [if_pos c117] at H
            have c117b0 : (a2_0 == 12) = true := beq_iff_eq.mpr c117
            have c117b1 : (a2_0 != 12) = false := bne_eq_false_iff_eq.mpr c117
            clear c117
            replace H := Option.bind_eq_some_iff.mp H
            obtain ⟨t436, A1180, H⟩ := H
            replace H : (some t436) = some r := H
            have A118 := Aside0.mk A1180
            clear A1180
            obtain rfl := Option.some.inj H
            obtain ⟨Ao119, co119, eo119⟩ := Kd.R_slice HO_12.out
            subst eo119
            have hnb120 := NB408_407.out
            have hnc120 := NB407_408.out
            have hnb121 := NB408_413.out
            have hnc121 := NB413_408.out
            obtain ⟨hcz122_0, hcz122_1, hcz122_2, hcz122_3, hcz122_4, hcz122_5, hcz122_6⟩ := bk7 BK408.out
            have hfz122_0 := bf BK408.out
            go_wp2_with (first | (go_at_call 56; (with_reducible refine (portolanref04_within.calls a2_4 0 7 t436 _ A118.out).mono ?_); rintro e w' ⟨rfl, ⟨nd, rfl⟩⟩; (try first | exact ⟨rfl, _, World.drewN_drewN _ _ _⟩ | exact ⟨rfl, _, Eq.trans (World.drewN_drewN _ _ _) (congrArg (World.drewN _) (Nat.add_assoc _ _ _))⟩)))
            repeat (go_quiet (first | (go_at_call 56; (with_reducible refine (portolanref04_within.calls a2_4 0 7 t436 _ A118.out).mono ?_); rintro e w' ⟨rfl, ⟨nd, rfl⟩⟩; (try first | exact ⟨rfl, _, World.drewN_drewN _ _ _⟩ | exact ⟨rfl, _, Eq.trans (World.drewN_drewN _ _ _) (congrArg (World.drewN _) (Nat.add_assoc _ _ _))⟩))); try go_wp2_with (first | (go_at_call 56; (with_reducible refine (portolanref04_within.calls a2_4 0 7 t436 _ A118.out).mono ?_); rintro e w' ⟨rfl, ⟨nd, rfl⟩⟩; (try first | exact ⟨rfl, _, World.drewN_drewN _ _ _⟩ | exact ⟨rfl, _, Eq.trans (World.drewN_drewN _ _ _) (congrArg (World.drewN _) (Nat.add_assoc _ _ _))⟩))))
            go_ret
            exact ⟨by first | rfl | (simp [errW_none, errW_some] <;> rfl) | (simp [*, errW_none, errW_some] <;> rfl), bl HB⟩
           rw [if_neg c117] at H
           have c117b0 : (a2_0 == 12) = false := beq_eq_false_iff_ne.mpr c117
           have c117b1 : (a2_0 != 12) = true := bne_iff_ne.mpr c117
           by_cases c123 : a2_0 = 13
           ·
            rw [if_pos c123] at H
            have c123b0 : (a2_0 == 13) = true := beq_iff_eq.mpr c123
            have c123b1 : (a2_0 != 13) = false := bne_eq_false_iff_eq.mpr c123
            clear c123
            replace H := Option.bind_eq_some_iff.mp H
            obtain ⟨t437, A1240, H⟩ := H
            replace H : (some t437) = some r := H
            have A124 := Aside0.mk A1240
            clear A1240
            obtain rfl := Option.some.inj H
            obtain ⟨Ao125, co125, eo125⟩ := Kd.R_slice HO_12.out
            subst eo125
            have hnb126 := NB408_407.out
            have hnc126 := NB407_408.out
            have hnb127 := NB408_413.out
            have hnc127 := NB413_408.out
            obtain ⟨hcz128_0, hcz128_1, hcz128_2, hcz128_3, hcz128_4, hcz128_5, hcz128_6⟩ := bk7 BK408.out
            have hfz128_0 := bf BK408.out
            go_wp2_with (first | (go_at_call 56; (with_reducible refine (portolanref04_within.calls a2_4 0 7 t437 _ A124.out).mono ?_); rintro e w' ⟨rfl, ⟨nd, rfl⟩⟩; (try first | exact ⟨rfl, _, World.drewN_drewN _ _ _⟩ | exact ⟨rfl, _, Eq.trans (World.drewN_drewN _ _ _) (congrArg (World.drewN _) (Nat.add_assoc _ _ _))⟩)))
            repeat (go_quiet (first | (go_at_call 56; (with_reducible refine (portolanref04_within.calls a2_4 0 7 t437 _ A124.out).mono ?_); rintro e w' ⟨rfl, ⟨nd, rfl⟩⟩; (try first | exact ⟨rfl, _, World.drewN_drewN _ _ _⟩ | exact ⟨rfl, _, Eq.trans (World.drewN_drewN _ _ _) (congrArg (World.drewN _) (Nat.add_assoc _ _ _))⟩))); try go_wp2_with (first | (go_at_call 56; (with_reducible refine (portolanref04_within.calls a2_4 0 7 t437 _ A124.out).mono ?_); rintro e w' ⟨rfl, ⟨nd, rfl⟩⟩; (try first | exact ⟨rfl, _, World.drewN_drewN _ _ _⟩ | exact ⟨rfl, _, Eq.trans (World.drewN_drewN _ _ _) (congrArg (World.drewN _) (Nat.add_assoc _ _ _))⟩))))
            go_ret
            exact ⟨by first | rfl | (simp [errW_none, errW_some] <;> rfl) | (simp [*, errW_none, errW_some] <;> rfl), bl HB⟩
           rw [if_neg c123] at H
           have c123b0 : (a2_0 == 13) = false := beq_eq_false_iff_ne.mpr c123
           have c123b1 : (a2_0 != 13) = true := bne_iff_ne.mpr c123
           by_cases c129 : a2_0 = 14
           ·
            rw [if_pos c129] at H
            have c129b0 : (a2_0 == 14) = true := beq_iff_eq.mpr c129
            have c129b1 : (a2_0 != 14) = false := bne_eq_false_iff_eq.mpr c129
            clear c129
            replace H := Option.bind_eq_some_iff.mp H
            obtain ⟨t438, A1300, H⟩ := H
            replace H : (some t438) = some r := H
            have A130 := Aside0.mk A1300
            clear A1300
            obtain rfl := Option.some.inj H
            obtain ⟨Ao131, co131, eo131⟩ := Kd.R_slice HO_12.out
            subst eo131
            have hnb132 := NB408_407.out
            have hnc132 := NB407_408.out
            have hnb133 := NB408_413.out
            have hnc133 := NB413_408.out
            obtain ⟨hcz134_0, hcz134_1, hcz134_2, hcz134_3, hcz134_4, hcz134_5, hcz134_6⟩ := bk7 BK408.out
            have hfz134_0 := bf BK408.out
            go_wp2_with (first | (go_at_call 56; (with_reducible refine (portolanref04_within.calls a2_4 0 7 t438 _ A130.out).mono ?_); rintro e w' ⟨rfl, ⟨nd, rfl⟩⟩; (try first | exact ⟨rfl, _, World.drewN_drewN _ _ _⟩ | exact ⟨rfl, _, Eq.trans (World.drewN_drewN _ _ _) (congrArg (World.drewN _) (Nat.add_assoc _ _ _))⟩)))
            repeat (go_quiet (first | (go_at_call 56; (with_reducible refine (portolanref04_within.calls a2_4 0 7 t438 _ A130.out).mono ?_); rintro e w' ⟨rfl, ⟨nd, rfl⟩⟩; (try first | exact ⟨rfl, _, World.drewN_drewN _ _ _⟩ | exact ⟨rfl, _, Eq.trans (World.drewN_drewN _ _ _) (congrArg (World.drewN _) (Nat.add_assoc _ _ _))⟩))); try go_wp2_with (first | (go_at_call 56; (with_reducible refine (portolanref04_within.calls a2_4 0 7 t438 _ A130.out).mono ?_); rintro e w' ⟨rfl, ⟨nd, rfl⟩⟩; (try first | exact ⟨rfl, _, World.drewN_drewN _ _ _⟩ | exact ⟨rfl, _, Eq.trans (World.drewN_drewN _ _ _) (congrArg (World.drewN _) (Nat.add_assoc _ _ _))⟩))))
            go_ret
            exact ⟨by first | rfl | (simp [errW_none, errW_some] <;> rfl) | (simp [*, errW_none, errW_some] <;> rfl), bl HB⟩
           rw [if_neg c129] at H
           have c129b0 : (a2_0 == 14) = false := beq_eq_false_iff_ne.mpr c129
           have c129b1 : (a2_0 != 14) = true := bne_iff_ne.mpr c129
           by_cases c135 : a2_0 = 15
           ·
            rw [if_pos c135] at H
            have c135b0 : (a2_0 == 15) = true := beq_iff_eq.mpr c135
            have c135b1 : (a2_0 != 15) = false := bne_eq_false_iff_eq.mpr c135
            clear c135
            replace H := Option.bind_eq_some_iff.mp H
            obtain ⟨t439, A1360, H⟩ := H
            replace H : (some t439) = some r := H
            have A136 := Aside0.mk A1360
            clear A1360
            obtain rfl := Option.some.inj H
            obtain ⟨Ao137, co137, eo137⟩ := Kd.R_slice HO_12.out
            subst eo137
            have hnb138 := NB408_407.out
            have hnc138 := NB407_408.out
            have hnb139 := NB408_413.out
            have hnc139 := NB413_408.out
            obtain ⟨hcz140_0, hcz140_1, hcz140_2, hcz140_3, hcz140_4, hcz140_5, hcz140_6⟩ := bk7 BK408.out
            have hfz140_0 := bf BK408.out
            go_wp2_with (first | (go_at_call 56; (with_reducible refine (portolanref04_within.calls a2_4 0 7 t439 _ A136.out).mono ?_); rintro e w' ⟨rfl, ⟨nd, rfl⟩⟩; (try first | exact ⟨rfl, _, World.drewN_drewN _ _ _⟩ | exact ⟨rfl, _, Eq.trans (World.drewN_drewN _ _ _) (congrArg (World.drewN _) (Nat.add_assoc _ _ _))⟩)))
            repeat (go_quiet (first | (go_at_call 56; (with_reducible refine (portolanref04_within.calls a2_4 0 7 t439 _ A136.out).mono ?_); rintro e w' ⟨rfl, ⟨nd, rfl⟩⟩; (try first | exact ⟨rfl, _, World.drewN_drewN _ _ _⟩ | exact ⟨rfl, _, Eq.trans (World.drewN_drewN _ _ _) (congrArg (World.drewN _) (Nat.add_assoc _ _ _))⟩))); try go_wp2_with (first | (go_at_call 56; (with_reducible refine (portolanref04_within.calls a2_4 0 7 t439 _ A136.out).mono ?_); rintro e w' ⟨rfl, ⟨nd, rfl⟩⟩; (try first | exact ⟨rfl, _, World.drewN_drewN _ _ _⟩ | exact ⟨rfl, _, Eq.trans (World.drewN_drewN _ _ _) (congrArg (World.drewN _) (Nat.add_assoc _ _ _))⟩))))
            go_ret
            exact ⟨by first | rfl | (simp [errW_none, errW_some] <;> rfl) | (simp [*, errW_none, errW_some] <;> rfl), bl HB⟩
           rw [if_neg c135] at H
           have c135b0 : (a2_0 == 15) = false := beq_eq_false_iff_ne.mpr c135
           have c135b1 : (a2_0 != 15) = true := bne_iff_ne.mpr c135
           obtain rfl := Option.some.inj H
           obtain ⟨Ao141, co141, eo141⟩ := Kd.R_slice HO_12.out
           subst eo141
           have hnb142 := NB408_407.out
           have hnc142 := NB407_408.out
           have hnb143 := NB408_413.out
           have hnc143 := NB413_408.out
           obtain ⟨hcz144_0, hcz144_1, hcz144_2, hcz144_3, hcz144_4, hcz144_5, hcz144_6⟩ := bk7 BK408.out
           have hfz144_0 := bf BK408.out
           go_wp2
           repeat (go_quiet (fail); try go_wp2)
           go_ret
           exact ⟨by first | rfl | (simp [errW_none, errW_some] <;> rfl) | (simp [*, errW_none, errW_some] <;> rfl), bl HB⟩
    rw [if_neg c23] at H
    exact absurd H (by simp)
   rw [if_neg c22] at H
   exact absurd H (by simp)
end Go.Proofs.YtdmimhjmbdkhmaaDoor.X
