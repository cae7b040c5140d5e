/- Part of a proof about the Go function named in the last text of this claim. -/
import Derived.Test.YtdmimhjmbdkhmaaDoorZw
import Derived.Test.YtdmimhjmbdkhmaaDoorXx0
import Derived.Test.YtdmimhjmbdkhmaaDoorXx3
set_option linter.unusedVariables false
set_option linter.unusedSimpArgs false
namespace Go.Proofs.YtdmimhjmbdkhmaaDoor.X
open Go.RowKit Go.Proofs.YtdmimhjmbdkhmaaDoorW.PrintWords Go.Proofs.YtdmimhjmbdkhmaaDoorW.PrintLast Go.Proofs.YtdmimhjmbdkhmaaDoorW.PrintMore
attribute [local go_sem] max2_int min2_int max_two min_two max_three min_three max_four min_four
set_option linter.unusedVariables false
set_option linter.unusedSimpArgs false
mutual
def flow_Prev.j0 : Nat → Int → Bool → List Int → List Int → Int → Int → List (S40) → Option (List Int)
 | 0, _, _, _, _, _, _, _ => none
 | k + 1, x1, x15, x202000, x202001, x202002, x202003, x202004 => if x15 = true then (some ([] : List Int)) else (flow_Prev.l0 k x1 ([] : List Int) (x202004.length : Int) 0 x202000 x202001 x202002 x202003 x202004)
def flow_Prev.l0 : Nat → Int → List Int → Int → Int → List Int → List Int → Int → Int → List (S40) → Option (List Int)
 | 0, _, _, _, _, _, _, _, _, _ => none
 | k + 1, x1, x5, x18, x19, x202000, x202001, x202002, x202003, x202004 => if x19 < x18 then ((flow_Next.f k x202000 x202001 x202002 x202003 x202004 x19).bind fun t202 => ((slices_Contains_int_int.f k t202 x1).bind fun t205 => (if t205 = true then (if x5.length < 17592186044416 then (flow_Prev.l0 k x1 (x5 ++ [x19]) x18 (wrap64 (x19 + 1)) x202000 x202001 x202002 x202003 x202004) else (none)) else (flow_Prev.l0 k x1 x5 x18 (wrap64 (x19 + 1)) x202000 x202001 x202002 x202003 x202004)))) else (some x5)
end
def flow_Prev.f (k : Nat) (l0_0 : List Int) (l0_1 : List Int) (a0_2 : Int) (a0_3 : Int) (l0_4 : List (S40)) (a1 : Int) : Option (List Int) := if a1 < 0 then (flow_Prev.j0 k a1 true l0_0 l0_1 a0_2 a0_3 l0_4) else (flow_Prev.j0 k a1 (decide (a1 ≥ (l0_4.length : Int))) l0_0 l0_1 a0_2 a0_3 l0_4)
theorem flow_Prev.mono_l : ∀ k, (∀ y0 y1 y2 y3 y4 y5 y6, LeO (flow_Prev.j0 k y0 y1 y2 y3 y4 y5 y6) (flow_Prev.j0 (k + 1) y0 y1 y2 y3 y4 y5 y6)) ∧ (∀ y0 y1 y2 y3 y4 y5 y6 y7 y8, LeO (flow_Prev.l0 k y0 y1 y2 y3 y4 y5 y6 y7 y8) (flow_Prev.l0 (k + 1) y0 y1 y2 y3 y4 y5 y6 y7 y8))
 | 0 => ⟨fun _ _ _ _ _ _ _ r h => by simp [flow_Prev.j0] at h, fun _ _ _ _ _ _ _ _ _ r h => by simp [flow_Prev.l0] at h⟩
 | k + 1 => by
  obtain ⟨ih0, ih1⟩ := flow_Prev.mono_l k
  refine ⟨?_, ?_⟩
  ·
   intro y0 y1 y2 y3 y4 y5 y6
   unfold flow_Prev.j0
   repeat' first
   | (with_reducible exact ih0 _ _ _ _ _ _ _)
   | (with_reducible exact ih1 _ _ _ _ _ _ _ _ _)
   | (with_reducible exact flow_Next.mono _ _ _ _ _ _ _)
   | (with_reducible exact slices_Contains_int_int.mono _ _ _)
   | (with_reducible exact LeO.refl _)
   | (with_reducible exact LeO.none _)
   | (with_reducible refine LeO.ite ?_ ?_)
   | (with_reducible refine LeO.bind ?_ (fun _ => ?_))
   | exact ih0 _ _ _ _ _ _ _
   | exact ih1 _ _ _ _ _ _ _ _ _
   | exact flow_Next.mono _ _ _ _ _ _ _
   | exact slices_Contains_int_int.mono _ _ _
   | exact LeO.none _
   | refine LeO.ite ?_ ?_
   | refine LeO.bind ?_ (fun _ => ?_)
  intro y0 y1 y2 y3 y4 y5 y6 y7 y8
  unfold flow_Prev.l0
  repeat' first
  | (with_reducible exact ih0 _ _ _ _ _ _ _)
  | (with_reducible exact ih1 _ _ _ _ _ _ _ _ _)
  | (with_reducible exact flow_Next.mono _ _ _ _ _ _ _)
  | (with_reducible exact slices_Contains_int_int.mono _ _ _)
  | (with_reducible exact LeO.refl _)
  | (with_reducible exact LeO.none _)
  | (with_reducible refine LeO.ite ?_ ?_)
  | (with_reducible refine LeO.bind ?_ (fun _ => ?_))
  | exact ih0 _ _ _ _ _ _ _
  | exact ih1 _ _ _ _ _ _ _ _ _
  | exact flow_Next.mono _ _ _ _ _ _ _
  | exact slices_Contains_int_int.mono _ _ _
  | exact LeO.none _
  | refine LeO.ite ?_ ?_
  | refine LeO.bind ?_ (fun _ => ?_)
theorem flow_Prev.mono : ∀ a0 a1 a2 a3 a4 a5 k, LeO (flow_Prev.f k a0 a1 a2 a3 a4 a5) (flow_Prev.f (k + 1) a0 a1 a2 a3 a4 a5) := by
 intro a0 a1 a2 a3 a4 a5 k
 obtain ⟨ih0, ih1⟩ := flow_Prev.mono_l k
 unfold flow_Prev.f
 repeat' first
  | (with_reducible exact ih0 _ _ _ _ _ _ _)
  | (with_reducible exact ih1 _ _ _ _ _ _ _ _ _)
  | (with_reducible exact flow_Next.mono _ _ _ _ _ _ _)
  | (with_reducible exact slices_Contains_int_int.mono _ _ _)
  | (with_reducible exact LeO.refl _)
  | (with_reducible exact LeO.none _)
  | (with_reducible refine LeO.ite ?_ ?_)
  | (with_reducible refine LeO.bind ?_ (fun _ => ?_))
  | exact ih0 _ _ _ _ _ _ _
  | exact ih1 _ _ _ _ _ _ _ _ _
  | exact flow_Next.mono _ _ _ _ _ _ _
  | exact slices_Contains_int_int.mono _ _ _
  | exact LeO.none _
  | refine LeO.ite ?_ ?_
  | refine LeO.bind ?_ (fun _ => ?_)
set_option maxHeartbeats 8000000 in
set_option maxRecDepth 100000 in
theorem flow_Prev.calls (k : Nat) (A0_0 : Option Addr) (c0_0 : Nat) (l0_0 : List Int) (A0_1 : Option Addr) (c0_1 : Nat) (l0_1 : List Int) (a0_2 : Int) (a0_3 : Int) (A0_4 : Option Addr) (c0_4 : Nat) (l0_4 : List (S40)) (a1 : Int) (r : List Int) (w : World) (hr0_0 : Kd.C (Kd.int .i64) w A0_0 l0_0.length l0_0) (hc0_0 : l0_0.length ≤ c0_0) (hr0_1 : Kd.C (Kd.int .i64) w A0_1 l0_1.length l0_1) (hc0_1 : l0_1.length ≤ c0_1) (hr0_4 : Kd.C k40 w A0_4 l0_4.length l0_4) (hc0_4 : l0_4.length ≤ c0_4) (h : flow_Prev.f k l0_0 l0_1 a0_2 a0_3 l0_4 a1 = some r) :
 Calls Tryd.prog 63 #[.agg #[.slice A0_0 l0_0.length c0_0, .slice A0_1 l0_1.length c0_1, .int .i64 a0_2, .int .i64 a0_3, .slice A0_4 l0_4.length c0_4], .int .i64 a1] w fun e w' => ∃ v0_ : Value, e = .returned (v0_) ∧ Kd.R (Kd.int .i64) 3 w' w.heap.size (fun _ => True) v0_ r ∧ Below w.heap.size w w' := by
 have hu30 := Tryd.underlying30
 have HR0_0 := Aside0.mk hr0_0
 have HC0_0 := Aside0.mk hc0_0
 clear hr0_0 hc0_0
 have HR0_1 := Aside0.mk hr0_1
 have HC0_1 := Aside0.mk hc0_1
 clear hr0_1 hc0_1
 have HR0_4 := Aside0.mk hr0_4
 have HC0_4 := Aside0.mk hc0_4
 clear hr0_4 hc0_4
 have HB := Aside0.mk (Below.refl w.heap.size w)
 have H : (if a1 < 0 then (flow_Prev.j0 k a1 true l0_0 l0_1 a0_2 a0_3 l0_4) else (flow_Prev.j0 k a1 (decide (a1 ≥ (l0_4.length : Int))) l0_0 l0_1 a0_2 a0_3 l0_4)) = some r := h
 clear h
 have HC3 := Aside0.mk H
 clear H
 go_enter Tryd.func63, Tryd.ntmps63
 go_upto_region 1 with (first | ((with_reducible refine gate_dst (N := 2) rfl ?_); (try (refine gate_guard (by rfl) ?_; dsimp only)); refine box_event ?hg (N := 2) ?hd (cs := #[.slice A0_0 l0_0.length c0_0, .slice A0_1 l0_1.length c0_1, .int .i64 a0_2, .int .i64 a0_3, .slice A0_4 l0_4.length c0_4]) (t := 30) ?hr ?_; (case hd => rfl); (case hg => rfl); (case hr => first | (go_simp; done) | (go_simp; rfl)); intro gb201 hg w4 hbox hb; have BK201 := Aside0.mk (hbox); have GW201 := ge hg (bl HB); have GE201 := ge hg (bl HB); replace HB := Aside0.mk (below_step (bl HB) hb); clear hb hbox hg))
 (try simp only [Act.put, List.setIfInBounds_toArray, List.set_cons_zero, List.set_cons_succ])
 go_cut [15] (fun v15 wc => ∃ (kq : Nat) (x15_2 : Bool), v15 = .bool x15_2 ∧ Aside0 (flow_Prev.j0 kq a1 x15_2 l0_0 l0_1 a0_2 a0_3 l0_4 = some r) ∧ Aside0 (kq ≤ k) ∧ Aside0 (wc.heap[gb201]? = some (.cells #[(.slice A0_0 l0_0.length c0_0), (.slice A0_1 l0_1.length c0_1), .int .i64 a0_2, .int .i64 a0_3, (.slice A0_4 l0_4.length c0_4)] 30 (0, 0))) ∧ Aside0 (Below w.heap.size w wc))
 case first =>
  have H := HC3.out
  clear HC3
  by_cases c5 : a1 < 0
  ·
   rw [if_pos c5] at H
   have c5b0 : decide (a1 < 0) = true := decide_eq_true c5
   clear c5
   (first | rw [c5b0] | (simp only [i64_w, i32_w]; rw [c5b0]) | skip)
   have H' := Aside0.mk H
   clear H
   go_wp2
   go_meet
   case rel => exact ⟨_, (true), (by first | rfl | (simp; done) | (simp [*]; done)), H', ⟨by first | omega | exact Nat.le_refl _⟩, ⟨bx BK201.out⟩, ⟨bl HB⟩⟩
  rw [if_neg c5] at H
  have c5b0 : decide (a1 < 0) = false := decide_eq_false c5
  clear c5
  (first | rw [c5b0] | (simp only [i64_w, i32_w]; rw [c5b0]) | skip)
  have H' := Aside0.mk H
  clear H
  obtain ⟨hcz6_0, hcz6_1, hcz6_2, hcz6_3, hcz6_4⟩ := bk5 BK201.out
  have hfz6_0 := bf BK201.out
  go_wp2
  go_meet
  case rel => exact ⟨_, (decide (a1 ≥ (l0_4.length : Int))), (by first | rfl | (simp; done) | (simp [*]; done)), H', ⟨by first | omega | exact Nat.le_refl _⟩, ⟨bx BK201.out⟩, ⟨bl HB⟩⟩
 case rest =>
  clear HC3
  try clear p2
  try clear c5
  try clear c5b0
  try clear c6
  try clear hcz6_0 hcz6_1 hcz6_2 hcz6_3 hcz6_4
  try clear hfz6_0
  obtain ⟨kq, x15_2, rfl, HA, HJ2, BK201, HB⟩ := hcut
  cases kq with
  | zero => exact absurd HA.out (by simp [flow_Prev.j0])
  | succ kj2 =>
   have H := HA.out
   clear HA
   simp only [flow_Prev.j0] at H
   by_cases c7 : x15_2 = true
   ·
    subst c7
    have H1 : (some ([] : List Int)) = some r := by rw [if_pos rfl] at H; exact H
    clear H
    have H := H1
    clear H1
    obtain rfl := Option.some.inj H
    go_wp2
    go_ret
    exact ⟨_, by first | rfl | (simp [errW_none, errW_some] <;> rfl) | (simp [*, errW_none, errW_some] <;> rfl), by first | exact Kd.R_nil _ _ _ _ _ | exact Kd.N_nil _ _ _ _ _ | exact Kd.V_nil _ _ _ _ _ | exact Kd.Q_nil _ _ _ _ _ | exact Kd.S_nil _ _ _ _ _, bl HB⟩
   replace c7 := Bool.eq_false_iff.mpr c7
   subst c7
   have H1 : (flow_Prev.l0 kj2 a1 ([] : List Int) (l0_4.length : Int) 0 l0_0 l0_1 a0_2 a0_3 l0_4) = some r := by rw [if_neg (show ¬ (false = true) by decide)] at H; exact H
   clear H
   have H := H1
   clear H1
   have H' := Aside0.mk H
   clear H
   obtain ⟨hcz8_0, hcz8_1, hcz8_2, hcz8_3, hcz8_4⟩ := bk5 BK201.out
   have hfz8_0 := bf BK201.out
   go_wp2
   go_loopg [5, 19] kj2 (fun kq v5 v19 w' => ∃ (x5_2 : List Int) (x19_2 : Int), v19 = .int .i64 x19_2 ∧ Aside0 (flow_Prev.l0 kq a1 x5_2 (l0_4.length : Int) x19_2 l0_0 l0_1 a0_2 a0_3 l0_4 = some r) ∧ Aside0 (kq ≤ kj2) ∧ Aside0 (Kd.R (Kd.int .i64) 3 w' w.heap.size (fun _ => True) v5 x5_2) ∧ Aside0 (w'.heap[gb201]? = some (.cells #[(.slice A0_0 l0_0.length c0_0), (.slice A0_1 l0_1.length c0_1), .int .i64 a0_2, .int .i64 a0_3, (.slice A0_4 l0_4.length c0_4)] 30 (0, 0))) ∧ Aside0 (Below w.heap.size w w'))
   case atStart => exact ⟨(([] : List Int)), (0), (by first | rfl | (simp; done) | (simp [*]; done)), H', ⟨Nat.le_refl _⟩, ⟨by first | exact Kd.R_nil _ _ _ _ _ | exact Kd.N_nil _ _ _ _ _ | exact Kd.V_nil _ _ _ _ _ | exact Kd.Q_nil _ _ _ _ _ | exact Kd.S_nil _ _ _ _ _⟩, ⟨bx BK201.out⟩, ⟨bl HB⟩⟩
   case round =>
    clear H'
    try clear p2
    try clear c5
    try clear c5b0
    try clear c6
    try clear c7
    try clear hcz6_0 hcz6_1 hcz6_2 hcz6_3 hcz6_4
    try clear hcz8_0 hcz8_1 hcz8_2 hcz8_3 hcz8_4
    try clear hfz6_0
    try clear hfz8_0
    try clear p2
    obtain ⟨x5_2, x19_2, rfl, HA, HK2, HO_5, BK201, HB⟩ := hrel
    cases gk with
    | zero => exact absurd HA.out (by simp [flow_Prev.l0])
    | succ k2 =>
     have H := HA.out
     clear HA
     simp only [flow_Prev.l0] at H
     by_cases c9 : x19_2 < (l0_4.length : Int)
     ·
      rw [if_pos c9] at H
      have c9b0 : decide (x19_2 < (l0_4.length : Int)) = true := decide_eq_true c9
      clear c9
      replace H := Option.bind_eq_some_iff.mp H
      obtain ⟨t202, A100, H⟩ := H
      replace H : ((slices_Contains_int_int.f k2 t202 a1).bind fun t205 => (if t205 = true then (if x5_2.length < 17592186044416 then (flow_Prev.l0 k2 a1 (x5_2 ++ [x19_2]) (l0_4.length : Int) (wrap64 (x19_2 + 1)) l0_0 l0_1 a0_2 a0_3 l0_4) else (none)) else (flow_Prev.l0 k2 a1 x5_2 (l0_4.length : Int) (wrap64 (x19_2 + 1)) l0_0 l0_1 a0_2 a0_3 l0_4))) = some r := H
      have A10 := Aside0.mk A100
      clear A100
      replace H := Option.bind_eq_some_iff.mp H
      obtain ⟨t205, A110, H⟩ := H
      replace H : (if t205 = true then (if x5_2.length < 17592186044416 then (flow_Prev.l0 k2 a1 (x5_2 ++ [x19_2]) (l0_4.length : Int) (wrap64 (x19_2 + 1)) l0_0 l0_1 a0_2 a0_3 l0_4) else (none)) else (flow_Prev.l0 k2 a1 x5_2 (l0_4.length : Int) (wrap64 (x19_2 + 1)) l0_0 l0_1 a0_2 a0_3 l0_4)) = some r := H
      have A11 := Aside0.mk A110
      clear A110
      by_cases c12 : t205 = true
      ·
       subst c12
       have H1 : (if x5_2.length < 17592186044416 then (flow_Prev.l0 k2 a1 (x5_2 ++ [x19_2]) (l0_4.length : Int) (wrap64 (x19_2 + 1)) l0_0 l0_1 a0_2 a0_3 l0_4) else (none)) = some r := by rw [if_pos rfl] at H; exact H
       clear H
       have H := H1
       clear H1
       by_cases c13 : x5_2.length < 17592186044416
       ·
        rw [if_pos c13] at H
        have LMc13 := Aside0.mk c13
        clear c13
        obtain ⟨y206, hy206⟩ : ∃ y_ : List Int, y_ = (x5_2 ++ [x19_2]) := ⟨_, rfl⟩
        replace H : (flow_Prev.l0 k2 a1 y206 (l0_4.length : Int) (wrap64 (x19_2 + 1)) l0_0 l0_1 a0_2 a0_3 l0_4) = some r := by first | (rw [hy206]; with_reducible exact H) | (have H2_ := (Option.bind_some _ _).symm.trans H; rw [hy206]; with_reducible exact H2_) | (have H2_ := (Option.bind_some _ _).symm.trans H; with_reducible exact H2_) | with_reducible exact H | (rw [hy206]; exact H) | exact H
        have Ny206 := Aside0.mk hy206
        clear hy206
        have H' := Aside0.mk H
        clear H
        obtain ⟨hcz14_0, hcz14_1, hcz14_2, hcz14_3, hcz14_4⟩ := bk5 BK201.out
        have hfz14_0 := bf BK201.out
        go_wp2_with (first | ((with_reducible refine gate_callee (f := 60) rfl ?_); refine goesL_ (some 24) rfl rfl Tryd.func60 (by kernel_rfl) rfl #[.agg #[.slice A0_0 l0_0.length c0_0, .slice A0_1 l0_1.length c0_1, .int .i64 a0_2, .int .i64 a0_3, .slice A0_4 l0_4.length c0_4], .int .i64 x19_2] rfl (by (try simp only [List.map_toArray, List.map_cons, List.map_nil]); first | done | rfl) ?_; (with_reducible refine (flow_Next.calls k2 _ _ l0_0 _ _ l0_1 a0_2 a0_3 _ _ l0_4 x19_2 t202 _ ?side1 ?side2 ?side3 ?side4 ?side5 ?side6 A10.out).mono ?_); (case side1 => exact Kd.Cx (Kd.C_below HR0_0.out HB.out)); (case side2 => exact HC0_0.out); (case side3 => exact Kd.Cx (Kd.C_below HR0_1.out HB.out)); (case side4 => exact HC0_1.out); (case side5 => exact Kd.Cx (Kd.C_below HR0_4.out HB.out)); (case side6 => exact HC0_4.out); rintro e w15 ⟨v203, rfl, ho0, hb⟩; refine ⟨_, rfl, ?_⟩; have HO204 := Aside0.mk (Kd.R_lower (Kd.R_new' ho0 (Kd.R_lt (Kd.Rx HO_5.out))) (below_size (bl HB))); replace HO_5 := Aside0.mk (Kd.R_elder' (Kd.Rx HO_5.out) (Kd.R_base ho0) hb); replace BK201 := Aside0.mk (blk_below (bx BK201.out) hb); replace HB := Aside0.mk (below_step (bl HB) hb); (try clear hb); (try clear hb2); (try clear hk); (try clear hi); (try clear ho0); obtain ⟨Ao16, co16, eo16⟩ := Kd.R_slice HO204.out; subst eo16) | ((with_reducible refine gate_callee (f := 80) rfl ?_); refine goesL_ (some 26) rfl rfl Tryd.func80 (by kernel_rfl) rfl #[.slice Ao16 t202.length co16, .int .i64 a1] rfl (by (try simp only [List.map_toArray, List.map_cons, List.map_nil]); first | done | rfl) ?_; (with_reducible refine (slices_Contains_int_int.calls k2 _ _ t202 a1 true _ ?side1 ?side2 A11.out).mono ?_); (case side1 => exact Kd.Cx ((Kd.R_reads' HO204.out).2.2)); (case side2 => exact (Kd.R_reads' HO204.out).2.1); rintro e w' ⟨rfl, ⟨nd, rfl⟩⟩; refine ⟨_, rfl, ?_⟩) | ((with_reducible refine gate_builtin (b := .append) (xs := #[.tmp 27, .tmp 29]) rfl ?_); (try (refine gate_guard (by rfl) ?_; dsimp only)); at_builtin; refine Kd.R_append (Kd.int .i64) (w0 := w) w.heap.size rfl (.tmp 27) (.tmp 29) 27 3 (.int .i64 0) 8 rfl Tryd.underlying27 info3 rfl (by decide) (by omega) u5 x5_2 x19_2 [.int .i64 x19_2] (fun k_ => some k_ ≠ (.slice Ao16 t202.length co16 : Value).ownBlock) (fun _ => False) rfl rfl ?aP (fun _ hk => hk.elim) ?aF ?aO ?aB ?aS ?aL ?_; (case aP => exact rfl); (case aB => exact (bl HB)); (case aF => exact (fun k_ hk => Kd.fresh' (Kd.R_lt (Kd.Rx HO204.out)) k_ hk)); (case aO => exact (Kd.Rx (Kd.R_mono HO_5.out (fun _ hk => hk.2)))); (case aS => exact (below_size (bl HB))); (case aL => have := LMc13.out; omega); intro v207 w17 ho hb hg hat; rw [← Ny206.out] at ho; replace BK201 := Aside0.mk (blk_grown (g := gb201) (o := .cells #[.slice A0_0 l0_0.length c0_0, .slice A0_1 l0_1.length c0_1, .int .i64 a0_2, .int .i64 a0_3, .slice A0_4 l0_4.length c0_4] 30 (0, 0)) (bx BK201.out) hg (Kd.R_ne HO_5.out BK201.out (by decide))); replace HO204 := Aside0.mk (Kd.R_after (ok := (fun _ => True)) (Kd.Rx HO204.out) hg hat); replace HB := Aside0.mk (hb); have HO208 := Aside0.mk (ho); clear HO_5; clear ho hb hg hat))
        go_roundg k2
        case measure => have := HJ2.out; have := HK2.out; omega
        case rel => exact ⟨(y206), (wrap64 (x19_2 + 1)), (by first | rfl | (simp; done) | (simp [*]; done)), H', ⟨by have := HJ2.out; have := HK2.out; omega⟩, ⟨by (with_reducible repeat (first | apply Kd.R_alloc | apply Kd.R_drewN | apply Kd.R_drew)); exact Kd.R_mono HO208.out (fun _ hk => trivial)⟩, ⟨bx BK201.out⟩, ⟨bl HB⟩⟩
       rw [if_neg c13] at H
       exact absurd H (by simp)
      replace c12 := Bool.eq_false_iff.mpr c12
      subst c12
      have H1 : (flow_Prev.l0 k2 a1 x5_2 (l0_4.length : Int) (wrap64 (x19_2 + 1)) l0_0 l0_1 a0_2 a0_3 l0_4) = some r := by rw [if_neg (show ¬ (false = true) by decide)] at H; exact H
      clear H
      have H := H1
      clear H1
      have H' := Aside0.mk H
      clear H
      obtain ⟨hcz18_0, hcz18_1, hcz18_2, hcz18_3, hcz18_4⟩ := bk5 BK201.out
      have hfz18_0 := bf BK201.out
      go_wp2_with (first | ((with_reducible refine gate_callee (f := 60) rfl ?_); refine goesL_ (some 24) rfl rfl Tryd.func60 (by kernel_rfl) rfl #[.agg #[.slice A0_0 l0_0.length c0_0, .slice A0_1 l0_1.length c0_1, .int .i64 a0_2, .int .i64 a0_3, .slice A0_4 l0_4.length c0_4], .int .i64 x19_2] rfl (by (try simp only [List.map_toArray, List.map_cons, List.map_nil]); first | done | rfl) ?_; (with_reducible refine (flow_Next.calls k2 _ _ l0_0 _ _ l0_1 a0_2 a0_3 _ _ l0_4 x19_2 t202 _ ?side1 ?side2 ?side3 ?side4 ?side5 ?side6 A10.out).mono ?_); (case side1 => exact Kd.Cx (Kd.C_below HR0_0.out HB.out)); (case side2 => exact HC0_0.out); (case side3 => exact Kd.Cx (Kd.C_below HR0_1.out HB.out)); (case side4 => exact HC0_1.out); (case side5 => exact Kd.Cx (Kd.C_below HR0_4.out HB.out)); (case side6 => exact HC0_4.out); rintro e w19 ⟨v203, rfl, ho0, hb⟩; refine ⟨_, rfl, ?_⟩; have HO204 := Aside0.mk (Kd.R_lower (Kd.R_new' ho0 (Kd.R_lt (Kd.Rx HO_5.out))) (below_size (bl HB))); replace HO_5 := Aside0.mk (Kd.R_elder' (Kd.Rx HO_5.out) (Kd.R_base ho0) hb); replace BK201 := Aside0.mk (blk_below (bx BK201.out) hb); replace HB := Aside0.mk (below_step (bl HB) hb); (try clear hb); (try clear hb2); (try clear hk); (try clear hi); (try clear ho0); obtain ⟨Ao20, co20, eo20⟩ := Kd.R_slice HO204.out; subst eo20) | ((with_reducible refine gate_callee (f := 80) rfl ?_); refine goesL_ (some 26) rfl rfl Tryd.func80 (by kernel_rfl) rfl #[.slice Ao20 t202.length co20, .int .i64 a1] rfl (by (try simp only [List.map_toArray, List.map_cons, List.map_nil]); first | done | rfl) ?_; (with_reducible refine (slices_Contains_int_int.calls k2 _ _ t202 a1 false _ ?side1 ?side2 A11.out).mono ?_); (case side1 => exact Kd.Cx ((Kd.R_reads' HO204.out).2.2)); (case side2 => exact (Kd.R_reads' HO204.out).2.1); rintro e w' ⟨rfl, ⟨nd, rfl⟩⟩; refine ⟨_, rfl, ?_⟩))
      go_roundg k2
      case measure => have := HJ2.out; have := HK2.out; omega
      case rel => exact ⟨(x5_2), (wrap64 (x19_2 + 1)), (by first | rfl | (simp; done) | (simp [*]; done)), H', ⟨by have := HJ2.out; have := HK2.out; omega⟩, ⟨by (with_reducible repeat (first | apply Kd.R_alloc | apply Kd.R_drewN | apply Kd.R_drew)); exact Kd.R_mono HO_5.out (fun _ hk => trivial)⟩, ⟨bx BK201.out⟩, ⟨bl HB⟩⟩
     rw [if_neg c9] at H
     have c9b0 : decide (x19_2 < (l0_4.length : Int)) = false := decide_eq_false c9
     clear c9
     obtain rfl := Option.some.inj H
     go_wp2
     go_ret
     exact ⟨_, by first | rfl | (simp [errW_none, errW_some] <;> rfl) | (simp [*, errW_none, errW_some] <;> rfl), Kd.Rx HO_5.out, bl HB⟩
end Go.Proofs.YtdmimhjmbdkhmaaDoor.X
