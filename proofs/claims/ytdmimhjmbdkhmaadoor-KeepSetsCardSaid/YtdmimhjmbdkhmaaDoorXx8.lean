/- Part of a proof about the Go function named in the last text of this claim. -/
import Derived.Test.YtdmimhjmbdkhmaaDoorZw
import Derived.Test.YtdmimhjmbdkhmaaDoorXx0
set_option linter.unusedVariables false
set_option linter.unusedSimpArgs false
namespace Go.Proofs.YtdmimhjmbdkhmaaDoor.X
open Go.RowKit Go.Proofs.YtdmimhjmbdkhmaaDoorW.PrintWords Go.Proofs.YtdmimhjmbdkhmaaDoorW.PrintLast Go.Proofs.YtdmimhjmbdkhmaaDoorW.PrintMore
attribute [local go_sem] max2_int min2_int max_two min_two max_three min_three max_four min_four
set_option linter.unusedVariables false
set_option linter.unusedSimpArgs false
mutual
def portolanref03_Great.l0 : Nat → Int → Int → List (S30) → Option (Bool)
 | 0, _, _, _ => none
 | k + 1, x3, x4, x355000 => if x4 < (x355000.length : Int) then (portolanref03_Great.j1 k x3 x4 (decide (x3 ≤ 3000)) x355000) else (portolanref03_Great.j1 k x3 x4 false x355000)
def portolanref03_Great.j1 : Nat → Int → Int → Bool → List (S30) → Option (Bool)
 | 0, _, _, _, _ => none
 | k + 1, x3, x4, x19, x355000 => if x19 = true then (if 0 ≤ x4 then (if x4 < (x355000.length : Int) then (portolanref03_Great.l1 k (wrap64 ((wrap64 ((wrap64 (x3 + (((rd_T30 x355000 x4).f0).length : Int))) + (((rd_T30 x355000 x4).f1).length : Int))) + (((rd_T30 x355000 x4).f4).length : Int))) x4 0 x355000 ((rd_T30 x355000 x4).f0) ((rd_T30 x355000 x4).f1) ((rd_T30 x355000 x4).f2) ((rd_T30 x355000 x4).f3) ((rd_T30 x355000 x4).f4)) else (none)) else (none)) else (some (decide (x3 > 3000)))
def portolanref03_Great.l1 : Nat → Int → Int → Int → List (S30) → List Int → List Int → Int → Int → List (S40) → Option (Bool)
 | 0, _, _, _, _, _, _, _, _, _ => none
 | k + 1, x3, x4, x6, x355000, x357000, x357001, x357002, x357003, x357004 => if x6 < (x357004.length : Int) then (portolanref03_Great.j3 k x3 x4 x6 (decide (x3 ≤ 3000)) x355000 x357000 x357001 x357002 x357003 x357004) else (portolanref03_Great.j3 k x3 x4 x6 false x355000 x357000 x357001 x357002 x357003 x357004)
def portolanref03_Great.j3 : Nat → Int → Int → Int → Bool → List (S30) → List Int → List Int → Int → Int → List (S40) → Option (Bool)
 | 0, _, _, _, _, _, _, _, _, _, _ => none
 | k + 1, x3, x4, x6, x48, x355000, x357000, x357001, x357002, x357003, x357004 => if x48 = true then (if 0 ≤ x6 then (if x6 < (x357004.length : Int) then (portolanref03_Great.l2 k (wrap64 (x3 + (((rd_T40 x357004 x6).f0).length : Int))) x4 x6 0 x355000 x357000 x357001 x357002 x357003 x357004) else (none)) else (none)) else (portolanref03_Great.l0 k x3 (wrap64 (x4 + 1)) x355000)
def portolanref03_Great.l2 : Nat → Int → Int → Int → Int → List (S30) → List Int → List Int → Int → Int → List (S40) → Option (Bool)
 | 0, _, _, _, _, _, _, _, _, _, _ => none
 | k + 1, x3, x4, x6, x7, x355000, x357000, x357001, x357002, x357003, x357004 => if 0 ≤ x6 then (if x6 < (x357004.length : Int) then (if x7 < (((rd_T40 x357004 x6).f0).length : Int) then (if x3 ≤ 3000 then (if 0 ≤ x7 then (portolanref03_Great.l2 k (wrap64 (x3 + (((rd_T44 ((rd_T40 x357004 x6).f0) x7).f6).length : Int))) x4 x6 (wrap64 (x7 + 1)) x355000 x357000 x357001 x357002 x357003 x357004) else (none)) else (portolanref03_Great.l1 k x3 x4 (wrap64 (x6 + 1)) x355000 x357000 x357001 x357002 x357003 x357004)) else (portolanref03_Great.l1 k x3 x4 (wrap64 (x6 + 1)) x355000 x357000 x357001 x357002 x357003 x357004)) else (none)) else (none)
end
def portolanref03_Great.f (k : Nat) (l0_0 : List (S30)) : Option (Bool) := portolanref03_Great.l0 k (l0_0.length : Int) 0 l0_0
set_option maxHeartbeats 8000000 in
set_option maxRecDepth 100000 in
theorem portolanref03_Great.calls (k : Nat) (A0_0 : Option Addr) (c0_0 : Nat) (l0_0 : List (S30)) (r : Bool) (w : World) (hr0_0 : Kd.C k30 w A0_0 l0_0.length l0_0) (hc0_0 : l0_0.length ≤ c0_0) (h : portolanref03_Great.f k l0_0 = some r) :
 Calls Tryd.prog 34 #[.agg #[.slice A0_0 l0_0.length c0_0]] w fun e w' => e = .returned (.bool r) ∧ Below w.heap.size w w' := by
 have hu24 := Tryd.underlying24
 have hu30 := Tryd.underlying30
 have HR0_0 := Aside0.mk hr0_0
 have HC0_0 := Aside0.mk hc0_0
 clear hr0_0 hc0_0
 have HB := Aside0.mk (Below.refl w.heap.size w)
 have H : (portolanref03_Great.l0 k (l0_0.length : Int) 0 l0_0) = some r := h
 clear h
 have H' := Aside0.mk H
 clear H
 go_enter Tryd.func34, Tryd.ntmps34
 go_wp2_with (first | ((with_reducible refine gate_dst (N := 1) rfl ?_); refine box_event ?hg (N := 1) ?hd (cs := #[.slice A0_0 l0_0.length c0_0]) (t := 24) ?hr ?_; (case hd => rfl); (case hg => rfl); (case hr => first | (go_simp; done) | (go_simp; rfl)); intro gb354 hg w2 hbox hb; have BK354 := Aside0.mk (hbox); have GW354 := ge hg (bl HB); have GE354 := ge hg (bl HB); replace HB := Aside0.mk (below_step (bl HB) hb); clear hb hbox hg; have hcz3_0 := bk1 BK354.out; have hfz3_0 := bf BK354.out))
 go_loopg [3, 4] k (fun kq v3 v4 w' => ∃ (x3_1 : Int) (x4_1 : Int), v3 = .int .i64 x3_1 ∧ v4 = .int .i64 x4_1 ∧ Aside0 (portolanref03_Great.l0 kq x3_1 x4_1 l0_0 = some r) ∧ Aside0 (kq ≤ k) ∧ Aside0 (w'.heap[gb354]? = some (.cells #[(.slice A0_0 l0_0.length c0_0)] 24 (0, 0))) ∧ Aside0 (Below w.heap.size w w'))
 case atStart => exact ⟨((l0_0.length : Int)), (0), (by first | rfl | (simp; done) | (simp [*]; done)), (by first | rfl | (simp; done) | (simp [*]; done)), H', ⟨Nat.le_refl _⟩, ⟨bx BK354.out⟩, ⟨bl HB⟩⟩
 case round =>
  clear H'
  try clear p2
  try clear c3
  try clear hcz3_0
  try clear hfz3_0
  obtain ⟨x3_1, x4_1, rfl, rfl, HA, HK1, BK354, HB⟩ := hrel
  cases gk with
  | zero => exact absurd HA.out (by simp [portolanref03_Great.l0])
  | succ k1 =>
   have H := HA.out
   clear HA
   simp only [portolanref03_Great.l0] at H
   have HC4 := Aside0.mk H
   clear H
   go_upto_region 3 with (fail)
   go_cut [19] (fun v19 wc => ∃ (kq : Nat) (x19_3 : Bool), v19 = .bool x19_3 ∧ Aside0 (portolanref03_Great.j1 kq x3_1 x4_1 x19_3 l0_0 = some r) ∧ Aside0 (kq ≤ k1) ∧ Aside0 (wc.heap[gb354]? = some (.cells #[(.slice A0_0 l0_0.length c0_0)] 24 (0, 0))) ∧ Aside0 (Below w.heap.size w wc))
   case first =>
    have H := HC4.out
    clear HC4
    by_cases c5 : x4_1 < (l0_0.length : Int)
    ·
     rw [if_pos c5] at H
     have c5b0 : decide (x4_1 < (l0_0.length : Int)) = true := decide_eq_true c5
     clear c5
     (first | rw [c5b0] | (simp only [i64_w, i32_w]; rw [c5b0]) | skip)
     have H' := Aside0.mk H
     clear H
     have hcz6_0 := bk1 BK354.out
     have hfz6_0 := bf BK354.out
     go_wp2
     go_meet
     case rel => exact ⟨_, (decide (x3_1 ≤ 3000)), (by first | rfl | (simp; done) | (simp [*]; done)), H', ⟨by have := HK1.out; first | omega | exact Nat.le_refl _⟩, ⟨bx BK354.out⟩, ⟨bl HB⟩⟩
    rw [if_neg c5] at H
    have c5b0 : decide (x4_1 < (l0_0.length : Int)) = false := decide_eq_false c5
    clear c5
    (first | rw [c5b0] | (simp only [i64_w, i32_w]; rw [c5b0]) | skip)
    have H' := Aside0.mk H
    clear H
    have hcz7_0 := bk1 BK354.out
    have hfz7_0 := bf BK354.out
    go_wp2
    go_meet
    case rel => exact ⟨_, (false), (by first | rfl | (simp; done) | (simp [*]; done)), H', ⟨by have := HK1.out; first | omega | exact Nat.le_refl _⟩, ⟨bx BK354.out⟩, ⟨bl HB⟩⟩
   case rest =>
    clear HC4
    try clear p2
    try clear c3
    try clear c5
    try clear c5b0
    try clear hcz3_0
    try clear hcz6_0
    try clear hcz7_0
    try clear hfz3_0
    try clear hfz6_0
    try clear hfz7_0
    try clear p2
    obtain ⟨kq, x19_3, rfl, HA, HJ3, BK354, HB⟩ := hcut
    cases kq with
    | zero => exact absurd HA.out (by simp [portolanref03_Great.j1])
    | succ kj3 =>
     have H := HA.out
     clear HA
     simp only [portolanref03_Great.j1] at H
     by_cases c8 : x19_3 = true
     ·
      subst c8
      have H1 : (if 0 ≤ x4_1 then (if x4_1 < (l0_0.length : Int) then (portolanref03_Great.l1 kj3 (wrap64 ((wrap64 ((wrap64 (x3_1 + (((rd_T30 l0_0 x4_1).f0).length : Int))) + (((rd_T30 l0_0 x4_1).f1).length : Int))) + (((rd_T30 l0_0 x4_1).f4).length : Int))) x4_1 0 l0_0 ((rd_T30 l0_0 x4_1).f0) ((rd_T30 l0_0 x4_1).f1) ((rd_T30 l0_0 x4_1).f2) ((rd_T30 l0_0 x4_1).f3) ((rd_T30 l0_0 x4_1).f4)) else (none)) else (none)) = some r := by rw [if_pos rfl] at H; exact H
      clear H
      have H := H1
      clear H1
      by_cases c9 : 0 ≤ x4_1
      ·
       rw [if_pos c9] at H
       have c9b0 : decide (0 ≤ x4_1) = true := decide_eq_true c9
       clear c9
       by_cases c10 : x4_1 < (l0_0.length : Int)
       ·
        rw [if_pos c10] at H
        have c10b0 : decide (x4_1 < (l0_0.length : Int)) = true := decide_eq_true c10
        clear c10
        have H' := Aside0.mk H
        clear H
        have hcz11_0 := bk1 BK354.out
        have hfz11_0 := bf BK354.out
        have p355 : 0 ≤ (x4_1 : Int) := of_decide_eq_true (by assumption)
        have q355 : x4_1 < (l0_0.length : Int) := of_decide_eq_true (by assumption)
        obtain ⟨ad355, A355_0, c355_0, A355_1, c355_1, A355_4, c355_4, e355, hx355_0, hx355_1, hx355_2, hx355_3, hx355_4, hl355_0, hi355_0, hl355_1, hi355_1, hl355_4, hi355_4⟩ := at_T30 HR0_0.out x4_1 p355 q355
        cases e355
        replace hx355_0 := (HB.out.cell (World.block_lt_of_cell? w _ hx355_0)).trans hx355_0
        replace hx355_1 := (HB.out.cell (World.block_lt_of_cell? w _ hx355_1)).trans hx355_1
        replace hx355_2 := (HB.out.cell (World.block_lt_of_cell? w _ hx355_2)).trans hx355_2
        replace hx355_3 := (HB.out.cell (World.block_lt_of_cell? w _ hx355_3)).trans hx355_3
        replace hx355_4 := (HB.out.cell (World.block_lt_of_cell? w _ hx355_4)).trans hx355_4
        have HR355_0 := Aside0.mk hi355_0
        have HC355_0 := Aside0.mk hl355_0
        clear hi355_0 hl355_0
        have HR355_1 := Aside0.mk hi355_1
        have HC355_1 := Aside0.mk hl355_1
        clear hi355_1 hl355_1
        have HR355_4 := Aside0.mk hi355_4
        have HC355_4 := Aside0.mk hl355_4
        clear hi355_4 hl355_4
        replace p355 := eq_true p355
        replace q355 := eq_true q355
        go_wp2_with (first | ((with_reducible refine gate_dst (N := 5) rfl ?_); refine box_event ?hg (N := 5) ?hd (cs := #[.slice none 0 0, .slice none 0 0, .int .i64 0, .int .i64 0, .slice none 0 0]) (t := 30) ?hr ?_; (case hd => rfl); (case hg => rfl); (case hr => first | (go_simp; done) | (go_simp; rfl)); intro gb356 hg w12 hbox hb; have BK356 := Aside0.mk (hbox); have GW356 := ge hg (bl HB); have GE356 := ge hg (bl HB); replace HB := Aside0.mk (below_step (bl HB) hb); have NB354_356 := Aside0.mk ((by rw [hg]; exact Nat.ne_of_lt (blk_lt (g := gb354) (o := .cells #[.slice (some ad355) l0_0.length c0_0] 24 (0, 0)) (bx BK354.out)) : gb354 ≠ gb356)); have NB356_354 := Aside0.mk ((by rw [hg]; exact Nat.ne_of_gt (blk_lt (g := gb354) (o := .cells #[.slice (some ad355) l0_0.length c0_0] 24 (0, 0)) (bx BK354.out)) : gb356 ≠ gb354)); replace BK354 := Aside0.mk (blk_below (bx BK354.out) hb); clear hb hbox hg; have hnb13 := NB356_354.out; have hnc13 := NB354_356.out; obtain ⟨hcz14_0, hcz14_1, hcz14_2, hcz14_3, hcz14_4⟩ := bk5 BK356.out; have hfz14_0 := bf BK356.out))
        go_loopg [3, 6] kj3 (fun kq v3 v6 w' => ∃ (x3_3 : Int) (x6_3 : Int), v3 = .int .i64 x3_3 ∧ v6 = .int .i64 x6_3 ∧ Aside0 (portolanref03_Great.l1 kq x3_3 x4_1 x6_3 l0_0 ((rd_T30 l0_0 x4_1).f0) ((rd_T30 l0_0 x4_1).f1) ((rd_T30 l0_0 x4_1).f2) ((rd_T30 l0_0 x4_1).f3) ((rd_T30 l0_0 x4_1).f4) = some r) ∧ Aside0 (kq ≤ kj3) ∧ Aside0 (w'.heap[gb354]? = some (.cells #[(.slice (some ad355) l0_0.length c0_0)] 24 (0, 0))) ∧ Aside0 (w'.heap[gb356]? = some (.cells #[(.slice A355_0 ((rd_T30 l0_0 x4_1).f0).length c355_0), (.slice A355_1 ((rd_T30 l0_0 x4_1).f1).length c355_1), .int .i64 ((rd_T30 l0_0 x4_1).f2), .int .i64 ((rd_T30 l0_0 x4_1).f3), (.slice A355_4 ((rd_T30 l0_0 x4_1).f4).length c355_4)] 30 (0, 0))) ∧ Aside0 (Below w.heap.size w w'))
        case atStart => exact ⟨(wrap64 ((wrap64 ((wrap64 (x3_1 + (((rd_T30 l0_0 x4_1).f0).length : Int))) + (((rd_T30 l0_0 x4_1).f1).length : Int))) + (((rd_T30 l0_0 x4_1).f4).length : Int))), (0), (by first | rfl | (simp; done) | (simp [*]; done)), (by first | rfl | (simp; done) | (simp [*]; done)), H', ⟨Nat.le_refl _⟩, ⟨by refine bp ?_; refine blk_far ?_ NB354_356.out _; refine bp ?_; refine blk_far ?_ NB354_356.out _; refine bp ?_; refine blk_far ?_ NB354_356.out _; refine bp ?_; refine blk_far ?_ NB354_356.out _; refine bp ?_; refine blk_far ?_ NB354_356.out _; refine bp ?_; exact BK354.out⟩, ⟨by refine bp ?_; refine blk_put (cs := #[.slice A355_0 ((rd_T30 l0_0 x4_1).f0).length c355_0, .slice A355_1 ((rd_T30 l0_0 x4_1).f1).length c355_1, .int .i64 ((rd_T30 l0_0 x4_1).f2), .int .i64 ((rd_T30 l0_0 x4_1).f3), .slice none 0 0]) ?_ 4 _ rfl; refine bp ?_; refine blk_put (cs := #[.slice A355_0 ((rd_T30 l0_0 x4_1).f0).length c355_0, .slice A355_1 ((rd_T30 l0_0 x4_1).f1).length c355_1, .int .i64 ((rd_T30 l0_0 x4_1).f2), .int .i64 0, .slice none 0 0]) ?_ 3 _ rfl; refine bp ?_; refine blk_put (cs := #[.slice A355_0 ((rd_T30 l0_0 x4_1).f0).length c355_0, .slice A355_1 ((rd_T30 l0_0 x4_1).f1).length c355_1, .int .i64 0, .int .i64 0, .slice none 0 0]) ?_ 2 _ rfl; refine bp ?_; refine blk_put (cs := #[.slice A355_0 ((rd_T30 l0_0 x4_1).f0).length c355_0, .slice none 0 0, .int .i64 0, .int .i64 0, .slice none 0 0]) ?_ 1 _ rfl; refine bp ?_; refine blk_put (cs := #[.slice none 0 0, .slice none 0 0, .int .i64 0, .int .i64 0, .slice none 0 0]) ?_ 0 _ rfl; refine bp ?_; exact BK356.out⟩, ⟨bl HB⟩⟩
        case round =>
         clear H'
         try clear c1
         try clear p2
         try clear c3
         try clear p3
         try clear q3
         try clear hx3
         try clear c5
         try clear c5b0
         try clear p6
         try clear c8
         try clear c9
         try clear c9b0
         try clear c10
         try clear c10b0
         try clear c13
         try clear hcz11_0
         try clear hcz14_0 hcz14_1 hcz14_2 hcz14_3 hcz14_4
         try clear hcz3_0
         try clear hcz6_0
         try clear hcz7_0
         try clear hfz11_0
         try clear hfz14_0
         try clear hfz3_0
         try clear hfz6_0
         try clear hfz7_0
         try clear hx355_0
         try clear hx355_1
         try clear hx355_2
         try clear hx355_3
         try clear hx355_4
         try clear p2
         try clear p355
         try clear q355
         obtain ⟨x3_3, x6_3, rfl, rfl, HA, HK3, BK354, BK356, HB⟩ := hrel
         cases gk with
         | zero => exact absurd HA.out (by simp [portolanref03_Great.l1])
         | succ k3 =>
          have H := HA.out
          clear HA
          simp only [portolanref03_Great.l1] at H
          have HC15 := Aside0.mk H
          clear H
          go_upto_region 8 with (fail)
          go_cut [48] (fun v48 wc => ∃ (kq : Nat) (x48_14 : Bool), v48 = .bool x48_14 ∧ Aside0 (portolanref03_Great.j3 kq x3_3 x4_1 x6_3 x48_14 l0_0 ((rd_T30 l0_0 x4_1).f0) ((rd_T30 l0_0 x4_1).f1) ((rd_T30 l0_0 x4_1).f2) ((rd_T30 l0_0 x4_1).f3) ((rd_T30 l0_0 x4_1).f4) = some r) ∧ Aside0 (kq ≤ k3) ∧ Aside0 (wc.heap[gb354]? = some (.cells #[(.slice (some ad355) l0_0.length c0_0)] 24 (0, 0))) ∧ Aside0 (wc.heap[gb356]? = some (.cells #[(.slice A355_0 ((rd_T30 l0_0 x4_1).f0).length c355_0), (.slice A355_1 ((rd_T30 l0_0 x4_1).f1).length c355_1), .int .i64 ((rd_T30 l0_0 x4_1).f2), .int .i64 ((rd_T30 l0_0 x4_1).f3), (.slice A355_4 ((rd_T30 l0_0 x4_1).f4).length c355_4)] 30 (0, 0))) ∧ Aside0 (Below w.heap.size w wc))
          case first =>
           have H := HC15.out
           clear HC15
           by_cases c16 : x6_3 < (((rd_T30 l0_0 x4_1).f4).length : Int)
           ·
            rw [if_pos c16] at H
            have c16b0 : decide (x6_3 < (((rd_T30 l0_0 x4_1).f4).length : Int)) = true := decide_eq_true c16
            clear c16
            (first | rw [c16b0] | (simp only [i64_w, i32_w]; rw [c16b0]) | skip)
            have H' := Aside0.mk H
            clear H
            have hnb17 := NB356_354.out
            have hnc17 := NB354_356.out
            obtain ⟨hcz18_0, hcz18_1, hcz18_2, hcz18_3, hcz18_4⟩ := bk5 BK356.out
            have hfz18_0 := bf BK356.out
            go_wp2
            go_meet
            case rel => exact ⟨_, (decide (x3_3 ≤ 3000)), (by first | rfl | (simp; done) | (simp [*]; done)), H', ⟨by have := HK1.out; have := HJ3.out; have := HK3.out; first | omega | exact Nat.le_refl _⟩, ⟨bx BK354.out⟩, ⟨bx BK356.out⟩, ⟨bl HB⟩⟩
           rw [if_neg c16] at H
           have c16b0 : decide (x6_3 < (((rd_T30 l0_0 x4_1).f4).length : Int)) = false := decide_eq_false c16
           clear c16
           (first | rw [c16b0] | (simp only [i64_w, i32_w]; rw [c16b0]) | skip)
           have H' := Aside0.mk H
           clear H
           have hnb19 := NB356_354.out
           have hnc19 := NB354_356.out
           obtain ⟨hcz20_0, hcz20_1, hcz20_2, hcz20_3, hcz20_4⟩ := bk5 BK356.out
           have hfz20_0 := bf BK356.out
           go_wp2
           go_meet
           case rel => exact ⟨_, (false), (by first | rfl | (simp; done) | (simp [*]; done)), H', ⟨by have := HK1.out; have := HJ3.out; have := HK3.out; first | omega | exact Nat.le_refl _⟩, ⟨bx BK354.out⟩, ⟨bx BK356.out⟩, ⟨bl HB⟩⟩
          case rest =>
           clear HC15
           try clear c1
           try clear p2
           try clear c3
           try clear p3
           try clear q3
           try clear hx3
           try clear c5
           try clear c5b0
           try clear p6
           try clear c8
           try clear c9
           try clear c9b0
           try clear c10
           try clear c10b0
           try clear c13
           try clear c16
           try clear c16b0
           try clear c17
           try clear c19
           try clear hcz11_0
           try clear hcz14_0 hcz14_1 hcz14_2 hcz14_3 hcz14_4
           try clear hcz18_0 hcz18_1 hcz18_2 hcz18_3 hcz18_4
           try clear hcz20_0 hcz20_1 hcz20_2 hcz20_3 hcz20_4
           try clear hcz3_0
           try clear hcz6_0
           try clear hcz7_0
           try clear hfz11_0
           try clear hfz14_0
           try clear hfz18_0
           try clear hfz20_0
           try clear hfz3_0
           try clear hfz6_0
           try clear hfz7_0
           try clear hx355_0
           try clear hx355_1
           try clear hx355_2
           try clear hx355_3
           try clear hx355_4
           try clear p2
           try clear p3
           try clear p355
           try clear p6
           try clear q3
           try clear q355
           obtain ⟨kq, x48_14, rfl, HA, HJ14, BK354, BK356, HB⟩ := hcut
           cases kq with
           | zero => exact absurd HA.out (by simp [portolanref03_Great.j3])
           | succ kj14 =>
            have H := HA.out
            clear HA
            simp only [portolanref03_Great.j3] at H
            by_cases c21 : x48_14 = true
            ·
             subst c21
             have H1 : (if 0 ≤ x6_3 then (if x6_3 < (((rd_T30 l0_0 x4_1).f4).length : Int) then (portolanref03_Great.l2 kj14 (wrap64 (x3_3 + (((rd_T40 ((rd_T30 l0_0 x4_1).f4) x6_3).f0).length : Int))) x4_1 x6_3 0 l0_0 ((rd_T30 l0_0 x4_1).f0) ((rd_T30 l0_0 x4_1).f1) ((rd_T30 l0_0 x4_1).f2) ((rd_T30 l0_0 x4_1).f3) ((rd_T30 l0_0 x4_1).f4)) else (none)) else (none)) = some r := by rw [if_pos rfl] at H; exact H
             clear H
             have H := H1
             clear H1
             by_cases c22 : 0 ≤ x6_3
             ·
              rw [if_pos c22] at H
              have c22b0 : decide (0 ≤ x6_3) = true := decide_eq_true c22
              clear c22
              by_cases c23 : x6_3 < (((rd_T30 l0_0 x4_1).f4).length : Int)
              ·
               rw [if_pos c23] at H
               have c23b0 : decide (x6_3 < (((rd_T30 l0_0 x4_1).f4).length : Int)) = true := decide_eq_true c23
               clear c23
               have H' := Aside0.mk H
               clear H
               have hnb24 := NB356_354.out
               have hnc24 := NB354_356.out
               obtain ⟨hcz25_0, hcz25_1, hcz25_2, hcz25_3, hcz25_4⟩ := bk5 BK356.out
               have hfz25_0 := bf BK356.out
               have p357 : 0 ≤ (x6_3 : Int) := of_decide_eq_true (by assumption)
               have q357 : x6_3 < (((rd_T30 l0_0 x4_1).f4).length : Int) := of_decide_eq_true (by assumption)
               obtain ⟨ad357, A357_0, c357_0, e357, hx357_0, hl357_0, hi357_0⟩ := at_T40 HR355_4.out x6_3 p357 q357
               cases e357
               replace hx357_0 := (HB.out.cell (World.block_lt_of_cell? w _ hx357_0)).trans hx357_0
               have HR357_0 := Aside0.mk hi357_0
               have HC357_0 := Aside0.mk hl357_0
               clear hi357_0 hl357_0
               replace p357 := eq_true p357
               replace q357 := eq_true q357
               go_wp2
               go_loopg [3, 7] kj14 (fun kq v3 v7 w' => ∃ (x3_5 : Int) (x7_5 : Int), v3 = .int .i64 x3_5 ∧ v7 = .int .i64 x7_5 ∧ Aside0 (portolanref03_Great.l2 kq x3_5 x4_1 x6_3 x7_5 l0_0 ((rd_T30 l0_0 x4_1).f0) ((rd_T30 l0_0 x4_1).f1) ((rd_T30 l0_0 x4_1).f2) ((rd_T30 l0_0 x4_1).f3) ((rd_T30 l0_0 x4_1).f4) = some r) ∧ Aside0 (kq ≤ kj14) ∧ Aside0 (w'.heap[gb354]? = some (.cells #[(.slice (some ad355) l0_0.length c0_0)] 24 (0, 0))) ∧ Aside0 (w'.heap[gb356]? = some (.cells #[(.slice A355_0 ((rd_T30 l0_0 x4_1).f0).length c355_0), (.slice A355_1 ((rd_T30 l0_0 x4_1).f1).length c355_1), .int .i64 ((rd_T30 l0_0 x4_1).f2), .int .i64 ((rd_T30 l0_0 x4_1).f3), (.slice (some ad357) ((rd_T30 l0_0 x4_1).f4).length c355_4)] 30 (0, 0))) ∧ Aside0 (Below w.heap.size w w'))
               case atStart => exact ⟨(wrap64 (x3_3 + (((rd_T40 ((rd_T30 l0_0 x4_1).f4) x6_3).f0).length : Int))), (0), (by first | rfl | (simp; done) | (simp [*]; done)), (by first | rfl | (simp; done) | (simp [*]; done)), H', ⟨Nat.le_refl _⟩, ⟨bx BK354.out⟩, ⟨bx BK356.out⟩, ⟨bl HB⟩⟩
               case round =>
                clear H'
                try clear c1
                try clear c2
                try clear p2
                try clear c3
                try clear p3
                try clear q3
                try clear hx3
                try clear c5
                try clear c5b0
                try clear p6
                try clear c8
                try clear c9
                try clear c9b0
                try clear c10
                try clear c10b0
                try clear c13
                try clear c16
                try clear c16b0
                try clear c17
                try clear c19
                try clear c21
                try clear c22
                try clear c22b0
                try clear c23
                try clear c23b0
                try clear c24
                try clear hcz11_0
                try clear hcz14_0 hcz14_1 hcz14_2 hcz14_3 hcz14_4
                try clear hcz18_0 hcz18_1 hcz18_2 hcz18_3 hcz18_4
                try clear hcz20_0 hcz20_1 hcz20_2 hcz20_3 hcz20_4
                try clear hcz25_0 hcz25_1 hcz25_2 hcz25_3 hcz25_4
                try clear hcz3_0
                try clear hcz6_0
                try clear hcz7_0
                try clear hfz11_0
                try clear hfz14_0
                try clear hfz18_0
                try clear hfz20_0
                try clear hfz25_0
                try clear hfz3_0
                try clear hfz6_0
                try clear hfz7_0
                try clear hx355_0
                try clear hx355_1
                try clear hx355_2
                try clear hx355_3
                try clear hx355_4
                try clear hx357_0
                try clear p2
                try clear p3
                try clear p355
                try clear p357
                try clear p6
                try clear q3
                try clear q355
                try clear q357
                obtain ⟨x3_5, x7_5, rfl, rfl, HA, HK5, BK354, BK356, HB⟩ := hrel
                cases gk with
                | zero => exact absurd HA.out (by simp [portolanref03_Great.l2])
                | succ k5 =>
                 have H := HA.out
                 clear HA
                 simp only [portolanref03_Great.l2] at H
                 by_cases c26 : 0 ≤ x6_3
                 ·
                  rw [if_pos c26] at H
                  have c26b0 : decide (0 ≤ x6_3) = true := decide_eq_true c26
                  clear c26
                  by_cases c27 : x6_3 < (((rd_T30 l0_0 x4_1).f4).length : Int)
                  ·
                   rw [if_pos c27] at H
                   have c27b0 : decide (x6_3 < (((rd_T30 l0_0 x4_1).f4).length : Int)) = true := decide_eq_true c27
                   clear c27
                   by_cases c28 : x7_5 < (((rd_T40 ((rd_T30 l0_0 x4_1).f4) x6_3).f0).length : Int)
                   ·
                    rw [if_pos c28] at H
                    have c28b0 : decide (x7_5 < (((rd_T40 ((rd_T30 l0_0 x4_1).f4) x6_3).f0).length : Int)) = true := decide_eq_true c28
                    clear c28
                    by_cases c29 : x3_5 ≤ 3000
                    ·
                     rw [if_pos c29] at H
                     have c29b0 : decide (x3_5 ≤ 3000) = true := decide_eq_true c29
                     clear c29
                     by_cases c30 : 0 ≤ x7_5
                     ·
                      rw [if_pos c30] at H
                      have c30b0 : decide (0 ≤ x7_5) = true := decide_eq_true c30
                      clear c30
                      have H' := Aside0.mk H
                      clear H
                      have hnb31 := NB356_354.out
                      have hnc31 := NB354_356.out
                      obtain ⟨hcz32_0, hcz32_1, hcz32_2, hcz32_3, hcz32_4⟩ := bk5 BK356.out
                      have hfz32_0 := bf BK356.out
                      have p358 : 0 ≤ (x6_3 : Int) := of_decide_eq_true (by assumption)
                      have q358 : x6_3 < (((rd_T30 l0_0 x4_1).f4).length : Int) := of_decide_eq_true (by assumption)
                      obtain ⟨ad358, A358_0, c358_0, e358, hx358_0, hl358_0, hi358_0⟩ := at_T40 HR355_4.out x6_3 p358 q358
                      obtain rfl : ad357 = ad358 := (by injection e358)
                      replace hx358_0 := (HB.out.cell (World.block_lt_of_cell? w _ hx358_0)).trans hx358_0
                      have HR358_0 := Aside0.mk hi358_0
                      have HC358_0 := Aside0.mk hl358_0
                      clear hi358_0 hl358_0
                      replace p358 := eq_true p358
                      replace q358 := eq_true q358
                      have p359 : 0 ≤ (x6_3 : Int) := of_decide_eq_true (by assumption)
                      have q359 : x6_3 < (((rd_T30 l0_0 x4_1).f4).length : Int) := of_decide_eq_true (by assumption)
                      obtain ⟨ad359, A359_0, c359_0, e359, hx359_0, hl359_0, hi359_0⟩ := at_T40 HR355_4.out x6_3 p359 q359
                      obtain rfl : ad357 = ad359 := (by injection e359)
                      replace hx359_0 := (HB.out.cell (World.block_lt_of_cell? w _ hx359_0)).trans hx359_0
                      have HR359_0 := Aside0.mk hi359_0
                      have HC359_0 := Aside0.mk hl359_0
                      clear hi359_0 hl359_0
                      replace p359 := eq_true p359
                      replace q359 := eq_true q359
                      have ea_ := Option.some.inj (hx358_0.symm.trans hx359_0)
                      injection ea_ with ea_ en_ ec_
                      subst ea_
                      subst ec_
                      clear en_
                      have p360 : 0 ≤ (x7_5 : Int) := of_decide_eq_true (by assumption)
                      have q360 : x7_5 < (((rd_T40 ((rd_T30 l0_0 x4_1).f4) x6_3).f0).length : Int) := of_decide_eq_true (by assumption)
                      obtain ⟨ad360, A360_6, c360_6, e360, hx360_0, hx360_1, hx360_2, hx360_3, hx360_4, hx360_5, hx360_6, hl360_6, hi360_6⟩ := at_T44 HR359_0.out x7_5 p360 q360
                      cases e360
                      replace hx360_0 := (HB.out.cell (World.block_lt_of_cell? w _ hx360_0)).trans hx360_0
                      replace hx360_1 := (HB.out.cell (World.block_lt_of_cell? w _ hx360_1)).trans hx360_1
                      replace hx360_2 := (HB.out.cell (World.block_lt_of_cell? w _ hx360_2)).trans hx360_2
                      replace hx360_3 := (HB.out.cell (World.block_lt_of_cell? w _ hx360_3)).trans hx360_3
                      replace hx360_4 := (HB.out.cell (World.block_lt_of_cell? w _ hx360_4)).trans hx360_4
                      replace hx360_5 := (HB.out.cell (World.block_lt_of_cell? w _ hx360_5)).trans hx360_5
                      replace hx360_6 := (HB.out.cell (World.block_lt_of_cell? w _ hx360_6)).trans hx360_6
                      have HR360_6 := Aside0.mk hi360_6
                      have HC360_6 := Aside0.mk hl360_6
                      clear hi360_6 hl360_6
                      replace p360 := eq_true p360
                      replace q360 := eq_true q360
                      go_wp2
                      go_roundg k5
                      case measure => have := HK1.out; have := HJ3.out; have := HK3.out; have := HJ14.out; have := HK5.out; omega
                      case rel => exact ⟨(wrap64 (x3_5 + (((rd_T44 ((rd_T40 ((rd_T30 l0_0 x4_1).f4) x6_3).f0) x7_5).f6).length : Int))), (wrap64 (x7_5 + 1)), (by first | rfl | (simp; done) | (simp [*]; done)), (by first | rfl | (simp; done) | (simp [*]; done)), H', ⟨by have := HK1.out; have := HJ3.out; have := HK3.out; have := HJ14.out; have := HK5.out; omega⟩, ⟨bx BK354.out⟩, ⟨bx BK356.out⟩, ⟨bl HB⟩⟩
                     rw [if_neg c30] at H
                     exact absurd H (by simp)
                    rw [if_neg c29] at H
                    have c29b0 : decide (x3_5 ≤ 3000) = false := decide_eq_false c29
                    clear c29
                    have H' := Aside0.mk H
                    clear H
                    have hnb33 := NB356_354.out
                    have hnc33 := NB354_356.out
                    obtain ⟨hcz34_0, hcz34_1, hcz34_2, hcz34_3, hcz34_4⟩ := bk5 BK356.out
                    have hfz34_0 := bf BK356.out
                    have p358 : 0 ≤ (x6_3 : Int) := of_decide_eq_true (by assumption)
                    have q358 : x6_3 < (((rd_T30 l0_0 x4_1).f4).length : Int) := of_decide_eq_true (by assumption)
                    obtain ⟨ad358, A358_0, c358_0, e358, hx358_0, hl358_0, hi358_0⟩ := at_T40 HR355_4.out x6_3 p358 q358
                    obtain rfl : ad357 = ad358 := (by injection e358)
                    replace hx358_0 := (HB.out.cell (World.block_lt_of_cell? w _ hx358_0)).trans hx358_0
                    have HR358_0 := Aside0.mk hi358_0
                    have HC358_0 := Aside0.mk hl358_0
                    clear hi358_0 hl358_0
                    replace p358 := eq_true p358
                    replace q358 := eq_true q358
                    go_wp2
                    go_roundg k5
                    case measure => have := HK1.out; have := HJ3.out; have := HK3.out; have := HJ14.out; have := HK5.out; omega
                    case rel => exact ⟨(x3_5), (wrap64 (x6_3 + 1)), (by first | rfl | (simp; done) | (simp [*]; done)), (by first | rfl | (simp; done) | (simp [*]; done)), H', ⟨by have := HK1.out; have := HJ3.out; have := HK3.out; have := HJ14.out; have := HK5.out; omega⟩, ⟨bx BK354.out⟩, ⟨bx BK356.out⟩, ⟨bl HB⟩⟩
                   rw [if_neg c28] at H
                   have c28b0 : decide (x7_5 < (((rd_T40 ((rd_T30 l0_0 x4_1).f4) x6_3).f0).length : Int)) = false := decide_eq_false c28
                   clear c28
                   have H' := Aside0.mk H
                   clear H
                   have hnb35 := NB356_354.out
                   have hnc35 := NB354_356.out
                   obtain ⟨hcz36_0, hcz36_1, hcz36_2, hcz36_3, hcz36_4⟩ := bk5 BK356.out
                   have hfz36_0 := bf BK356.out
                   have p358 : 0 ≤ (x6_3 : Int) := of_decide_eq_true (by assumption)
                   have q358 : x6_3 < (((rd_T30 l0_0 x4_1).f4).length : Int) := of_decide_eq_true (by assumption)
                   obtain ⟨ad358, A358_0, c358_0, e358, hx358_0, hl358_0, hi358_0⟩ := at_T40 HR355_4.out x6_3 p358 q358
                   obtain rfl : ad357 = ad358 := (by injection e358)
                   replace hx358_0 := (HB.out.cell (World.block_lt_of_cell? w _ hx358_0)).trans hx358_0
                   have HR358_0 := Aside0.mk hi358_0
                   have HC358_0 := Aside0.mk hl358_0
                   clear hi358_0 hl358_0
                   replace p358 := eq_true p358
                   replace q358 := eq_true q358
                   go_wp2
                   go_roundg k5
                   case measure => have := HK1.out; have := HJ3.out; have := HK3.out; have := HJ14.out; have := HK5.out; omega
                   case rel => exact ⟨(x3_5), (wrap64 (x6_3 + 1)), (by first | rfl | (simp; done) | (simp [*]; done)), (by first | rfl | (simp; done) | (simp [*]; done)), H', ⟨by have := HK1.out; have := HJ3.out; have := HK3.out; have := HJ14.out; have := HK5.out; omega⟩, ⟨bx BK354.out⟩, ⟨bx BK356.out⟩, ⟨bl HB⟩⟩
                  rw [if_neg c27] at H
                  exact absurd H (by simp)
                 rw [if_neg c26] at H
                 exact absurd H (by simp)
              rw [if_neg c23] at H
              exact absurd H (by simp)
             rw [if_neg c22] at H
             exact absurd H (by simp)
            replace c21 := Bool.eq_false_iff.mpr c21
            subst c21
            have H1 : (portolanref03_Great.l0 kj14 x3_3 (wrap64 (x4_1 + 1)) l0_0) = some r := by rw [if_neg (show ¬ (false = true) by decide)] at H; exact H
            clear H
            have H := H1
            clear H1
            have H' := Aside0.mk H
            clear H
            go_wp2
            go_roundg kj14
            case measure => have := HK1.out; have := HJ3.out; have := HK3.out; have := HJ14.out; omega
            case rel => exact ⟨(x3_3), (wrap64 (x4_1 + 1)), (by first | rfl | (simp; done) | (simp [*]; done)), (by first | rfl | (simp; done) | (simp [*]; done)), H', ⟨by have := HK1.out; have := HJ3.out; have := HK3.out; have := HJ14.out; omega⟩, ⟨bx BK354.out⟩, ⟨bl HB⟩⟩
       rw [if_neg c10] at H
       exact absurd H (by simp)
      rw [if_neg c9] at H
      exact absurd H (by simp)
     replace c8 := Bool.eq_false_iff.mpr c8
     subst c8
     have H1 : (some (decide (x3_1 > 3000))) = some r := by rw [if_neg (show ¬ (false = true) by decide)] at H; exact H
     clear H
     have H := H1
     clear H1
     obtain rfl := Option.some.inj H
     go_wp2
     go_ret
     exact ⟨by first | rfl | (simp [errW_none, errW_some] <;> rfl) | (simp [*, errW_none, errW_some] <;> rfl), bl HB⟩
def portolanref04_within.f (a0 : Int) (a1 : Int) (a2 : Int) : Option (Bool) := if a0 ≥ a1 then (some (decide (a0 ≤ a2))) else (some false)
set_option maxHeartbeats 8000000 in
set_option maxRecDepth 100000 in
theorem portolanref04_within.calls (a0 : Int) (a1 : Int) (a2 : Int) (r : Bool) (w : World) (h : portolanref04_within.f a0 a1 a2 = some r) :
 Calls Tryd.prog 56 #[.int .i64 a0, .int .i64 a1, .int .i64 a2] w fun e w' => e = .returned (.bool r) ∧ Drawn0 w w' := by
 have H : (if a0 ≥ a1 then (some (decide (a0 ≤ a2))) else (some false)) = some r := h
 clear h
 by_cases c4 : a0 ≥ a1
 ·
  rw [if_pos c4] at H
  have c4b0 : decide (a1 ≤ a0) = true := decide_eq_true c4
  clear c4
  obtain rfl := Option.some.inj H
  go_enter Tryd.func56, Tryd.ntmps56
  go_wp2
  go_ret
  exact ⟨by first | rfl | (simp; done) | (simp [*]; done), by repeat (first | exact Drawn0.refl _ | apply Drawn0.step)⟩
 rw [if_neg c4] at H
 have c4b0 : decide (a1 ≤ a0) = false := decide_eq_false c4
 clear c4
 obtain rfl := Option.some.inj H
 go_enter Tryd.func56, Tryd.ntmps56
 go_wp2
 go_ret
 exact ⟨by first | rfl | (simp; done) | (simp [*]; done), by repeat (first | exact Drawn0.refl _ | apply Drawn0.step)⟩
def portolanref04_Last.f (a0 : Int) : Option (Bool) := if a0 = 21 then (some true) else (if a0 = 22 then (some true) else (some (a0 == 23)))
set_option maxHeartbeats 8000000 in
set_option maxRecDepth 100000 in
theorem portolanref04_Last.calls (a0 : Int) (r : Bool) (w : World) (h : portolanref04_Last.f a0 = some r) :
 Calls Tryd.prog 75 #[.int .i64 a0] w fun e w' => e = .returned (.bool r) ∧ Drawn0 w w' := by
 have H : (if a0 = 21 then (some true) else (if a0 = 22 then (some true) else (some (a0 == 23)))) = some r := h
 clear h
 by_cases c2 : a0 = 21
 ·
  rw [if_pos c2] at H
  have c2b0 : (a0 == 21) = true := beq_iff_eq.mpr c2
  have c2b1 : (a0 != 21) = false := bne_eq_false_iff_eq.mpr c2
  clear c2
  obtain rfl := Option.some.inj H
  go_enter Tryd.func75, Tryd.ntmps75
  go_wp2
  go_ret
  exact ⟨by first | rfl | (simp; done) | (simp [*]; done), by repeat (first | exact Drawn0.refl _ | apply Drawn0.step)⟩
 rw [if_neg c2] at H
 have c2b0 : (a0 == 21) = false := beq_eq_false_iff_ne.mpr c2
 have c2b1 : (a0 != 21) = true := bne_iff_ne.mpr c2
 by_cases c3 : a0 = 22
 ·
  rw [if_pos c3] at H
  have c3b0 : (a0 == 22) = true := beq_iff_eq.mpr c3
  have c3b1 : (a0 != 22) = false := bne_eq_false_iff_eq.mpr c3
  clear c3
  obtain rfl := Option.some.inj H
  go_enter Tryd.func75, Tryd.ntmps75
  go_wp2
  go_ret
  exact ⟨by first | rfl | (simp; done) | (simp [*]; done), by repeat (first | exact Drawn0.refl _ | apply Drawn0.step)⟩
 rw [if_neg c3] at H
 have c3b0 : (a0 == 22) = false := beq_eq_false_iff_ne.mpr c3
 have c3b1 : (a0 != 22) = true := bne_iff_ne.mpr c3
 obtain rfl := Option.some.inj H
 go_enter Tryd.func75, Tryd.ntmps75
 go_wp2
 go_ret
 exact ⟨by first | rfl | (simp; done) | (simp [*]; done), by repeat (first | exact Drawn0.refl _ | apply Drawn0.step)⟩
end Go.Proofs.YtdmimhjmbdkhmaaDoor.X
