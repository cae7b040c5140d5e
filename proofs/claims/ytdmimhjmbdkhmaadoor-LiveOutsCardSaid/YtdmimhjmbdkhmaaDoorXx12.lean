/- Part of a proof about the Go function named in the last text of this claim. -/
import Derived.Test.YtdmimhjmbdkhmaaDoorZw
import Derived.Test.YtdmimhjmbdkhmaaDoorXx0
import Derived.Test.YtdmimhjmbdkhmaaDoorXx4
import Derived.Test.YtdmimhjmbdkhmaaDoorXx5
import Derived.Test.YtdmimhjmbdkhmaaDoorXx11
import Derived.Test.YtdmimhjmbdkhmaaDoorZg
set_option linter.unusedVariables false
set_option linter.unusedSimpArgs false
namespace Go.Proofs.YtdmimhjmbdkhmaaDoor.X
open Go.RowKit Go.Proofs.YtdmimhjmbdkhmaaDoorW.PrintWords Go.Proofs.YtdmimhjmbdkhmaaDoorW.PrintLast Go.Proofs.YtdmimhjmbdkhmaaDoorW.PrintMore
attribute [local go_sem] max2_int min2_int max_two min_two max_three min_three max_four min_four
set_option linter.unusedVariables false
set_option linter.unusedSimpArgs false
mutual
def portolanlaw11_LiveOuts.l0 : Nat → Int → List (S30) → Option (Bool)
 | 0, _, _ => none
 | k + 1, x3, x439000 => if x3 < (x439000.length : Int) then (if 0 ≤ x3 then (portolanlaw11_LiveOuts.l1 k x3 0 x439000 ((rd_T30 x439000 x3).f0) ((rd_T30 x439000 x3).f1) ((rd_T30 x439000 x3).f2) ((rd_T30 x439000 x3).f3) ((rd_T30 x439000 x3).f4)) else (none)) else (some true)
def portolanlaw11_LiveOuts.l1 : Nat → Int → Int → List (S30) → List Int → List Int → Int → Int → List (S40) → Option (Bool)
 | 0, _, _, _, _, _, _, _, _ => none
 | k + 1, x3, x5, x439000, x443000, x443001, x443002, x443003, x443004 => if x5 < (x443004.length : Int) then ((portolanref05_Next.f x443000 x443001 x443002 x443003 x443004 x5).bind fun t443 => (portolanlaw11_LiveOuts.l2 k x3 x5 ([] : List Int) t443 0 x439000 x443000 x443001 x443002 x443003 x443004)) else (portolanlaw11_LiveOuts.l0 k (wrap64 (x3 + 1)) x439000)
def portolanlaw11_LiveOuts.l2 : Nat → Int → Int → List Int → List Int → Int → List (S30) → List Int → List Int → Int → Int → List (S40) → Option (Bool)
 | 0, _, _, _, _, _, _, _, _, _, _, _ => none
 | k + 1, x3, x5, x6, x7, x8, x439000, x443000, x443001, x443002, x443003, x443004 => if x8 < (x7.length : Int) then (if 0 ≤ x8 then ((live_In.f k x443000 x443001 x443002 x443003 x443004 (rd x7 x8)).bind fun t447 => ((portolanref02_Join.f k (([x6, t447] : List (List Int)))).bind fun t453 => (portolanlaw11_LiveOuts.l2 k x3 x5 t453 x7 (wrap64 (x8 + 1)) x439000 x443000 x443001 x443002 x443003 x443004))) else (none)) else ((live_Out.f k x443000 x443001 x443002 x443003 x443004 x5).bind fun t456 => ((portolanref02_Words.f k t456 x6).bind fun t459 => (if t459 = true then (portolanlaw11_LiveOuts.l1 k x3 (wrap64 (x5 + 1)) x439000 x443000 x443001 x443002 x443003 x443004) else (some false))))
end
def portolanlaw11_LiveOuts.f (k : Nat) (l0_0 : List (S30)) : Option (Bool) := (portolanlaw11_alive.f k).bind fun t439 => (if t439 = true then ((portolanlaw11_out.f k l0_0).bind fun t440 => (if t440 = true then (some true) else (portolanlaw11_LiveOuts.l0 k 0 l0_0))) else (some false))
def portolanlaw11_LiveOuts.T17 : Bool × List (List Nat × List Nat) := (true, [([], []), ([], []), ([], []), ([], []), ([2, 3], [2, 3]), ([4], [4]), ([1, 5], [1, 5]), ([0, 6], [0, 6]), ([7, 6], [7]), ([8, 8, 0, 1, 2, 3, 4, 5, 6, 7, 8], [0, 8])])
def portolanlaw11_LiveOuts.B17 : List Nat := [0, 0, 0, 0, 12, 28, 62, 127, 255, 511]
theorem portolanlaw11_LiveOuts.tab17 : rtab .any (opsOf Tryd.f3 17) = portolanlaw11_LiveOuts.T17 := by kernel_rfl
theorem portolanlaw11_LiveOuts.bits17 : waitsOk portolanlaw11_LiveOuts.T17.2 portolanlaw11_LiveOuts.B17 = true := by kernel_rfl
set_option maxHeartbeats 8000000 in
set_option maxRecDepth 100000 in
theorem portolanlaw11_LiveOuts.calls (k : Nat) (A0_0 : Option Addr) (c0_0 : Nat) (l0_0 : List (S30)) (r : Bool) (w : World) (hGG : GG w) (hr0_0 : Kd.C k30 w A0_0 l0_0.length l0_0) (hc0_0 : l0_0.length ≤ c0_0) (h : portolanlaw11_LiveOuts.f k l0_0 = some r) :
  Calls Tryd.prog 3 #[.agg #[.slice A0_0 l0_0.length c0_0]] w fun e w' => e = .returned (.bool r) ∧ Below w.heap.size w w' := by
 have hu24 := Tryd.underlying24
 have hu30 := Tryd.underlying30
 have HGG := Aside0.mk hGG
 clear hGG
 have HR0_0 := Aside0.mk hr0_0
 have HC0_0 := Aside0.mk hc0_0
 clear hr0_0 hc0_0
 have HB := Aside0.mk (Below.refl w.heap.size w)
 have H : ((portolanlaw11_alive.f k).bind fun t439 => (if t439 = true then ((portolanlaw11_out.f k l0_0).bind fun t440 => (if t440 = true then (some true) else (portolanlaw11_LiveOuts.l0 k 0 l0_0))) else (some false))) = some r := h
 clear h
 replace H := Option.bind_eq_some_iff.mp H
 obtain ⟨t439, A20, H⟩ := H
 replace H : (if t439 = true then ((portolanlaw11_out.f k l0_0).bind fun t440 => (if t440 = true then (some true) else (portolanlaw11_LiveOuts.l0 k 0 l0_0))) else (some false)) = some r := H
 have A2 := Aside0.mk A20
 clear A20
 by_cases c3 : t439 = true
 ·
  subst c3
  have H1 : ((portolanlaw11_out.f k l0_0).bind fun t440 => (if t440 = true then (some true) else (portolanlaw11_LiveOuts.l0 k 0 l0_0))) = some r := by rw [if_pos rfl] at H; exact H
  clear H
  have H := H1
  clear H1
  replace H := Option.bind_eq_some_iff.mp H
  obtain ⟨t440, A40, H⟩ := H
  replace H : (if t440 = true then (some true) else (portolanlaw11_LiveOuts.l0 k 0 l0_0)) = some r := H
  have A4 := Aside0.mk A40
  clear A40
  by_cases c5 : t440 = true
  ·
   subst c5
   have H1 : (some true) = some r := by rw [if_pos rfl] at H; exact H
   clear H
   have H := H1
   clear H1
   obtain rfl := Option.some.inj H
   go_enter Tryd.func3, Tryd.ntmps3
   go_wp2_with (first | ((with_reducible refine gate_dst (N := 1) rfl ?_); refine box_event ?hg (N := 1) ?hd (cs := #[.slice A0_0 l0_0.length c0_0]) (t := 24) ?hr ?_; (case hd => rfl); (case hg => rfl); (case hr => first | (go_simp; done) | (go_simp; rfl)); intro gb438 hg w6 hbox hb; have BK438 := Aside0.mk (hbox); have GW438 := ge hg (bl HB); have GE438 := ge hg (bl HB); replace HB := Aside0.mk (below_step (bl HB) hb); clear hb hbox hg) | ((with_reducible refine gate_callee (f := 7) rfl ?_); refine goesL_ (some 9) rfl rfl Tryd.func7 (by kernel_rfl) rfl #[] rfl (by (try simp only [List.map_toArray, List.map_cons, List.map_nil]); first | done | rfl) ?_; (with_reducible refine (portolanlaw11_alive.calls k  true _ ?side1 A2.out).mono ?_); (case side1 => exact GG_below HGG.out (bl HB)); rintro e w7 ⟨rfl, hb⟩; refine ⟨_, rfl, ?_⟩; replace BK438 := Aside0.mk (blk_below (bx BK438.out) hb); replace HB := Aside0.mk (below_step (bl HB) hb); (try clear hb); (try clear hb2); (try clear hk); (try clear hi); have hcz8_0 := bk1 BK438.out; have hfz8_0 := bf BK438.out) | ((with_reducible refine gate_callee (f := 8) rfl ?_); refine goesL_ (some 12) rfl rfl Tryd.func8 (by kernel_rfl) rfl #[.agg #[.slice A0_0 l0_0.length c0_0]] rfl (by (try simp only [List.map_toArray, List.map_cons, List.map_nil]); first | done | rfl) ?_; (with_reducible refine (portolanlaw11_out.calls k _ _ l0_0 true _ ?side1 ?side2 A4.out).mono ?_); (case side1 => exact Kd.Cx (Kd.C_below HR0_0.out HB.out)); (case side2 => exact HC0_0.out); rintro e w9 ⟨rfl, hb⟩; refine ⟨_, rfl, ?_⟩; replace BK438 := Aside0.mk (blk_below (bx BK438.out) hb); replace HB := Aside0.mk (below_step (bl HB) hb); (try clear hb); (try clear hb2); (try clear hk); (try clear hi)))
   go_ret
   exact ⟨by first | rfl | (simp [errW_none, errW_some] <;> rfl) | (simp [*, errW_none, errW_some] <;> rfl), bl HB⟩
  ·
   replace c5 := Bool.eq_false_iff.mpr c5
   subst c5
   have H1 : (portolanlaw11_LiveOuts.l0 k 0 l0_0) = some r := by rw [if_neg (show ¬ (false = true) by decide)] at H; exact H
   clear H
   have H := H1
   clear H1
   have H' := Aside0.mk H
   clear H
   go_enter Tryd.func3, Tryd.ntmps3
   go_wp2_with (first | ((with_reducible refine gate_dst (N := 1) rfl ?_); refine box_event ?hg (N := 1) ?hd (cs := #[.slice A0_0 l0_0.length c0_0]) (t := 24) ?hr ?_; (case hd => rfl); (case hg => rfl); (case hr => first | (go_simp; done) | (go_simp; rfl)); intro gb438 hg w10 hbox hb; have BK438 := Aside0.mk (hbox); have GW438 := ge hg (bl HB); have GE438 := ge hg (bl HB); replace HB := Aside0.mk (below_step (bl HB) hb); clear hb hbox hg) | ((with_reducible refine gate_callee (f := 7) rfl ?_); refine goesL_ (some 9) rfl rfl Tryd.func7 (by kernel_rfl) rfl #[] rfl (by (try simp only [List.map_toArray, List.map_cons, List.map_nil]); first | done | rfl) ?_; (with_reducible refine (portolanlaw11_alive.calls k  true _ ?side1 A2.out).mono ?_); (case side1 => exact GG_below HGG.out (bl HB)); rintro e w11 ⟨rfl, hb⟩; refine ⟨_, rfl, ?_⟩; replace BK438 := Aside0.mk (blk_below (bx BK438.out) hb); replace HB := Aside0.mk (below_step (bl HB) hb); (try clear hb); (try clear hb2); (try clear hk); (try clear hi); have hcz12_0 := bk1 BK438.out; have hfz12_0 := bf BK438.out) | ((with_reducible refine gate_callee (f := 8) rfl ?_); refine goesL_ (some 12) rfl rfl Tryd.func8 (by kernel_rfl) rfl #[.agg #[.slice A0_0 l0_0.length c0_0]] rfl (by (try simp only [List.map_toArray, List.map_cons, List.map_nil]); first | done | rfl) ?_; (with_reducible refine (portolanlaw11_out.calls k _ _ l0_0 false _ ?side1 ?side2 A4.out).mono ?_); (case side1 => exact Kd.Cx (Kd.C_below HR0_0.out HB.out)); (case side2 => exact HC0_0.out); rintro e w13 ⟨rfl, hb⟩; refine ⟨_, rfl, ?_⟩; replace BK438 := Aside0.mk (blk_below (bx BK438.out) hb); replace HB := Aside0.mk (below_step (bl HB) hb); (try clear hb); (try clear hb2); (try clear hk); (try clear hi)))
   go_loopg [3] k (fun kq v3 w' => ∃ (x3_1 : Int), v3 = .int .i64 x3_1 ∧ Aside0 (portolanlaw11_LiveOuts.l0 kq x3_1 l0_0 = some r) ∧ Aside0 (kq ≤ k) ∧ Aside0 (w'.heap[gb438]? = some (.cells #[(.slice A0_0 l0_0.length c0_0)] 24 (0, 0))) ∧ Aside0 (Below w.heap.size w w'))
   case atStart => exact ⟨(0), (by first | rfl | (simp; done) | (simp [*]; done)), H', ⟨Nat.le_refl _⟩, ⟨bx BK438.out⟩, ⟨bl HB⟩⟩
   case round =>
    clear H'
    try clear p2
    try clear c3
    try clear c5
    try clear c7
    try clear c8
    try clear hcz12_0
    try clear hcz8_0
    try clear hfz12_0
    try clear hfz8_0
    obtain ⟨x3_1, rfl, HA, HK1, BK438, HB⟩ := hrel
    cases gk with
    | zero => exact absurd HA.out (by simp [portolanlaw11_LiveOuts.l0])
    | succ k1 =>
     have H := HA.out
     clear HA
     simp only [portolanlaw11_LiveOuts.l0] at H
     by_cases c14 : x3_1 < (l0_0.length : Int)
     ·
      rw [if_pos c14] at H
      have c14b0 : decide (x3_1 < (l0_0.length : Int)) = true := decide_eq_true c14
      clear c14
      by_cases c15 : 0 ≤ x3_1
      ·
       rw [if_pos c15] at H
       have c15b0 : decide (0 ≤ x3_1) = true := decide_eq_true c15
       clear c15
       have H' := Aside0.mk H
       clear H
       have hcz16_0 := bk1 BK438.out
       have hfz16_0 := bf BK438.out
       have p441 : 0 ≤ (x3_1 : Int) := of_decide_eq_true (by assumption)
       have q441 : x3_1 < (l0_0.length : Int) := of_decide_eq_true (by assumption)
       obtain ⟨ad441, A441_0, c441_0, A441_1, c441_1, A441_4, c441_4, e441, hx441_0, hx441_1, hx441_2, hx441_3, hx441_4, hl441_0, hi441_0, hl441_1, hi441_1, hl441_4, hi441_4⟩ := at_T30 HR0_0.out x3_1 p441 q441
       cases e441
       replace hx441_0 := (HB.out.cell (World.block_lt_of_cell? w _ hx441_0)).trans hx441_0
       replace hx441_1 := (HB.out.cell (World.block_lt_of_cell? w _ hx441_1)).trans hx441_1
       replace hx441_2 := (HB.out.cell (World.block_lt_of_cell? w _ hx441_2)).trans hx441_2
       replace hx441_3 := (HB.out.cell (World.block_lt_of_cell? w _ hx441_3)).trans hx441_3
       replace hx441_4 := (HB.out.cell (World.block_lt_of_cell? w _ hx441_4)).trans hx441_4
       have HR441_0 := Aside0.mk hi441_0
       have HC441_0 := Aside0.mk hl441_0
       clear hi441_0 hl441_0
       have HR441_1 := Aside0.mk hi441_1
       have HC441_1 := Aside0.mk hl441_1
       clear hi441_1 hl441_1
       have HR441_4 := Aside0.mk hi441_4
       have HC441_4 := Aside0.mk hl441_4
       clear hi441_4 hl441_4
       replace p441 := eq_true p441
       replace q441 := eq_true q441
       go_wp2_with (first | ((with_reducible refine gate_dst (N := 4) rfl ?_); refine box_event ?hg (N := 4) ?hd (cs := #[.slice none 0 0, .slice none 0 0, .int .i64 0, .int .i64 0, .slice none 0 0]) (t := 30) ?hr ?_; (case hd => rfl); (case hg => rfl); (case hr => first | (go_simp; done) | (go_simp; rfl)); intro gb442 hg w17 hbox hb; have BK442 := Aside0.mk (hbox); have GW442 := ge hg (bl HB); have GE442 := ge hg (bl HB); replace HB := Aside0.mk (below_step (bl HB) hb); have NB438_442 := Aside0.mk ((by rw [hg]; exact Nat.ne_of_lt (blk_lt (g := gb438) (o := .cells #[.slice (some ad441) l0_0.length c0_0] 24 (0, 0)) (bx BK438.out)) : gb438 ≠ gb442)); have NB442_438 := Aside0.mk ((by rw [hg]; exact Nat.ne_of_gt (blk_lt (g := gb438) (o := .cells #[.slice (some ad441) l0_0.length c0_0] 24 (0, 0)) (bx BK438.out)) : gb442 ≠ gb438)); replace BK438 := Aside0.mk (blk_below (bx BK438.out) hb); clear hb hbox hg; have hnb18 := NB442_438.out; have hnc18 := NB438_442.out; obtain ⟨hcz19_0, hcz19_1, hcz19_2, hcz19_3, hcz19_4⟩ := bk5 BK442.out; have hfz19_0 := bf BK442.out))
       go_loopg [5] k1 (fun kq v5 w' => ∃ (x5_2 : Int), v5 = .int .i64 x5_2 ∧ Aside0 (portolanlaw11_LiveOuts.l1 kq x3_1 x5_2 l0_0 ((rd_T30 l0_0 x3_1).f0) ((rd_T30 l0_0 x3_1).f1) ((rd_T30 l0_0 x3_1).f2) ((rd_T30 l0_0 x3_1).f3) ((rd_T30 l0_0 x3_1).f4) = some r) ∧ Aside0 (kq ≤ k1) ∧ Aside0 (w'.heap[gb438]? = some (.cells #[(.slice (some ad441) l0_0.length c0_0)] 24 (0, 0))) ∧ Aside0 (w'.heap[gb442]? = some (.cells #[(.slice A441_0 ((rd_T30 l0_0 x3_1).f0).length c441_0), (.slice A441_1 ((rd_T30 l0_0 x3_1).f1).length c441_1), .int .i64 ((rd_T30 l0_0 x3_1).f2), .int .i64 ((rd_T30 l0_0 x3_1).f3), (.slice A441_4 ((rd_T30 l0_0 x3_1).f4).length c441_4)] 30 (0, 0))) ∧ Aside0 (Below w.heap.size w w'))
       case atStart => exact ⟨(0), (by first | rfl | (simp; done) | (simp [*]; done)), H', ⟨Nat.le_refl _⟩, ⟨by refine bp ?_; refine blk_far ?_ NB438_442.out _; refine bp ?_; refine blk_far ?_ NB438_442.out _; refine bp ?_; refine blk_far ?_ NB438_442.out _; refine bp ?_; refine blk_far ?_ NB438_442.out _; refine bp ?_; refine blk_far ?_ NB438_442.out _; refine bp ?_; exact BK438.out⟩, ⟨by refine bp ?_; refine blk_put (cs := #[.slice A441_0 ((rd_T30 l0_0 x3_1).f0).length c441_0, .slice A441_1 ((rd_T30 l0_0 x3_1).f1).length c441_1, .int .i64 ((rd_T30 l0_0 x3_1).f2), .int .i64 ((rd_T30 l0_0 x3_1).f3), .slice none 0 0]) ?_ 4 _ rfl; refine bp ?_; refine blk_put (cs := #[.slice A441_0 ((rd_T30 l0_0 x3_1).f0).length c441_0, .slice A441_1 ((rd_T30 l0_0 x3_1).f1).length c441_1, .int .i64 ((rd_T30 l0_0 x3_1).f2), .int .i64 0, .slice none 0 0]) ?_ 3 _ rfl; refine bp ?_; refine blk_put (cs := #[.slice A441_0 ((rd_T30 l0_0 x3_1).f0).length c441_0, .slice A441_1 ((rd_T30 l0_0 x3_1).f1).length c441_1, .int .i64 0, .int .i64 0, .slice none 0 0]) ?_ 2 _ rfl; refine bp ?_; refine blk_put (cs := #[.slice A441_0 ((rd_T30 l0_0 x3_1).f0).length c441_0, .slice none 0 0, .int .i64 0, .int .i64 0, .slice none 0 0]) ?_ 1 _ rfl; refine bp ?_; refine blk_put (cs := #[.slice none 0 0, .slice none 0 0, .int .i64 0, .int .i64 0, .slice none 0 0]) ?_ 0 _ rfl; refine bp ?_; exact BK442.out⟩, ⟨bl HB⟩⟩
       case round =>
        clear H'
        try clear c1
        try clear p2
        try clear c3
        try clear c4
        try clear p4
        try clear q4
        try clear hx4
        try clear c5
        try clear c7
        try clear c8
        try clear c14
        try clear c14b0
        try clear c15
        try clear c15b0
        try clear c18
        try clear hcz12_0
        try clear hcz16_0
        try clear hcz19_0 hcz19_1 hcz19_2 hcz19_3 hcz19_4
        try clear hcz8_0
        try clear hfz12_0
        try clear hfz16_0
        try clear hfz19_0
        try clear hfz8_0
        try clear hx441_0
        try clear hx441_1
        try clear hx441_2
        try clear hx441_3
        try clear hx441_4
        try clear p2
        try clear p441
        try clear q441
        obtain ⟨x5_2, rfl, HA, HK2, BK438, BK442, HB⟩ := hrel
        cases gk with
        | zero => exact absurd HA.out (by simp [portolanlaw11_LiveOuts.l1])
        | succ k2 =>
         have H := HA.out
         clear HA
         simp only [portolanlaw11_LiveOuts.l1] at H
         by_cases c20 : x5_2 < (((rd_T30 l0_0 x3_1).f4).length : Int)
         ·
          rw [if_pos c20] at H
          have c20b0 : decide (x5_2 < (((rd_T30 l0_0 x3_1).f4).length : Int)) = true := decide_eq_true c20
          clear c20
          replace H := Option.bind_eq_some_iff.mp H
          obtain ⟨t443, A210, H⟩ := H
          replace H : (portolanlaw11_LiveOuts.l2 k2 x3_1 x5_2 ([] : List Int) t443 0 l0_0 ((rd_T30 l0_0 x3_1).f0) ((rd_T30 l0_0 x3_1).f1) ((rd_T30 l0_0 x3_1).f2) ((rd_T30 l0_0 x3_1).f3) ((rd_T30 l0_0 x3_1).f4)) = some r := H
          have A21 := Aside0.mk A210
          clear A210
          have H' := Aside0.mk H
          clear H
          have hnb22 := NB442_438.out
          have hnc22 := NB438_442.out
          obtain ⟨hcz23_0, hcz23_1, hcz23_2, hcz23_3, hcz23_4⟩ := bk5 BK442.out
          have hfz23_0 := bf BK442.out
          go_wp2_with (first | ((with_reducible refine gate_callee (f := 9) rfl ?_); refine goesL_ (some 34) rfl rfl Tryd.func9 (by kernel_rfl) rfl #[.agg #[.slice A441_0 ((rd_T30 l0_0 x3_1).f0).length c441_0, .slice A441_1 ((rd_T30 l0_0 x3_1).f1).length c441_1, .int .i64 ((rd_T30 l0_0 x3_1).f2), .int .i64 ((rd_T30 l0_0 x3_1).f3), .slice A441_4 ((rd_T30 l0_0 x3_1).f4).length c441_4], .int .i64 x5_2] rfl (by (try simp only [List.map_toArray, List.map_cons, List.map_nil]); first | done | rfl) ?_; (with_reducible refine (portolanref05_Next.calls _ _ ((rd_T30 l0_0 x3_1).f0) _ _ ((rd_T30 l0_0 x3_1).f1) ((rd_T30 l0_0 x3_1).f2) ((rd_T30 l0_0 x3_1).f3) _ _ ((rd_T30 l0_0 x3_1).f4) x5_2 t443 _ ?side1 ?side2 ?side3 ?side4 ?side5 ?side6 A21.out).mono ?_); (case side1 => exact Kd.Cx (Kd.C_below HR441_0.out HB.out)); (case side2 => exact HC441_0.out); (case side3 => exact Kd.Cx (Kd.C_below HR441_1.out HB.out)); (case side4 => exact HC441_1.out); (case side5 => exact Kd.Cx (Kd.C_below HR441_4.out HB.out)); (case side6 => exact HC441_4.out); rintro e w24 ⟨v444, rfl, ho0, hb⟩; refine ⟨_, rfl, ?_⟩; have HO445 := Aside0.mk (Kd.R_lower ho0 (below_size (bl HB))); replace BK438 := Aside0.mk (blk_below (bx BK438.out) hb); replace BK442 := Aside0.mk (blk_below (bx BK442.out) hb); replace HB := Aside0.mk (below_step (bl HB) hb); (try clear hb); (try clear hb2); (try clear hk); (try clear hi); (try clear ho0)))
          go_loopg [6, 8] k2 (fun kq v6 v8 w' => ∃ (x6_3 : List Int) (x8_3 : Int), v8 = .int .i64 x8_3 ∧ Aside0 (portolanlaw11_LiveOuts.l2 kq x3_1 x5_2 x6_3 t443 x8_3 l0_0 ((rd_T30 l0_0 x3_1).f0) ((rd_T30 l0_0 x3_1).f1) ((rd_T30 l0_0 x3_1).f2) ((rd_T30 l0_0 x3_1).f3) ((rd_T30 l0_0 x3_1).f4) = some r) ∧ Aside0 (kq ≤ k2) ∧ Aside0 (Kd.R (Kd.int .u64) 67 w' w.heap.size (fun _ => True) v6 x6_3) ∧ Aside0 (Kd.R (Kd.int .i64) 3 w' w.heap.size (fun _ => True) v444 t443) ∧ Aside0 (w'.heap[gb438]? = some (.cells #[(.slice (some ad441) l0_0.length c0_0)] 24 (0, 0))) ∧ Aside0 (w'.heap[gb442]? = some (.cells #[(.slice A441_0 ((rd_T30 l0_0 x3_1).f0).length c441_0), (.slice A441_1 ((rd_T30 l0_0 x3_1).f1).length c441_1), .int .i64 ((rd_T30 l0_0 x3_1).f2), .int .i64 ((rd_T30 l0_0 x3_1).f3), (.slice A441_4 ((rd_T30 l0_0 x3_1).f4).length c441_4)] 30 (0, 0))) ∧ Aside0 (Below w.heap.size w w'))
          case atStart => exact ⟨(([] : List Int)), (0), (by first | rfl | (simp; done) | (simp [*]; done)), H', ⟨Nat.le_refl _⟩, ⟨by first | exact Kd.R_nil _ _ _ _ _ | exact Kd.N_nil _ _ _ _ _ | exact Kd.V_nil _ _ _ _ _ | exact Kd.Q_nil _ _ _ _ _ | exact Kd.S_nil _ _ _ _ _⟩, ⟨by (with_reducible repeat (first | apply Kd.R_alloc | apply Kd.R_drewN | apply Kd.R_drew)); exact HO445.out⟩, ⟨bx BK438.out⟩, ⟨bx BK442.out⟩, ⟨bl HB⟩⟩
          case round =>
           clear H'
           try clear c1
           try clear c2
           try clear p2
           try clear c3
           try clear c4
           try clear p4
           try clear q4
           try clear hx4
           try clear c5
           try clear c7
           try clear c8
           try clear c9
           try clear c14
           try clear c14b0
           try clear c15
           try clear c15b0
           try clear c18
           try clear c20
           try clear c20b0
           try clear c22
           try clear hcz12_0
           try clear hcz16_0
           try clear hcz19_0 hcz19_1 hcz19_2 hcz19_3 hcz19_4
           try clear hcz23_0 hcz23_1 hcz23_2 hcz23_3 hcz23_4
           try clear hcz8_0
           try clear hfz12_0
           try clear hfz16_0
           try clear hfz19_0
           try clear hfz23_0
           try clear hfz8_0
           try clear hx441_0
           try clear hx441_1
           try clear hx441_2
           try clear hx441_3
           try clear hx441_4
           try clear p2
           try clear p4
           try clear p441
           try clear q4
           try clear q441
           obtain ⟨x6_3, x8_3, rfl, HA, HK3, HO_6, HO_7, BK438, BK442, HB⟩ := hrel
           cases gk with
           | zero => exact absurd HA.out (by simp [portolanlaw11_LiveOuts.l2])
           | succ k3 =>
            have H := HA.out
            clear HA
            simp only [portolanlaw11_LiveOuts.l2] at H
            by_cases c25 : x8_3 < (t443.length : Int)
            ·
             rw [if_pos c25] at H
             have c25b0 : decide (x8_3 < (t443.length : Int)) = true := decide_eq_true c25
             clear c25
             by_cases c26 : 0 ≤ x8_3
             ·
              rw [if_pos c26] at H
              have c26b0 : decide (0 ≤ x8_3) = true := decide_eq_true c26
              clear c26
              replace H := Option.bind_eq_some_iff.mp H
              obtain ⟨t447, A270, H⟩ := H
              replace H : ((portolanref02_Join.f k3 (([x6_3, t447] : List (List Int)))).bind fun t453 => (portolanlaw11_LiveOuts.l2 k3 x3_1 x5_2 t453 t443 (wrap64 (x8_3 + 1)) l0_0 ((rd_T30 l0_0 x3_1).f0) ((rd_T30 l0_0 x3_1).f1) ((rd_T30 l0_0 x3_1).f2) ((rd_T30 l0_0 x3_1).f3) ((rd_T30 l0_0 x3_1).f4))) = some r := H
              have A27 := Aside0.mk A270
              clear A270
              obtain ⟨y450, hy450⟩ : ∃ y_ : List (List Int), y_ = (([x6_3, t447] : List (List Int))) := ⟨_, rfl⟩
              replace H : ((portolanref02_Join.f k3 y450).bind fun t453 => (portolanlaw11_LiveOuts.l2 k3 x3_1 x5_2 t453 t443 (wrap64 (x8_3 + 1)) l0_0 ((rd_T30 l0_0 x3_1).f0) ((rd_T30 l0_0 x3_1).f1) ((rd_T30 l0_0 x3_1).f2) ((rd_T30 l0_0 x3_1).f3) ((rd_T30 l0_0 x3_1).f4))) = some r := by first | (rw [hy450]; with_reducible exact H) | (have H2_ := (Option.bind_some _ _).symm.trans H; rw [hy450]; with_reducible exact H2_) | (have H2_ := (Option.bind_some _ _).symm.trans H; with_reducible exact H2_) | with_reducible exact H | (rw [hy450]; exact H) | exact H
              have Ny450 := Aside0.mk hy450
              clear hy450
              replace H := Option.bind_eq_some_iff.mp H
              obtain ⟨t453, A280, H⟩ := H
              replace H : (portolanlaw11_LiveOuts.l2 k3 x3_1 x5_2 t453 t443 (wrap64 (x8_3 + 1)) l0_0 ((rd_T30 l0_0 x3_1).f0) ((rd_T30 l0_0 x3_1).f1) ((rd_T30 l0_0 x3_1).f2) ((rd_T30 l0_0 x3_1).f3) ((rd_T30 l0_0 x3_1).f4)) = some r := H
              have A28 := Aside0.mk A280
              clear A280
              have H' := Aside0.mk H
              clear H
              obtain ⟨Ao29, co29, eo29⟩ := Kd.R_slice HO_7.out
              subst eo29
              try go_wp2
              have n0_ := Aside0.mk (Kd.R_drew HO_6.out)
              have n1_ := Aside0.mk (Kd.R_drew HO_7.out)
              have n2_ := Aside0.mk (blk_drew BK438.out)
              have n3_ := Aside0.mk (blk_drew BK442.out)
              have n4_ := Aside0.mk (below_drew1 HB.out)
              clear HO_6
              clear HO_7
              clear BK438
              clear BK442
              clear HB
              have HO_6 := n0_
              have HO_7 := n1_
              have BK438 := n2_
              have BK442 := n3_
              have HB := n4_
              clear n0_ n1_ n2_ n3_ n4_
              have p446 : 0 ≤ (x8_3 : Int) := of_decide_eq_true (by assumption)
              have q446 : x8_3 < (t443.length : Int) := of_decide_eq_true (by assumption)
              obtain ⟨ad446, e446, hx446_0⟩ := Kd.at_int (Kd.R_reads' HO_7.out).2.2 x8_3 p446 q446
              cases e446
              replace p446 := eq_true p446
              replace q446 := eq_true q446
              refine start_ (n := 10) (S := fun w' => w'.cell? ⟨gb442, 0, none⟩ = some (.slice A441_0 ((rd_T30 l0_0 x3_1).f0).length c441_0) ∧ w'.cell? ⟨gb442, 1, none⟩ = some (.slice A441_1 ((rd_T30 l0_0 x3_1).f1).length c441_1) ∧ w'.cell? ⟨gb442, 2, none⟩ = some (.int .i64 ((rd_T30 l0_0 x3_1).f2)) ∧ w'.cell? ⟨gb442, 3, none⟩ = some (.int .i64 ((rd_T30 l0_0 x3_1).f3)) ∧ w'.cell? ⟨gb442, 4, none⟩ = some (.slice A441_4 ((rd_T30 l0_0 x3_1).f4).length c441_4) ∧ w'.cell? (ad446.add (x8_3).toNat) = some (.int .i64 (rd t443 x8_3))) (ds := []) #[false, false, false, false, false, false, false, false, false, false] (by kernel_rfl) rfl rfl ⟨(blk_cell BK442.out 0).trans rfl, (blk_cell BK442.out 1).trans rfl, (blk_cell BK442.out 2).trans rfl, (blk_cell BK442.out 3).trans rfl, (blk_cell BK442.out 4).trans rfl, hx446_0⟩ (fun hHeld => ?_); refine with_tabW portolanlaw11_LiveOuts.tab17 portolanlaw11_LiveOuts.bits17 (fun HT_ HW_ => ?_)
              generalize wr.drew = w30 at HO_6 HO_7 BK438 BK442 HB hx446_0 hHeld ⊢
              refine pure_ (i := 0) (N := some 41) (v := ?_) (a' := ?_) #[true, false, false, false, false, false, false, false, false, false] rfl rfl (any_of HT_.out (by kernel_rfl)) (fun _ _ _ h => h) (Or.inl ⟨by rfl, ?_⟩) ?_ ?_
              rotate_left
              ·
               intro w'
               go_simp
               with_reducible rfl
              rotate_left
              ·
               simp only [Act.put, List.setIfInBounds_toArray, List.set_cons_zero, List.set_cons_succ, i64_w, i32_w]
               rfl
              refine pure_ (i := 2) (N := some 43) (v := ?_) (a' := ?_) #[true, false, true, false, false, false, false, false, false, false] rfl rfl (any_of HT_.out (by kernel_rfl)) (fun _ _ _ h => h) (Or.inl ⟨by rfl, ?_⟩) ?_ ?_
              rotate_left
              ·
               intro w'
               go_simp
               with_reducible rfl
              rotate_left
              ·
               simp only [Act.put, List.setIfInBounds_toArray, List.set_cons_zero, List.set_cons_succ, i64_w, i32_w]
               rfl
              refine pure_ (i := 3) (N := some 44) (v := ?_) (a' := ?_) #[true, false, true, true, false, false, false, false, false, false] rfl rfl (any_of HT_.out (by kernel_rfl)) (fun _ _ _ h => h) (Or.inl ⟨by rfl, ?_⟩) ?_ ?_
              rotate_left
              ·
               intro w'
               go_simp
               with_reducible rfl
              rotate_left
              ·
               simp only [Act.put, List.setIfInBounds_toArray, List.set_cons_zero, List.set_cons_succ, i64_w, i32_w]
               rfl
              refine pure_ (i := 4) (N := some 45) (v := ?_) (a' := ?_) #[true, false, true, true, true, false, false, false, false, false] rfl rfl (any_of HT_.out (by kernel_rfl)) (fun _ _ _ h => h) (Or.inl ⟨by rfl, ?_⟩) ?_ ?_
              rotate_left
              ·
               intro w'
               go_simp
               with_reducible rfl
              rotate_left
              ·
               simp only [Act.put, List.setIfInBounds_toArray, List.set_cons_zero, List.set_cons_succ, i64_w, i32_w]
               rfl
              refine take_ (i := 1) (N := some 42) (v := ?_) (a' := ?_) #[true, true, true, true, true, false, false, false, false, false] rfl rfl (take_ofW HT_.out HW_.out (by kernel_rfl)) (fun _ _ _ h => h) (Or.inl ⟨by rfl, ?_⟩) hHeld ?_ ?_
              rotate_left
              ·
               rintro w' ⟨s0, s1, s2, s3, s4, s5⟩
               go_simp
               with_reducible rfl
              rotate_left
              ·
               simp only [Act.put, List.setIfInBounds_toArray, List.set_cons_zero, List.set_cons_succ, i64_w, i32_w]
               rfl
              refine take_ (i := 5) (N := some 46) (v := ?_) (a' := ?_) #[true, true, true, true, true, true, false, false, false, false] rfl rfl (take_ofW HT_.out HW_.out (by kernel_rfl)) (fun _ _ _ h => h) (Or.inl ⟨by rfl, ?_⟩) hHeld ?_ ?_
              rotate_left
              ·
               rintro w' ⟨s0, s1, s2, s3, s4, s5⟩
               go_simp
               with_reducible rfl
              rotate_left
              ·
               simp only [Act.put, List.setIfInBounds_toArray, List.set_cons_zero, List.set_cons_succ, i64_w, i32_w]
               rfl
              refine one_ (i := 6) (N := some 47) #[true, true, true, true, true, true, true, false, false, false] rfl rfl (one_of HT_.out (by kernel_rfl)) (by decide) (fun K hK => ?_)
              refine goes_ Tryd.func11 (by kernel_rfl) rfl #[.agg #[.slice A441_0 ((rd_T30 l0_0 x3_1).f0).length c441_0, .slice A441_1 ((rd_T30 l0_0 x3_1).f1).length c441_1, .int .i64 ((rd_T30 l0_0 x3_1).f2), .int .i64 ((rd_T30 l0_0 x3_1).f3), .slice A441_4 ((rd_T30 l0_0 x3_1).f4).length c441_4], .int .i64 (rd t443 x8_3)] (by rfl) rfl rfl (by (try simp only [List.map_toArray, List.map_cons, List.map_nil]); first | done | rfl) ?_
              with_reducible refine (live_In.calls k3 _ _ ((rd_T30 l0_0 x3_1).f0) _ _ ((rd_T30 l0_0 x3_1).f1) ((rd_T30 l0_0 x3_1).f2) ((rd_T30 l0_0 x3_1).f3) _ _ ((rd_T30 l0_0 x3_1).f4) (rd t443 x8_3) t447 _ ?side7 ?side1 ?side2 ?side3 ?side4 ?side5 ?side6 A27.out).mono ?_
              (case side1 => exact Kd.Cx (Kd.C_below HR441_0.out HB.out))
              (case side2 => exact HC441_0.out)
              (case side3 => exact Kd.Cx (Kd.C_below HR441_1.out HB.out))
              (case side4 => exact HC441_1.out)
              (case side5 => exact Kd.Cx (Kd.C_below HR441_4.out HB.out))
              (case side6 => exact HC441_4.out)
              (case side7 => exact GG_below HGG.out (bl HB))
              rintro e w31 ⟨v448, rfl, ho0, hb⟩
              have HS5_ := (hb.cell (World.block_lt_of_cell? _ _ (hHeld.2.2.2.2.2))).trans (hHeld.2.2.2.2.2)
              refine ⟨_, rfl, ?_⟩
              have n0_ := Aside0.mk (Kd.R_below (Kd.Rx HO_6.out) hb)
              have n1_ := Aside0.mk (Kd.R_below (Kd.Rx HO_7.out) hb)
              have n2_ := Aside0.mk (Kd.V_lower (Kd.V_mono (ok' := fun k_ => some k_ ≠ (u6 : Value).ownBlock ∧ some k_ ≠ (.slice (some ad446) t443.length co29 : Value).ownBlock ∧ k_ ≠ gb438 ∧ k_ ≠ gb442) ho0 (fun k_ hk_ => ⟨(Kd.fresh' (Kd.R_lt (Kd.Rx HO_6.out)) k_ hk_), (Kd.fresh' (Kd.R_lt (Kd.Rx HO_7.out)) k_ hk_), (Kd.freshB (g := gb438) (o := .cells #[.slice (some ad441) l0_0.length c0_0] 24 (0, 0)) (bx BK438.out) k_ hk_), (Kd.freshB (g := gb442) (o := .cells #[.slice A441_0 ((rd_T30 l0_0 x3_1).f0).length c441_0, .slice A441_1 ((rd_T30 l0_0 x3_1).f1).length c441_1, .int .i64 ((rd_T30 l0_0 x3_1).f2), .int .i64 ((rd_T30 l0_0 x3_1).f3), .slice A441_4 ((rd_T30 l0_0 x3_1).f4).length c441_4] 30 (0, 0)) (bx BK442.out) k_ hk_)⟩)) (below_size (bl HB)))
              have n3_ := Aside0.mk (blk_below (bx BK438.out) hb)
              have n4_ := Aside0.mk (blk_below (bx BK442.out) hb)
              have n5_ := Aside0.mk (below_step (bl HB) hb)
              clear HO_6
              clear HO_7
              clear BK438
              clear BK442
              clear HB
              have HO_6 := n0_
              have HO_7 := n1_
              have HO449 := n2_
              have BK438 := n3_
              have BK442 := n4_
              have HB := n5_
              clear n0_ n1_ n2_ n3_ n4_ n5_
              (try clear hb)
              (try clear hb2)
              (try clear hk)
              (try clear hi)
              (try clear ho0)
              obtain ⟨Ao32, co32, eo32⟩ := Kd.R_slice HO_6.out
              (first | subst eo32 | (injection eo32 with f1_ f2_ f3_; have f4_ := f1_.symm; have f5_ := f3_.symm; clear f1_ f2_ f3_; subst f4_; subst f5_))
              obtain ⟨Ao33, co33, eo33⟩ := Kd.V_slice HO449.out
              (first | subst eo33 | (injection eo33 with f1_ f2_ f3_; have f4_ := f1_.symm; have f5_ := f3_.symm; clear f1_ f2_ f3_; subst f4_; subst f5_))
              refine hK.out _ _ ⟨(blk_cell BK442.out 0).trans rfl, (blk_cell BK442.out 1).trans rfl, (blk_cell BK442.out 2).trans rfl, (blk_cell BK442.out 3).trans rfl, (blk_cell BK442.out 4).trans rfl, HS5_⟩ (fun hHeld => ?_)
              clear hK K
              refine norm_ (a' := ?_) ?_ ?_
              rotate_left
              ·
               show Act.put _ (some 47) _ = _
               simp only [Act.put, List.setIfInBounds_toArray, List.set_cons_zero, List.set_cons_succ, i64_w, i32_w]
               rfl
              refine one_ (i := 7) (N := some 48) #[true, true, true, true, true, true, true, true, false, false] rfl rfl (one_of HT_.out (by kernel_rfl)) (by decide) (fun K hK => ?_)
              refine Kd.N_lit_step (Kd.slice 67 (Kd.int .u64)) _ 31 ?hg (N' := 48) ?hd (xs := ([x6_3, t447] : List (List Int))) (inner := [.slice Ao32 x6_3.length co32, .slice Ao33 t447.length co33]) (ok := (fun k_ => some k_ ≠ (.slice (some ad446) t443.length co29 : Value).ownBlock ∧ k_ ≠ gb438 ∧ k_ ≠ gb442)) (okp := (fun k_ => some k_ ≠ (.slice (some ad446) t443.length co29 : Value).ownBlock ∧ k_ ≠ gb438 ∧ k_ ≠ gb442)) ?hr ?hp (fun _ hk => hk) ((show ∀ k_, w31.heap.size ≤ k_ → (fun k_ => some k_ ≠ (.slice (some ad446) t443.length co29 : Value).ownBlock ∧ k_ ≠ gb438 ∧ k_ ≠ gb442) k_ from fun k_ hk => ⟨Kd.fresh' (Kd.R_lt (Kd.Rx HO_7.out)) k_ hk, Kd.freshB (g := gb438) (o := .cells #[.slice (some ad441) l0_0.length c0_0] 24 (0, 0)) (bx BK438.out) k_ hk, Kd.freshB (g := gb442) (o := .cells #[.slice A441_0 ((rd_T30 l0_0 x3_1).f0).length c441_0, .slice A441_1 ((rd_T30 l0_0 x3_1).f1).length c441_1, .int .i64 ((rd_T30 l0_0 x3_1).f2), .int .i64 ((rd_T30 l0_0 x3_1).f3), .slice A441_4 ((rd_T30 l0_0 x3_1).f4).length c441_4] 30 (0, 0)) (bx BK442.out) k_ hk⟩) _ (Nat.le_refl _)) (Below.refl _ _) (Nat.le_refl _) (by simp) ?_; (case hd => rfl); (case hg => rfl); (case hr => first | (go_simp; done) | (go_simp; rfl)); (case hp => exact (Reps.one (show Kd.FK (Kd.slice 67 (Kd.int .u64)) _ _ x6_3 [.slice Ao32 x6_3.length co32] from (Kd.FK_slice_mk (Kd.R_reads' (Kd.R_mono (ok' := (fun k_ => some k_ ≠ (.slice (some ad446) t443.length co29 : Value).ownBlock ∧ k_ ≠ gb438 ∧ k_ ≠ gb442)) (Kd.R_types (Kd.R_types (Kd.R_apart' (HO_6.out) (Kd.R_typed HO_7.out) (by decide)) BK438.out (by decide)) BK442.out (by decide)) (fun k_ hk => ⟨hk.1.1.2, ⟨hk.1.2, hk.2⟩⟩))).2.1 (Kd.R_F (Kd.R_mono (ok' := (fun k_ => some k_ ≠ (.slice (some ad446) t443.length co29 : Value).ownBlock ∧ k_ ≠ gb438 ∧ k_ ≠ gb442)) (Kd.R_types (Kd.R_types (Kd.R_apart' (HO_6.out) (Kd.R_typed HO_7.out) (by decide)) BK438.out (by decide)) BK442.out (by decide)) (fun k_ hk => ⟨hk.1.1.2, ⟨hk.1.2, hk.2⟩⟩))))) (Reps.one (show Kd.FK (Kd.slice 67 (Kd.int .u64)) _ _ t447 [.slice Ao33 t447.length co33] from (Kd.FK_slice_mk (Kd.V_reads' (Kd.V_mono (ok' := (fun k_ => some k_ ≠ (.slice (some ad446) t443.length co29 : Value).ownBlock ∧ k_ ≠ gb438 ∧ k_ ≠ gb442)) (HO449.out) (fun k_ hk => ⟨hk.2.1, ⟨hk.2.2.1, hk.2.2.2⟩⟩))).2.1 (Kd.V_F (Kd.V_mono (ok' := (fun k_ => some k_ ≠ (.slice (some ad446) t443.length co29 : Value).ownBlock ∧ k_ ≠ gb438 ∧ k_ ≠ gb442)) (HO449.out) (fun k_ hk => ⟨hk.2.1, ⟨hk.2.2.1, hk.2.2.2⟩⟩))))) (Reps.none _ _))))
              intro v451 w34 ho35 hb hg_ hnew_
              have HS5_ := (hb.cell (World.block_lt_of_cell? _ _ (hHeld.2.2.2.2.2))).trans (hHeld.2.2.2.2.2)
              clear hg_ hnew_
              (first | rw [← Ny450.out] at ho35 | (simp only [Int.reduceToNat] at ho35; rw [← Ny450.out] at ho35))
              have n0_ := Aside0.mk (Kd.R_below (Kd.Rx HO_7.out) hb)
              have n1_ := Aside0.mk (Kd.V_elder' (Kd.Vx HO449.out) (Kd.N_base ho35) hb)
              have n2_ := Aside0.mk (Kd.N_lower ho35 (below_size (bl HB)))
              have n3_ := Aside0.mk (blk_below (bx BK438.out) hb)
              have n4_ := Aside0.mk (blk_below (bx BK442.out) hb)
              have n5_ := Aside0.mk (below_step (bl HB) hb)
              clear HO_7
              clear HO449
              clear BK438
              clear BK442
              clear HB
              clear HO_6
              have HO_7 := n0_
              have HO449 := n1_
              have HO452 := n2_
              have BK438 := n3_
              have BK442 := n4_
              have HB := n5_
              clear n0_ n1_ n2_ n3_ n4_ n5_
              clear hb ho35
              obtain ⟨Ao36, co36, eo36⟩ := Kd.N_slice HO452.out
              (first | subst eo36 | (injection eo36 with f1_ f2_ f3_; have f4_ := f1_.symm; have f5_ := f3_.symm; clear f1_ f2_ f3_; subst f4_; subst f5_))
              refine hK.out _ _ ⟨(blk_cell BK442.out 0).trans rfl, (blk_cell BK442.out 1).trans rfl, (blk_cell BK442.out 2).trans rfl, (blk_cell BK442.out 3).trans rfl, (blk_cell BK442.out 4).trans rfl, HS5_⟩ (fun hHeld => ?_)
              clear hK K
              refine norm_ (a' := ?_) ?_ ?_
              rotate_left
              ·
               show Act.put _ (some 48) _ = _
               simp only [Act.put, List.setIfInBounds_toArray, List.set_cons_zero, List.set_cons_succ, i64_w, i32_w]
               rfl
              refine one_ (i := 8) (N := some 49) #[true, true, true, true, true, true, true, true, true, false] rfl rfl (one_of HT_.out (by kernel_rfl)) (by decide) (fun K hK => ?_)
              refine goes_ Tryd.func10 (by kernel_rfl) rfl #[.slice Ao36 y450.length co36] (by rfl) rfl rfl (by (try simp only [List.map_toArray, List.map_cons, List.map_nil]); first | done | rfl) ?_
              with_reducible refine (portolanref02_Join.calls k3 _ _ y450 t453 _ ?side1 ?side2 A28.out).mono ?_
              (case side1 => exact Kd.Cx ((Kd.N_reads' HO452.out).2.2))
              (case side2 => exact (Kd.N_reads' HO452.out).2.1)
              rintro e w37 ⟨v454, rfl, ho0, hb⟩
              have HS5_ := (hb.cell (World.block_lt_of_cell? _ _ (hHeld.2.2.2.2.2))).trans (hHeld.2.2.2.2.2)
              refine ⟨_, rfl, ?_⟩
              have n0_ := Aside0.mk (Kd.R_below (Kd.Rx HO_7.out) hb)
              have n1_ := Aside0.mk (Kd.V_elder' (Kd.Vx HO449.out) (Kd.R_base ho0) hb)
              have n2_ := Aside0.mk (Kd.N_elder' (Kd.Nx HO452.out) (Kd.R_base ho0) hb)
              have n3_ := Aside0.mk (Kd.R_lower ho0 (below_size (bl HB)))
              have n4_ := Aside0.mk (blk_below (bx BK438.out) hb)
              have n5_ := Aside0.mk (blk_below (bx BK442.out) hb)
              have n6_ := Aside0.mk (below_step (bl HB) hb)
              clear HO_7
              clear HO449
              clear HO452
              clear BK438
              clear BK442
              clear HB
              have HO_7 := n0_
              have HO449 := n1_
              have HO452 := n2_
              have HO455 := n3_
              have BK438 := n4_
              have BK442 := n5_
              have HB := n6_
              clear n0_ n1_ n2_ n3_ n4_ n5_ n6_
              (try clear hb)
              (try clear hb2)
              (try clear hk)
              (try clear hi)
              (try clear ho0)
              refine hK.out _ _ ⟨(blk_cell BK442.out 0).trans rfl, (blk_cell BK442.out 1).trans rfl, (blk_cell BK442.out 2).trans rfl, (blk_cell BK442.out 3).trans rfl, (blk_cell BK442.out 4).trans rfl, HS5_⟩ (fun hHeld => ?_)
              clear hK K
              refine norm_ (a' := ?_) ?_ ?_
              rotate_left
              ·
               show Act.put _ (some 49) _ = _
               simp only [Act.put, List.setIfInBounds_toArray, List.set_cons_zero, List.set_cons_succ, i64_w, i32_w]
               rfl
              refine pure_ (i := 9) (N := some 6) (v := ?_) (a' := ?_) #[true, true, true, true, true, true, true, true, true, true] rfl rfl (any_of HT_.out (by kernel_rfl)) (fun _ _ _ h => h) (Or.inl ⟨by rfl, ?_⟩) ?_ ?_
              rotate_left
              ·
               intro w'
               go_simp
               with_reducible rfl
              rotate_left
              ·
               simp only [Act.put, List.setIfInBounds_toArray, List.set_cons_zero, List.set_cons_succ, i64_w, i32_w]
               rfl
              refine done_ (done_of HT_.out (by kernel_rfl)) ?_
              try go_wp2
              go_roundg k3
              case measure => have := HK1.out; have := HK2.out; have := HK3.out; omega
              case rel => exact ⟨(t453), (wrap64 (x8_3 + 1)), (by first | rfl | (simp; done) | (simp [*]; done)), H', ⟨by have := HK1.out; have := HK2.out; have := HK3.out; omega⟩, ⟨by (with_reducible repeat (first | apply Kd.R_alloc | apply Kd.R_drewN | apply Kd.R_drew)); exact HO455.out⟩, ⟨by (with_reducible repeat (first | apply Kd.R_alloc | apply Kd.R_drewN | apply Kd.R_drew)); exact HO_7.out⟩, ⟨bx BK438.out⟩, ⟨bx BK442.out⟩, ⟨bl HB⟩⟩
             ·
              rw [if_neg c26] at H
              exact absurd H (by simp)
            ·
             rw [if_neg c25] at H
             have c25b0 : decide (x8_3 < (t443.length : Int)) = false := decide_eq_false c25
             clear c25
             replace H := Option.bind_eq_some_iff.mp H
             obtain ⟨t456, A380, H⟩ := H
             replace H : ((portolanref02_Words.f k3 t456 x6_3).bind fun t459 => (if t459 = true then (portolanlaw11_LiveOuts.l1 k3 x3_1 (wrap64 (x5_2 + 1)) l0_0 ((rd_T30 l0_0 x3_1).f0) ((rd_T30 l0_0 x3_1).f1) ((rd_T30 l0_0 x3_1).f2) ((rd_T30 l0_0 x3_1).f3) ((rd_T30 l0_0 x3_1).f4)) else (some false))) = some r := H
             have A38 := Aside0.mk A380
             clear A380
             replace H := Option.bind_eq_some_iff.mp H
             obtain ⟨t459, A390, H⟩ := H
             replace H : (if t459 = true then (portolanlaw11_LiveOuts.l1 k3 x3_1 (wrap64 (x5_2 + 1)) l0_0 ((rd_T30 l0_0 x3_1).f0) ((rd_T30 l0_0 x3_1).f1) ((rd_T30 l0_0 x3_1).f2) ((rd_T30 l0_0 x3_1).f3) ((rd_T30 l0_0 x3_1).f4)) else (some false)) = some r := H
             have A39 := Aside0.mk A390
             clear A390
             by_cases c40 : t459 = true
             ·
              subst c40
              have H1 : (portolanlaw11_LiveOuts.l1 k3 x3_1 (wrap64 (x5_2 + 1)) l0_0 ((rd_T30 l0_0 x3_1).f0) ((rd_T30 l0_0 x3_1).f1) ((rd_T30 l0_0 x3_1).f2) ((rd_T30 l0_0 x3_1).f3) ((rd_T30 l0_0 x3_1).f4)) = some r := by rw [if_pos rfl] at H; exact H
              clear H
              have H := H1
              clear H1
              have H' := Aside0.mk H
              clear H
              obtain ⟨Ao41, co41, eo41⟩ := Kd.R_slice HO_7.out
              subst eo41
              have hnb42 := NB442_438.out
              have hnc42 := NB438_442.out
              obtain ⟨hcz43_0, hcz43_1, hcz43_2, hcz43_3, hcz43_4⟩ := bk5 BK442.out
              have hfz43_0 := bf BK442.out
              go_wp2_with (first | ((with_reducible refine gate_callee (f := 13) rfl ?_); refine goesL_ (some 52) rfl rfl Tryd.func13 (by kernel_rfl) rfl #[.agg #[.slice A441_0 ((rd_T30 l0_0 x3_1).f0).length c441_0, .slice A441_1 ((rd_T30 l0_0 x3_1).f1).length c441_1, .int .i64 ((rd_T30 l0_0 x3_1).f2), .int .i64 ((rd_T30 l0_0 x3_1).f3), .slice A441_4 ((rd_T30 l0_0 x3_1).f4).length c441_4], .int .i64 x5_2] rfl (by (try simp only [List.map_toArray, List.map_cons, List.map_nil]); first | done | rfl) ?_; (with_reducible refine (live_Out.calls k3 _ _ ((rd_T30 l0_0 x3_1).f0) _ _ ((rd_T30 l0_0 x3_1).f1) ((rd_T30 l0_0 x3_1).f2) ((rd_T30 l0_0 x3_1).f3) _ _ ((rd_T30 l0_0 x3_1).f4) x5_2 t456 _ ?side7 ?side1 ?side2 ?side3 ?side4 ?side5 ?side6 A38.out).mono ?_); (case side1 => exact Kd.Cx (Kd.C_below HR441_0.out HB.out)); (case side2 => exact HC441_0.out); (case side3 => exact Kd.Cx (Kd.C_below HR441_1.out HB.out)); (case side4 => exact HC441_1.out); (case side5 => exact Kd.Cx (Kd.C_below HR441_4.out HB.out)); (case side6 => exact HC441_4.out); (case side7 => exact GG_below HGG.out (bl HB)); rintro e w44 ⟨v457, rfl, ho0, hb⟩; refine ⟨_, rfl, ?_⟩; have HO458 := Aside0.mk (Kd.V_lower (Kd.V_mono (ok' := fun k_ => some k_ ≠ (u6 : Value).ownBlock ∧ some k_ ≠ (.slice Ao41 t443.length co41 : Value).ownBlock ∧ k_ ≠ gb438 ∧ k_ ≠ gb442) ho0 (fun k_ hk_ => ⟨(Kd.fresh' (Kd.R_lt (Kd.Rx HO_6.out)) k_ hk_), (Kd.fresh' (Kd.R_lt (Kd.Rx HO_7.out)) k_ hk_), (Kd.freshB (g := gb438) (o := .cells #[.slice (some ad441) l0_0.length c0_0] 24 (0, 0)) (bx BK438.out) k_ hk_), (Kd.freshB (g := gb442) (o := .cells #[.slice A441_0 ((rd_T30 l0_0 x3_1).f0).length c441_0, .slice A441_1 ((rd_T30 l0_0 x3_1).f1).length c441_1, .int .i64 ((rd_T30 l0_0 x3_1).f2), .int .i64 ((rd_T30 l0_0 x3_1).f3), .slice A441_4 ((rd_T30 l0_0 x3_1).f4).length c441_4] 30 (0, 0)) (bx BK442.out) k_ hk_)⟩)) (below_size (bl HB))); replace HO_6 := Aside0.mk (Kd.R_below (Kd.Rx HO_6.out) hb); replace HO_7 := Aside0.mk (Kd.R_below (Kd.Rx HO_7.out) hb); replace BK438 := Aside0.mk (blk_below (bx BK438.out) hb); replace BK442 := Aside0.mk (blk_below (bx BK442.out) hb); replace HB := Aside0.mk (below_step (bl HB) hb); (try clear hb); (try clear hb2); (try clear hk); (try clear hi); (try clear ho0); obtain ⟨Ao45, co45, eo45⟩ := Kd.V_slice HO458.out; subst eo45; obtain ⟨Ao46, co46, eo46⟩ := Kd.R_slice HO_6.out; subst eo46) | ((with_reducible refine gate_callee (f := 12) rfl ?_); refine goesL_ (some 54) rfl rfl Tryd.func12 (by kernel_rfl) rfl #[.slice Ao45 t456.length co45, .slice Ao46 x6_3.length co46] rfl (by (try simp only [List.map_toArray, List.map_cons, List.map_nil]); first | done | rfl) ?_; (with_reducible refine (portolanref02_Words.calls k3 _ _ t456 _ _ x6_3 true _ ?side1 ?side2 ?side3 ?side4 A39.out).mono ?_); (case side1 => exact Kd.Cx ((Kd.V_reads' HO458.out).2.2)); (case side2 => exact (Kd.V_reads' HO458.out).2.1); (case side3 => exact Kd.Cx ((Kd.R_reads' HO_6.out).2.2)); (case side4 => exact (Kd.R_reads' HO_6.out).2.1); rintro e w47 ⟨rfl, hb⟩; refine ⟨_, rfl, ?_⟩; replace HO_6 := Aside0.mk (Kd.R_below (Kd.Rx HO_6.out) hb); replace HO_7 := Aside0.mk (Kd.R_below (Kd.Rx HO_7.out) hb); replace HO458 := Aside0.mk (Kd.V_below (Kd.Vx HO458.out) hb); replace BK438 := Aside0.mk (blk_below (bx BK438.out) hb); replace BK442 := Aside0.mk (blk_below (bx BK442.out) hb); replace HB := Aside0.mk (below_step (bl HB) hb); (try clear hb); (try clear hb2); (try clear hk); (try clear hi)))
              go_roundg k3
              case measure => have := HK1.out; have := HK2.out; have := HK3.out; omega
              case rel => exact ⟨(wrap64 (x5_2 + 1)), (by first | rfl | (simp; done) | (simp [*]; done)), H', ⟨by have := HK1.out; have := HK2.out; have := HK3.out; omega⟩, ⟨bx BK438.out⟩, ⟨bx BK442.out⟩, ⟨bl HB⟩⟩
             ·
              replace c40 := Bool.eq_false_iff.mpr c40
              subst c40
              have H1 : (some false) = some r := by rw [if_neg (show ¬ (false = true) by decide)] at H; exact H
              clear H
              have H := H1
              clear H1
              obtain rfl := Option.some.inj H
              obtain ⟨Ao48, co48, eo48⟩ := Kd.R_slice HO_7.out
              subst eo48
              have hnb49 := NB442_438.out
              have hnc49 := NB438_442.out
              obtain ⟨hcz50_0, hcz50_1, hcz50_2, hcz50_3, hcz50_4⟩ := bk5 BK442.out
              have hfz50_0 := bf BK442.out
              go_wp2_with (first | ((with_reducible refine gate_callee (f := 13) rfl ?_); refine goesL_ (some 52) rfl rfl Tryd.func13 (by kernel_rfl) rfl #[.agg #[.slice A441_0 ((rd_T30 l0_0 x3_1).f0).length c441_0, .slice A441_1 ((rd_T30 l0_0 x3_1).f1).length c441_1, .int .i64 ((rd_T30 l0_0 x3_1).f2), .int .i64 ((rd_T30 l0_0 x3_1).f3), .slice A441_4 ((rd_T30 l0_0 x3_1).f4).length c441_4], .int .i64 x5_2] rfl (by (try simp only [List.map_toArray, List.map_cons, List.map_nil]); first | done | rfl) ?_; (with_reducible refine (live_Out.calls k3 _ _ ((rd_T30 l0_0 x3_1).f0) _ _ ((rd_T30 l0_0 x3_1).f1) ((rd_T30 l0_0 x3_1).f2) ((rd_T30 l0_0 x3_1).f3) _ _ ((rd_T30 l0_0 x3_1).f4) x5_2 t456 _ ?side7 ?side1 ?side2 ?side3 ?side4 ?side5 ?side6 A38.out).mono ?_); (case side1 => exact Kd.Cx (Kd.C_below HR441_0.out HB.out)); (case side2 => exact HC441_0.out); (case side3 => exact Kd.Cx (Kd.C_below HR441_1.out HB.out)); (case side4 => exact HC441_1.out); (case side5 => exact Kd.Cx (Kd.C_below HR441_4.out HB.out)); (case side6 => exact HC441_4.out); (case side7 => exact GG_below HGG.out (bl HB)); rintro e w51 ⟨v457, rfl, ho0, hb⟩; refine ⟨_, rfl, ?_⟩; have HO458 := Aside0.mk (Kd.V_lower (Kd.V_mono (ok' := fun k_ => some k_ ≠ (u6 : Value).ownBlock ∧ some k_ ≠ (.slice Ao48 t443.length co48 : Value).ownBlock ∧ k_ ≠ gb438 ∧ k_ ≠ gb442) ho0 (fun k_ hk_ => ⟨(Kd.fresh' (Kd.R_lt (Kd.Rx HO_6.out)) k_ hk_), (Kd.fresh' (Kd.R_lt (Kd.Rx HO_7.out)) k_ hk_), (Kd.freshB (g := gb438) (o := .cells #[.slice (some ad441) l0_0.length c0_0] 24 (0, 0)) (bx BK438.out) k_ hk_), (Kd.freshB (g := gb442) (o := .cells #[.slice A441_0 ((rd_T30 l0_0 x3_1).f0).length c441_0, .slice A441_1 ((rd_T30 l0_0 x3_1).f1).length c441_1, .int .i64 ((rd_T30 l0_0 x3_1).f2), .int .i64 ((rd_T30 l0_0 x3_1).f3), .slice A441_4 ((rd_T30 l0_0 x3_1).f4).length c441_4] 30 (0, 0)) (bx BK442.out) k_ hk_)⟩)) (below_size (bl HB))); replace HO_6 := Aside0.mk (Kd.R_below (Kd.Rx HO_6.out) hb); replace HO_7 := Aside0.mk (Kd.R_below (Kd.Rx HO_7.out) hb); replace BK438 := Aside0.mk (blk_below (bx BK438.out) hb); replace BK442 := Aside0.mk (blk_below (bx BK442.out) hb); replace HB := Aside0.mk (below_step (bl HB) hb); (try clear hb); (try clear hb2); (try clear hk); (try clear hi); (try clear ho0); obtain ⟨Ao52, co52, eo52⟩ := Kd.V_slice HO458.out; subst eo52; obtain ⟨Ao53, co53, eo53⟩ := Kd.R_slice HO_6.out; subst eo53) | ((with_reducible refine gate_callee (f := 12) rfl ?_); refine goesL_ (some 54) rfl rfl Tryd.func12 (by kernel_rfl) rfl #[.slice Ao52 t456.length co52, .slice Ao53 x6_3.length co53] rfl (by (try simp only [List.map_toArray, List.map_cons, List.map_nil]); first | done | rfl) ?_; (with_reducible refine (portolanref02_Words.calls k3 _ _ t456 _ _ x6_3 false _ ?side1 ?side2 ?side3 ?side4 A39.out).mono ?_); (case side1 => exact Kd.Cx ((Kd.V_reads' HO458.out).2.2)); (case side2 => exact (Kd.V_reads' HO458.out).2.1); (case side3 => exact Kd.Cx ((Kd.R_reads' HO_6.out).2.2)); (case side4 => exact (Kd.R_reads' HO_6.out).2.1); rintro e w54 ⟨rfl, hb⟩; refine ⟨_, rfl, ?_⟩; replace HO_6 := Aside0.mk (Kd.R_below (Kd.Rx HO_6.out) hb); replace HO_7 := Aside0.mk (Kd.R_below (Kd.Rx HO_7.out) hb); replace HO458 := Aside0.mk (Kd.V_below (Kd.Vx HO458.out) hb); replace BK438 := Aside0.mk (blk_below (bx BK438.out) hb); replace BK442 := Aside0.mk (blk_below (bx BK442.out) hb); replace HB := Aside0.mk (below_step (bl HB) hb); (try clear hb); (try clear hb2); (try clear hk); (try clear hi)))
              go_ret
              exact ⟨by first | rfl | (simp [errW_none, errW_some] <;> rfl) | (simp [*, errW_none, errW_some] <;> rfl), bl HB⟩
         ·
          rw [if_neg c20] at H
          have c20b0 : decide (x5_2 < (((rd_T30 l0_0 x3_1).f4).length : Int)) = false := decide_eq_false c20
          clear c20
          have H' := Aside0.mk H
          clear H
          have hnb55 := NB442_438.out
          have hnc55 := NB438_442.out
          obtain ⟨hcz56_0, hcz56_1, hcz56_2, hcz56_3, hcz56_4⟩ := bk5 BK442.out
          have hfz56_0 := bf BK442.out
          go_wp2
          go_roundg k2
          case measure => have := HK1.out; have := HK2.out; omega
          case rel => exact ⟨(wrap64 (x3_1 + 1)), (by first | rfl | (simp; done) | (simp [*]; done)), H', ⟨by have := HK1.out; have := HK2.out; omega⟩, ⟨bx BK438.out⟩, ⟨bl HB⟩⟩
      ·
       rw [if_neg c15] at H
       exact absurd H (by simp)
     ·
      rw [if_neg c14] at H
      have c14b0 : decide (x3_1 < (l0_0.length : Int)) = false := decide_eq_false c14
      clear c14
      obtain rfl := Option.some.inj H
      have hcz57_0 := bk1 BK438.out
      have hfz57_0 := bf BK438.out
      go_wp2
      go_ret
      exact ⟨by first | rfl | (simp [errW_none, errW_some] <;> rfl) | (simp [*, errW_none, errW_some] <;> rfl), bl HB⟩
 ·
  replace c3 := Bool.eq_false_iff.mpr c3
  subst c3
  have H1 : (some false) = some r := by rw [if_neg (show ¬ (false = true) by decide)] at H; exact H
  clear H
  have H := H1
  clear H1
  obtain rfl := Option.some.inj H
  go_enter Tryd.func3, Tryd.ntmps3
  go_wp2_with (first | ((with_reducible refine gate_dst (N := 1) rfl ?_); refine box_event ?hg (N := 1) ?hd (cs := #[.slice A0_0 l0_0.length c0_0]) (t := 24) ?hr ?_; (case hd => rfl); (case hg => rfl); (case hr => first | (go_simp; done) | (go_simp; rfl)); intro gb438 hg w58 hbox hb; have BK438 := Aside0.mk (hbox); have GW438 := ge hg (bl HB); have GE438 := ge hg (bl HB); replace HB := Aside0.mk (below_step (bl HB) hb); clear hb hbox hg) | ((with_reducible refine gate_callee (f := 7) rfl ?_); refine goesL_ (some 9) rfl rfl Tryd.func7 (by kernel_rfl) rfl #[] rfl (by (try simp only [List.map_toArray, List.map_cons, List.map_nil]); first | done | rfl) ?_; (with_reducible refine (portolanlaw11_alive.calls k  false _ ?side1 A2.out).mono ?_); (case side1 => exact GG_below HGG.out (bl HB)); rintro e w59 ⟨rfl, hb⟩; refine ⟨_, rfl, ?_⟩; replace BK438 := Aside0.mk (blk_below (bx BK438.out) hb); replace HB := Aside0.mk (below_step (bl HB) hb); (try clear hb); (try clear hb2); (try clear hk); (try clear hi)))
  go_ret
  exact ⟨by first | rfl | (simp [errW_none, errW_some] <;> rfl) | (simp [*, errW_none, errW_some] <;> rfl), bl HB⟩
end Go.Proofs.YtdmimhjmbdkhmaaDoor.X
