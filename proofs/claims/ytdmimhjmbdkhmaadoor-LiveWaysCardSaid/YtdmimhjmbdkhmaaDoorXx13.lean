/- Part of a proof about the Go function named in the last text of this claim. -/
import Derived.Test.YtdmimhjmbdkhmaaDoorZw
import Derived.Test.YtdmimhjmbdkhmaaDoorXx0
import Derived.Test.YtdmimhjmbdkhmaaDoorXx5
import Derived.Test.YtdmimhjmbdkhmaaDoorXx8
import Derived.Test.YtdmimhjmbdkhmaaDoorXx11
import Derived.Test.YtdmimhjmbdkhmaaDoorXx12
import Derived.Test.YtdmimhjmbdkhmaaDoorZg
set_option linter.unusedVariables false
set_option linter.unusedSimpArgs false
namespace Go.Proofs.YtdmimhjmbdkhmaaDoor.X
open Go.RowKit Go.Proofs.YtdmimhjmbdkhmaaDoorW.PrintWords Go.Proofs.YtdmimhjmbdkhmaaDoorW.PrintLast Go.Proofs.YtdmimhjmbdkhmaaDoorW.PrintMore
attribute [local go_sem] max2_int min2_int max_two min_two max_three min_three max_four min_four
set_option linter.unusedVariables false
set_option linter.unusedSimpArgs false
mutual
def portolanlaw11_LiveWays.j0 : Nat → List Int → Bool → List (S30) → Option (Bool)
 | 0, _, _, _ => none
 | k + 1, x1, x25, x449000 => if x25 = true then (some true) else (portolanlaw11_LiveWays.l0 k x1 0 x449000)
def portolanlaw11_LiveWays.l0 : Nat → List Int → Int → List (S30) → Option (Bool)
 | 0, _, _, _ => none
 | k + 1, x1, x5, x449000 => if x5 < (x449000.length : Int) then (if 0 ≤ x5 then (portolanlaw11_LiveWays.l1 k x1 x5 ([] : List (S42)) 0 0 x449000 ((rd_T30 x449000 x5).f0) ((rd_T30 x449000 x5).f1) ((rd_T30 x449000 x5).f2) ((rd_T30 x449000 x5).f3) ((rd_T30 x449000 x5).f4)) else (none)) else (some true)
def portolanlaw11_LiveWays.j4 : Nat → List Int → Int → List (S42) → List (S30) → List Int → List Int → Int → Int → List (S40) → Option (Bool)
 | 0, _, _, _, _, _, _, _, _, _ => none
 | k + 1, x1, x5, x7, x449000, x453000, x453001, x453002, x453003, x453004 => portolanlaw11_LiveWays.l3 k x1 x5 x7 ([] : List Int) (wrap64 ((x7.length : Int) - 1)) x449000 x453000 x453001 x453002 x453003 x453004
def portolanlaw11_LiveWays.l3 : Nat → List Int → Int → List (S42) → List Int → Int → List (S30) → List Int → List Int → Int → Int → List (S40) → Option (Bool)
 | 0, _, _, _, _, _, _, _, _, _, _, _ => none
 | k + 1, x1, x5, x7, x12, x13, x449000, x453000, x453001, x453002, x453003, x453004 => if x13 ≥ 0 then (if 0 ≤ x13 then (if x13 < (x7.length : Int) then (if 0 ≤ ((rd_T42 x7 x13).f0) then (if ((rd_T42 x7 x13).f0) < (x453004.length : Int) then (if 0 ≤ ((rd_T42 x7 x13).f1) then (if ((rd_T42 x7 x13).f1) < (((rd_T40 x453004 ((rd_T42 x7 x13).f0)).f0).length : Int) then ((live_Behind.f k x453000 x453001 x453002 x453003 x453004 ((rd_T42 x7 x13).f0) ((rd_T42 x7 x13).f1)).bind fun t469 => ((bitset_Holds.f t469 x12).bind fun t472 => (if t472 = true then ((portolanref04_Sets.f ((rd_T44 ((rd_T40 x453004 ((rd_T42 x7 x13).f0)).f0) ((rd_T42 x7 x13).f1)).f0) ((rd_T44 ((rd_T40 x453004 ((rd_T42 x7 x13).f0)).f0) ((rd_T42 x7 x13).f1)).f1) ((rd_T44 ((rd_T40 x453004 ((rd_T42 x7 x13).f0)).f0) ((rd_T42 x7 x13).f1)).f2) ((rd_T44 ((rd_T40 x453004 ((rd_T42 x7 x13).f0)).f0) ((rd_T42 x7 x13).f1)).f3) ((rd_T44 ((rd_T40 x453004 ((rd_T42 x7 x13).f0)).f0) ((rd_T42 x7 x13).f1)).f4) ((rd_T44 ((rd_T40 x453004 ((rd_T42 x7 x13).f0)).f0) ((rd_T42 x7 x13).f1)).f5) ((rd_T44 ((rd_T40 x453004 ((rd_T42 x7 x13).f0)).f0) ((rd_T42 x7 x13).f1)).f6)).bind fun bt473 => (if bt473.2 = true then ((portolanref02_Without.f k x12 (([bt473.1] : List Int))).bind fun t478 => (portolanlaw11_LiveWays.j6 k x1 x5 x7 t478 x13 x449000 x453000 x453001 x453002 x453003 x453004 ((rd_T44 ((rd_T40 x453004 ((rd_T42 x7 x13).f0)).f0) ((rd_T42 x7 x13).f1)).f0) ((rd_T44 ((rd_T40 x453004 ((rd_T42 x7 x13).f0)).f0) ((rd_T42 x7 x13).f1)).f1) ((rd_T44 ((rd_T40 x453004 ((rd_T42 x7 x13).f0)).f0) ((rd_T42 x7 x13).f1)).f2) ((rd_T44 ((rd_T40 x453004 ((rd_T42 x7 x13).f0)).f0) ((rd_T42 x7 x13).f1)).f3) ((rd_T44 ((rd_T40 x453004 ((rd_T42 x7 x13).f0)).f0) ((rd_T42 x7 x13).f1)).f4) ((rd_T44 ((rd_T40 x453004 ((rd_T42 x7 x13).f0)).f0) ((rd_T42 x7 x13).f1)).f5) ((rd_T44 ((rd_T40 x453004 ((rd_T42 x7 x13).f0)).f0) ((rd_T42 x7 x13).f1)).f6))) else (portolanlaw11_LiveWays.j6 k x1 x5 x7 x12 x13 x449000 x453000 x453001 x453002 x453003 x453004 ((rd_T44 ((rd_T40 x453004 ((rd_T42 x7 x13).f0)).f0) ((rd_T42 x7 x13).f1)).f0) ((rd_T44 ((rd_T40 x453004 ((rd_T42 x7 x13).f0)).f0) ((rd_T42 x7 x13).f1)).f1) ((rd_T44 ((rd_T40 x453004 ((rd_T42 x7 x13).f0)).f0) ((rd_T42 x7 x13).f1)).f2) ((rd_T44 ((rd_T40 x453004 ((rd_T42 x7 x13).f0)).f0) ((rd_T42 x7 x13).f1)).f3) ((rd_T44 ((rd_T40 x453004 ((rd_T42 x7 x13).f0)).f0) ((rd_T42 x7 x13).f1)).f4) ((rd_T44 ((rd_T40 x453004 ((rd_T42 x7 x13).f0)).f0) ((rd_T42 x7 x13).f1)).f5) ((rd_T44 ((rd_T40 x453004 ((rd_T42 x7 x13).f0)).f0) ((rd_T42 x7 x13).f1)).f6)))) else (some false)))) else (none)) else (none)) else (none)) else (none)) else (none)) else (none)) else (portolanlaw11_LiveWays.l0 k x1 (wrap64 (x5 + 1)) x449000)
def portolanlaw11_LiveWays.j6 : Nat → List Int → Int → List (S42) → List Int → Int → List (S30) → List Int → List Int → Int → Int → List (S40) → Int → Int → Int → Int → Int → Int → List Int → Option (Bool)
 | 0, _, _, _, _, _, _, _, _, _, _, _, _, _, _, _, _, _, _ => none
 | k + 1, x1, x5, x7, x12, x13, x449000, x453000, x453001, x453002, x453003, x453004, x467000, x467001, x467002, x467003, x467004, x467005, x467006 => (portolanref04_Uses.f k x467000 x467001 x467002 x467003 x467004 x467005 x467006).bind fun t481 => ((portolanref02_With.f k x12 t481).bind fun t484 => (if 0 ≤ x13 then (if x13 < (x7.length : Int) then ((live_Ahead.f k x453000 x453001 x453002 x453003 x453004 ((rd_T42 x7 x13).f0) ((rd_T42 x7 x13).f1)).bind fun t489 => ((bitset_Holds.f t489 t484).bind fun t492 => (if t492 = true then (portolanlaw11_LiveWays.l3 k x1 x5 x7 t484 (wrap64 (x13 - 1)) x449000 x453000 x453001 x453002 x453003 x453004) else (some false)))) else (none)) else (none)))
def portolanlaw11_LiveWays.l1 : Nat → List Int → Int → List (S42) → Int → Int → List (S30) → List Int → List Int → Int → Int → List (S40) → Option (Bool)
 | 0, _, _, _, _, _, _, _, _, _, _, _ => none
 | k + 1, x1, x5, x7, x8, x9, x449000, x453000, x453001, x453002, x453003, x453004 => if x9 ≤ (x1.length : Int) then (portolanlaw11_LiveWays.l2 k x1 x5 x7 x8 x9 0 x449000 x453000 x453001 x453002 x453003 x453004) else (portolanlaw11_LiveWays.j4 k x1 x5 x7 x449000 x453000 x453001 x453002 x453003 x453004)
def portolanlaw11_LiveWays.l2 : Nat → List Int → Int → List (S42) → Int → Int → Int → List (S30) → List Int → List Int → Int → Int → List (S40) → Option (Bool)
 | 0, _, _, _, _, _, _, _, _, _, _, _, _ => none
 | k + 1, x1, x5, x7, x8, x9, x10, x449000, x453000, x453001, x453002, x453003, x453004 => if 0 ≤ x8 then (if x8 < (x453004.length : Int) then (if x10 < (((rd_T40 x453004 x8).f0).length : Int) then (if x7.length < 8796093022208 then (portolanlaw11_LiveWays.l2 k x1 x5 (x7 ++ [(⟨x8, x10⟩ : S42)]) x8 x9 (wrap64 (x10 + 1)) x449000 x453000 x453001 x453002 x453003 x453004) else (none)) else ((portolanref05_Next.f x453000 x453001 x453002 x453003 x453004 x8).bind fun t457 => (if (t457.length : Int) = 0 then (portolanlaw11_LiveWays.j4 k x1 x5 x7 x449000 x453000 x453001 x453002 x453003 x453004) else (if x9 = (x1.length : Int) then (portolanlaw11_LiveWays.j4 k x1 x5 x7 x449000 x453000 x453001 x453002 x453003 x453004) else (if 0 ≤ x9 then (if x9 < (x1.length : Int) then (if 0 ≤ (Int.tmod (wrap64 (rd x1 x9)) (t457.length : Int)) then (if (Int.tmod (wrap64 (rd x1 x9)) (t457.length : Int)) < (t457.length : Int) then (portolanlaw11_LiveWays.l1 k x1 x5 x7 (rd t457 (Int.tmod (wrap64 (rd x1 x9)) (t457.length : Int))) (wrap64 (x9 + 1)) x449000 x453000 x453001 x453002 x453003 x453004) else (none)) else (none)) else (none)) else (none)))))) else (none)) else (none)
end
def portolanlaw11_LiveWays.f (k : Nat) (l0_0 : List (S30)) (l1 : List Int) : Option (Bool) := (portolanlaw11_alive.f k).bind fun t449 => (if t449 = true then ((portolanlaw11_out.f k l0_0).bind fun t450 => (if t450 = true then (portolanlaw11_LiveWays.j0 k l1 true l0_0) else (portolanlaw11_LiveWays.j0 k l1 (decide ((l1.length : Int) > 30)) l0_0))) else (some false))
def portolanlaw11_LiveWays.T25 : Bool × List (List Nat × List Nat) := (true, [([], []), ([0], [0]), ([], []), ([], []), ([2, 3], [2, 3]), ([4], [4]), ([5], [5]), ([1, 6], [1, 6]), ([7], [7]), ([8], [8]), ([], []), ([], []), ([10, 11], [10, 11]), ([12], [12]), ([13], [13]), ([9, 14], [9, 14]), ([15], [15]), ([], []), ([17, 16, 0, 1, 2, 3, 4, 5, 6, 7, 8, 9, 10, 11, 12, 13, 14, 15, 16, 17], [16, 17])])
def portolanlaw11_LiveWays.B25 : List Nat := [0, 1, 0, 0, 12, 28, 60, 127, 255, 511, 0, 0, 3072, 7168, 15360, 32767, 65535, 0, 262143]
theorem portolanlaw11_LiveWays.tab25 : rtab .any (opsOf Tryd.f4 25) = portolanlaw11_LiveWays.T25 := by kernel_rfl
theorem portolanlaw11_LiveWays.bits25 : waitsOk portolanlaw11_LiveWays.T25.2 portolanlaw11_LiveWays.B25 = true := by kernel_rfl
def portolanlaw11_LiveWays.T26 : Bool × List (List Nat × List Nat) := (true, [([], []), ([], []), ([], []), ([1, 2], [1, 2]), ([3], [3]), ([4], [4]), ([], []), ([], []), ([6, 7], [6, 7]), ([8], [8]), ([9], [9]), ([0, 5, 10], [0, 5, 10]), ([], []), ([11, 12, 11], [11, 12]), ([13], [13])])
def portolanlaw11_LiveWays.B26 : List Nat := [0, 0, 0, 6, 14, 30, 0, 0, 192, 448, 960, 2047, 0, 8191, 16383]
theorem portolanlaw11_LiveWays.tab26 : rtab .any (opsOf Tryd.f4 26) = portolanlaw11_LiveWays.T26 := by kernel_rfl
theorem portolanlaw11_LiveWays.bits26 : waitsOk portolanlaw11_LiveWays.T26.2 portolanlaw11_LiveWays.B26 = true := by kernel_rfl
def portolanlaw11_LiveWays.T32 : Bool × List (List Nat × List Nat) := (true, [([], []), ([], []), ([], []), ([1, 2], [1, 2]), ([3], [3]), ([4], [4]), ([], []), ([], []), ([6, 7], [6, 7]), ([8], [8]), ([9], [9]), ([0, 5, 10], [0, 5, 10]), ([], []), ([11, 12, 11], [11, 12]), ([13], [13])])
def portolanlaw11_LiveWays.B32 : List Nat := [0, 0, 0, 6, 14, 30, 0, 0, 192, 448, 960, 2047, 0, 8191, 16383]
theorem portolanlaw11_LiveWays.tab32 : rtab .any (opsOf Tryd.f4 32) = portolanlaw11_LiveWays.T32 := by kernel_rfl
theorem portolanlaw11_LiveWays.bits32 : waitsOk portolanlaw11_LiveWays.T32.2 portolanlaw11_LiveWays.B32 = true := by kernel_rfl
set_option maxHeartbeats 8000000 in
set_option maxRecDepth 100000 in
theorem portolanlaw11_LiveWays.calls (k : Nat) (A0_0 : Option Addr) (c0_0 : Nat) (l0_0 : List (S30)) (A1 : Option Addr) (c1 : Nat) (l1 : List Int) (w : World) (hGG : GG w) (hr0_0 : Kd.C k30 w A0_0 l0_0.length l0_0) (hc0_0 : l0_0.length ≤ c0_0) (hr1 : Kd.C (Kd.int .u8) w A1 l1.length l1) (hc1 : l1.length ≤ c1) (h : portolanlaw11_LiveWays.f k l0_0 l1 = some true) :
 Calls Tryd.prog 4 #[.agg #[.slice A0_0 l0_0.length c0_0], .slice A1 l1.length c1] w fun e w' => e = .returned (.bool true) ∧ Below w.heap.size w w' := by
 have hu24 := Tryd.underlying24
 have hu30 := Tryd.underlying30
 have hu42 := Tryd.underlying42
 have hu44 := Tryd.underlying44
 have HGG := Aside0.mk hGG
 clear hGG
 have HR0_0 := Aside0.mk hr0_0
 have HC0_0 := Aside0.mk hc0_0
 clear hr0_0 hc0_0
 have HR1 := Aside0.mk hr1
 have HC1 := Aside0.mk hc1
 clear hr1 hc1
 have HB := Aside0.mk (Below.refl w.heap.size w)
 have H : ((portolanlaw11_alive.f k).bind fun t449 => (if t449 = true then ((portolanlaw11_out.f k l0_0).bind fun t450 => (if t450 = true then (portolanlaw11_LiveWays.j0 k l1 true l0_0) else (portolanlaw11_LiveWays.j0 k l1 (decide ((l1.length : Int) > 30)) l0_0))) else (some false))) = some true := h
 clear h
 replace H := Option.bind_eq_some_iff.mp H
 obtain ⟨t449, A30, H⟩ := H
 replace H : (if t449 = true then ((portolanlaw11_out.f k l0_0).bind fun t450 => (if t450 = true then (portolanlaw11_LiveWays.j0 k l1 true l0_0) else (portolanlaw11_LiveWays.j0 k l1 (decide ((l1.length : Int) > 30)) l0_0))) else (some false)) = some true := H
 have A3 := Aside0.mk A30
 clear A30
 by_cases c4 : t449 = true
 ·
  subst c4
  have H1 : ((portolanlaw11_out.f k l0_0).bind fun t450 => (if t450 = true then (portolanlaw11_LiveWays.j0 k l1 true l0_0) else (portolanlaw11_LiveWays.j0 k l1 (decide ((l1.length : Int) > 30)) l0_0))) = some true := by rw [if_pos rfl] at H; exact H
  clear H
  have H := H1
  clear H1
  have HC5 := Aside0.mk H
  clear H
  go_enter Tryd.func4, Tryd.ntmps4
  go_upto_region 3 with (first | ((with_reducible refine gate_dst (N := 2) rfl ?_); (try (refine gate_guard (by rfl) ?_; dsimp only)); refine box_event ?hg (N := 2) ?hd (cs := #[.slice A0_0 l0_0.length c0_0]) (t := 24) ?hr ?_; (case hd => rfl); (case hg => rfl); (case hr => first | (go_simp; done) | (go_simp; rfl)); intro gb448 hg w6 hbox hb; have BK448 := Aside0.mk (hbox); have GW448 := ge hg (bl HB); have GE448 := ge hg (bl HB); replace HB := Aside0.mk (below_step (bl HB) hb); clear hb hbox hg) | ((with_reducible refine gate_callee (f := 7) rfl ?_); refine goesL_ (some 17) rfl rfl Tryd.func7 (by kernel_rfl) rfl #[] rfl (by (try simp only [List.map_toArray, List.map_cons, List.map_nil]); first | done | rfl) ?_; (with_reducible refine (portolanlaw11_alive.calls k  true _ ?side1 A3.out).mono ?_); (case side1 => exact GG_below HGG.out (bl HB)); rintro e w7 ⟨rfl, hb⟩; refine ⟨_, rfl, ?_⟩; replace BK448 := Aside0.mk (blk_below (bx BK448.out) hb); replace HB := Aside0.mk (below_step (bl HB) hb); (try clear hb); (try clear hb2); (try clear hk); (try clear hi)))
  (try simp only [Act.put, List.setIfInBounds_toArray, List.set_cons_zero, List.set_cons_succ])
  go_cut [25] (fun v25 wc => ∃ (kq : Nat) (x25_4 : Bool), v25 = .bool x25_4 ∧ Aside0 (portolanlaw11_LiveWays.j0 kq l1 x25_4 l0_0 = some true) ∧ Aside0 (kq ≤ k) ∧ Aside0 (wc.heap[gb448]? = some (.cells #[(.slice A0_0 l0_0.length c0_0)] 24 (0, 0))) ∧ Aside0 (Below w.heap.size w wc))
  case first =>
   have H := HC5.out
   clear HC5
   replace H := Option.bind_eq_some_iff.mp H
   obtain ⟨t450, A80, H⟩ := H
   replace H : (if t450 = true then (portolanlaw11_LiveWays.j0 k l1 true l0_0) else (portolanlaw11_LiveWays.j0 k l1 (decide ((l1.length : Int) > 30)) l0_0)) = some true := H
   have A8 := Aside0.mk A80
   clear A80
   by_cases c9 : t450 = true
   ·
    subst c9
    have H1 : (portolanlaw11_LiveWays.j0 k l1 true l0_0) = some true := by rw [if_pos rfl] at H; exact H
    clear H
    have H := H1
    clear H1
    have H' := Aside0.mk H
    clear H
    have hcz10_0 := bk1 BK448.out
    have hfz10_0 := bf BK448.out
    go_wp2_with (first | ((with_reducible refine gate_callee (f := 8) rfl ?_); refine goesL_ (some 20) rfl rfl Tryd.func8 (by kernel_rfl) rfl #[.agg #[.slice A0_0 l0_0.length c0_0]] rfl (by (try simp only [List.map_toArray, List.map_cons, List.map_nil]); first | done | rfl) ?_; (with_reducible refine (portolanlaw11_out.calls k _ _ l0_0 true _ ?side1 ?side2 A8.out).mono ?_); (case side1 => exact Kd.Cx (Kd.C_below HR0_0.out HB.out)); (case side2 => exact HC0_0.out); rintro e w11 ⟨rfl, hb⟩; refine ⟨_, rfl, ?_⟩; replace BK448 := Aside0.mk (blk_below (bx BK448.out) hb); replace HB := Aside0.mk (below_step (bl HB) hb); (try clear hb); (try clear hb2); (try clear hk); (try clear hi)))
    go_meet
    case rel => exact ⟨_, (true), (by first | rfl | (simp; done) | (simp [*]; done)), H', ⟨by first | omega | exact Nat.le_refl _⟩, ⟨bx BK448.out⟩, ⟨bl HB⟩⟩
   replace c9 := Bool.eq_false_iff.mpr c9
   subst c9
   have H1 : (portolanlaw11_LiveWays.j0 k l1 (decide ((l1.length : Int) > 30)) l0_0) = some true := by rw [if_neg (show ¬ (false = true) by decide)] at H; exact H
   clear H
   have H := H1
   clear H1
   have H' := Aside0.mk H
   clear H
   have hcz12_0 := bk1 BK448.out
   have hfz12_0 := bf BK448.out
   go_wp2_with (first | ((with_reducible refine gate_callee (f := 8) rfl ?_); refine goesL_ (some 20) rfl rfl Tryd.func8 (by kernel_rfl) rfl #[.agg #[.slice A0_0 l0_0.length c0_0]] rfl (by (try simp only [List.map_toArray, List.map_cons, List.map_nil]); first | done | rfl) ?_; (with_reducible refine (portolanlaw11_out.calls k _ _ l0_0 false _ ?side1 ?side2 A8.out).mono ?_); (case side1 => exact Kd.Cx (Kd.C_below HR0_0.out HB.out)); (case side2 => exact HC0_0.out); rintro e w13 ⟨rfl, hb⟩; refine ⟨_, rfl, ?_⟩; replace BK448 := Aside0.mk (blk_below (bx BK448.out) hb); replace HB := Aside0.mk (below_step (bl HB) hb); (try clear hb); (try clear hb2); (try clear hk); (try clear hi)))
   go_meet
   case rel => exact ⟨_, (decide ((l1.length : Int) > 30)), (by first | rfl | (simp; done) | (simp [*]; done)), H', ⟨by first | omega | exact Nat.le_refl _⟩, ⟨bx BK448.out⟩, ⟨bl HB⟩⟩
  case rest =>
   clear HC5
   try clear c1
   try clear p2
   try clear c4
   try clear c7
   try clear c8
   try clear c9
   try clear hcz10_0
   try clear hcz12_0
   try clear hfz10_0
   try clear hfz12_0
   obtain ⟨kq, x25_4, rfl, HA, HJ4, BK448, HB⟩ := hcut
   cases kq with
   | zero => exact absurd HA.out (by simp [portolanlaw11_LiveWays.j0])
   | succ kj4 =>
    have H := HA.out
    clear HA
    simp only [portolanlaw11_LiveWays.j0] at H
    by_cases c14 : x25_4 = true
    ·
     subst c14
     have H1 : (some true) = some true := rfl
     clear H
     have H := H1
     clear H1
     clear H
     go_wp2
     go_ret
     exact ⟨by first | rfl | (simp [errW_none, errW_some] <;> rfl) | (simp [*, errW_none, errW_some] <;> rfl), bl HB⟩
    replace c14 := Bool.eq_false_iff.mpr c14
    subst c14
    have H1 : (portolanlaw11_LiveWays.l0 kj4 l1 0 l0_0) = some true := by rw [if_neg (show ¬ (false = true) by decide)] at H; exact H
    clear H
    have H := H1
    clear H1
    have H' := Aside0.mk H
    clear H
    go_wp2
    go_loopg [5] kj4 (fun kq v5 w' => ∃ (x5_2 : Int), v5 = .int .i64 x5_2 ∧ Aside0 (portolanlaw11_LiveWays.l0 kq l1 x5_2 l0_0 = some true) ∧ Aside0 (kq ≤ kj4) ∧ Aside0 (w'.heap[gb448]? = some (.cells #[(.slice A0_0 l0_0.length c0_0)] 24 (0, 0))) ∧ Aside0 (Below w.heap.size w w'))
    case atStart => exact ⟨(0), (by first | rfl | (simp; done) | (simp [*]; done)), H', ⟨Nat.le_refl _⟩, ⟨bx BK448.out⟩, ⟨bl HB⟩⟩
    case round =>
     clear H'
     try clear c1
     try clear p2
     try clear c4
     try clear c7
     try clear c8
     try clear c9
     try clear c14
     try clear hcz10_0
     try clear hcz12_0
     try clear hfz10_0
     try clear hfz12_0
     try clear p2
     obtain ⟨x5_2, rfl, HA, HK2, BK448, HB⟩ := hrel
     cases gk with
     | zero => exact absurd HA.out (by simp [portolanlaw11_LiveWays.l0])
     | succ k2 =>
      have H := HA.out
      clear HA
      simp only [portolanlaw11_LiveWays.l0] at H
      by_cases c15 : x5_2 < (l0_0.length : Int)
      ·
       rw [if_pos c15] at H
       have c15b0 : decide (x5_2 < (l0_0.length : Int)) = true := decide_eq_true c15
       clear c15
       by_cases c16 : 0 ≤ x5_2
       ·
        rw [if_pos c16] at H
        have c16b0 : decide (0 ≤ x5_2) = true := decide_eq_true c16
        clear c16
        have HC17 := Aside0.mk H
        clear H
        have hcz18_0 := bk1 BK448.out
        have hfz18_0 := bf BK448.out
        have p451 : 0 ≤ (x5_2 : Int) := of_decide_eq_true (by assumption)
        have q451 : x5_2 < (l0_0.length : Int) := of_decide_eq_true (by assumption)
        obtain ⟨ad451, A451_0, c451_0, A451_1, c451_1, A451_4, c451_4, e451, hx451_0, hx451_1, hx451_2, hx451_3, hx451_4, hl451_0, hi451_0, hl451_1, hi451_1, hl451_4, hi451_4⟩ := at_T30 HR0_0.out x5_2 p451 q451
        cases e451
        replace hx451_0 := (HB.out.cell (World.block_lt_of_cell? w _ hx451_0)).trans hx451_0
        replace hx451_1 := (HB.out.cell (World.block_lt_of_cell? w _ hx451_1)).trans hx451_1
        replace hx451_2 := (HB.out.cell (World.block_lt_of_cell? w _ hx451_2)).trans hx451_2
        replace hx451_3 := (HB.out.cell (World.block_lt_of_cell? w _ hx451_3)).trans hx451_3
        replace hx451_4 := (HB.out.cell (World.block_lt_of_cell? w _ hx451_4)).trans hx451_4
        have HR451_0 := Aside0.mk hi451_0
        have HC451_0 := Aside0.mk hl451_0
        clear hi451_0 hl451_0
        have HR451_1 := Aside0.mk hi451_1
        have HC451_1 := Aside0.mk hl451_1
        clear hi451_1 hl451_1
        have HR451_4 := Aside0.mk hi451_4
        have HC451_4 := Aside0.mk hl451_4
        clear hi451_4 hl451_4
        replace p451 := eq_true p451
        replace q451 := eq_true q451
        go_upto_block 2 with (first | ((with_reducible refine gate_dst (N := 6) rfl ?_); (try (refine gate_guard (by rfl) ?_; dsimp only)); refine box_event ?hg (N := 6) ?hd (cs := #[.slice none 0 0, .slice none 0 0, .int .i64 0, .int .i64 0, .slice none 0 0]) (t := 30) ?hr ?_; (case hd => rfl); (case hg => rfl); (case hr => first | (go_simp; done) | (go_simp; rfl)); intro gb452 hg w19 hbox hb; have BK452 := Aside0.mk (hbox); have GW452 := ge hg (bl HB); have GE452 := ge hg (bl HB); replace HB := Aside0.mk (below_step (bl HB) hb); have NB448_452 := Aside0.mk ((by rw [hg]; exact Nat.ne_of_lt (blk_lt (g := gb448) (o := .cells #[.slice (some ad451) l0_0.length c0_0] 24 (0, 0)) (bx BK448.out)) : gb448 ≠ gb452)); have NB452_448 := Aside0.mk ((by rw [hg]; exact Nat.ne_of_gt (blk_lt (g := gb448) (o := .cells #[.slice (some ad451) l0_0.length c0_0] 24 (0, 0)) (bx BK448.out)) : gb452 ≠ gb448)); replace BK448 := Aside0.mk (blk_below (bx BK448.out) hb); clear hb hbox hg; have hnb20 := NB452_448.out; have hnc20 := NB448_452.out; obtain ⟨hcz21_0, hcz21_1, hcz21_2, hcz21_3, hcz21_4⟩ := bk5 BK452.out; have hfz21_0 := bf BK452.out))
        (try simp only [Act.put, List.setIfInBounds_toArray, List.set_cons_zero, List.set_cons_succ])
        go_cut [7] (fun v7 wc => ∃ (kq : Nat) (x7_16 : List (S42)), Aside0 (portolanlaw11_LiveWays.j4 kq l1 x5_2 x7_16 l0_0 ((rd_T30 l0_0 x5_2).f0) ((rd_T30 l0_0 x5_2).f1) ((rd_T30 l0_0 x5_2).f2) ((rd_T30 l0_0 x5_2).f3) ((rd_T30 l0_0 x5_2).f4) = some true) ∧ Aside0 (kq ≤ k2) ∧ Aside0 (Kd.R k42 42 wc w.heap.size (fun _ => True) v7 x7_16) ∧ Aside0 (wc.heap[gb448]? = some (.cells #[(.slice (some ad451) l0_0.length c0_0)] 24 (0, 0))) ∧ Aside0 (wc.heap[gb452]? = some (.cells #[(.slice A451_0 ((rd_T30 l0_0 x5_2).f0).length c451_0), (.slice A451_1 ((rd_T30 l0_0 x5_2).f1).length c451_1), .int .i64 ((rd_T30 l0_0 x5_2).f2), .int .i64 ((rd_T30 l0_0 x5_2).f3), (.slice A451_4 ((rd_T30 l0_0 x5_2).f4).length c451_4)] 30 (0, 0))) ∧ Aside0 (Below w.heap.size w wc))
        case first =>
         have H := HC17.out
         clear HC17
         have H' := Aside0.mk H
         clear H
         go_wp2
         go_loopg [7, 8, 9] k2 (fun kq v7 v8 v9 w' => ∃ (x7_3 : List (S42)) (x8_3 : Int) (x9_3 : Int), v8 = .int .i64 x8_3 ∧ v9 = .int .i64 x9_3 ∧ Aside0 (portolanlaw11_LiveWays.l1 kq l1 x5_2 x7_3 x8_3 x9_3 l0_0 ((rd_T30 l0_0 x5_2).f0) ((rd_T30 l0_0 x5_2).f1) ((rd_T30 l0_0 x5_2).f2) ((rd_T30 l0_0 x5_2).f3) ((rd_T30 l0_0 x5_2).f4) = some true) ∧ Aside0 (kq ≤ k2) ∧ Aside0 (Kd.R k42 42 w' w.heap.size (fun _ => True) v7 x7_3) ∧ Aside0 (w'.heap[gb448]? = some (.cells #[(.slice (some ad451) l0_0.length c0_0)] 24 (0, 0))) ∧ Aside0 (w'.heap[gb452]? = some (.cells #[(.slice A451_0 ((rd_T30 l0_0 x5_2).f0).length c451_0), (.slice A451_1 ((rd_T30 l0_0 x5_2).f1).length c451_1), .int .i64 ((rd_T30 l0_0 x5_2).f2), .int .i64 ((rd_T30 l0_0 x5_2).f3), (.slice A451_4 ((rd_T30 l0_0 x5_2).f4).length c451_4)] 30 (0, 0))) ∧ Aside0 (Below w.heap.size w w'))
         case atStart => exact ⟨(([] : List (S42))), (0), (0), (by first | rfl | (simp; done) | (simp [*]; done)), (by first | rfl | (simp; done) | (simp [*]; done)), H', ⟨Nat.le_refl _⟩, ⟨by first | exact Kd.R_nil _ _ _ _ _ | exact Kd.N_nil _ _ _ _ _ | exact Kd.V_nil _ _ _ _ _ | exact Kd.Q_nil _ _ _ _ _ | exact Kd.S_nil _ _ _ _ _⟩, ⟨by refine bp ?_; refine blk_far ?_ NB448_452.out _; refine bp ?_; refine blk_far ?_ NB448_452.out _; refine bp ?_; refine blk_far ?_ NB448_452.out _; refine bp ?_; refine blk_far ?_ NB448_452.out _; refine bp ?_; refine blk_far ?_ NB448_452.out _; refine bp ?_; exact BK448.out⟩, ⟨by refine bp ?_; refine blk_put (cs := #[.slice A451_0 ((rd_T30 l0_0 x5_2).f0).length c451_0, .slice A451_1 ((rd_T30 l0_0 x5_2).f1).length c451_1, .int .i64 ((rd_T30 l0_0 x5_2).f2), .int .i64 ((rd_T30 l0_0 x5_2).f3), .slice none 0 0]) ?_ 4 _ rfl; refine bp ?_; refine blk_put (cs := #[.slice A451_0 ((rd_T30 l0_0 x5_2).f0).length c451_0, .slice A451_1 ((rd_T30 l0_0 x5_2).f1).length c451_1, .int .i64 ((rd_T30 l0_0 x5_2).f2), .int .i64 0, .slice none 0 0]) ?_ 3 _ rfl; refine bp ?_; refine blk_put (cs := #[.slice A451_0 ((rd_T30 l0_0 x5_2).f0).length c451_0, .slice A451_1 ((rd_T30 l0_0 x5_2).f1).length c451_1, .int .i64 0, .int .i64 0, .slice none 0 0]) ?_ 2 _ rfl; refine bp ?_; refine blk_put (cs := #[.slice A451_0 ((rd_T30 l0_0 x5_2).f0).length c451_0, .slice none 0 0, .int .i64 0, .int .i64 0, .slice none 0 0]) ?_ 1 _ rfl; refine bp ?_; refine blk_put (cs := #[.slice none 0 0, .slice none 0 0, .int .i64 0, .int .i64 0, .slice none 0 0]) ?_ 0 _ rfl; refine bp ?_; exact BK452.out⟩, ⟨bl HB⟩⟩
         case round =>
          clear H'
          try clear c1
          try clear c2
          try clear p2
          try clear c4
          try clear p4
          try clear q4
          try clear hx4
          try clear c7
          try clear c8
          try clear c9
          try clear c14
          try clear c15
          try clear c15b0
          try clear c16
          try clear c16b0
          try clear c20
          try clear hcz10_0
          try clear hcz12_0
          try clear hcz18_0
          try clear hcz21_0 hcz21_1 hcz21_2 hcz21_3 hcz21_4
          try clear hfz10_0
          try clear hfz12_0
          try clear hfz18_0
          try clear hfz21_0
          try clear hx451_0
          try clear hx451_1
          try clear hx451_2
          try clear hx451_3
          try clear hx451_4
          try clear p2
          try clear p451
          try clear q451
          obtain ⟨x7_3, x8_3, x9_3, rfl, rfl, HA, HK3, HO_7, BK448, BK452, HB⟩ := hrel
          cases gk with
          | zero => exact absurd HA.out (by simp [portolanlaw11_LiveWays.l1])
          | succ k3 =>
           have H := HA.out
           clear HA
           simp only [portolanlaw11_LiveWays.l1] at H
           by_cases c22 : x9_3 ≤ (l1.length : Int)
           ·
            rw [if_pos c22] at H
            have c22b0 : decide (x9_3 ≤ (l1.length : Int)) = true := decide_eq_true c22
            clear c22
            (first | rw [c22b0] | (simp only [i64_w, i32_w]; rw [c22b0]) | skip)
            have H' := Aside0.mk H
            clear H
            go_wp2
            go_loopg [7, 10] k3 (fun kq v7 v10 w' => ∃ (x7_4 : List (S42)) (x10_4 : Int), v10 = .int .i64 x10_4 ∧ Aside0 (portolanlaw11_LiveWays.l2 kq l1 x5_2 x7_4 x8_3 x9_3 x10_4 l0_0 ((rd_T30 l0_0 x5_2).f0) ((rd_T30 l0_0 x5_2).f1) ((rd_T30 l0_0 x5_2).f2) ((rd_T30 l0_0 x5_2).f3) ((rd_T30 l0_0 x5_2).f4) = some true) ∧ Aside0 (kq ≤ k3) ∧ Aside0 (Kd.R k42 42 w' w.heap.size (fun _ => True) v7 x7_4) ∧ Aside0 (w'.heap[gb448]? = some (.cells #[(.slice (some ad451) l0_0.length c0_0)] 24 (0, 0))) ∧ Aside0 (w'.heap[gb452]? = some (.cells #[(.slice A451_0 ((rd_T30 l0_0 x5_2).f0).length c451_0), (.slice A451_1 ((rd_T30 l0_0 x5_2).f1).length c451_1), .int .i64 ((rd_T30 l0_0 x5_2).f2), .int .i64 ((rd_T30 l0_0 x5_2).f3), (.slice A451_4 ((rd_T30 l0_0 x5_2).f4).length c451_4)] 30 (0, 0))) ∧ Aside0 (Below w.heap.size w w'))
            case atStart => exact ⟨(x7_3), (0), (by first | rfl | (simp; done) | (simp [*]; done)), H', ⟨Nat.le_refl _⟩, ⟨Kd.Rx HO_7.out⟩, ⟨bx BK448.out⟩, ⟨bx BK452.out⟩, ⟨bl HB⟩⟩
            case round =>
             clear H'
             try clear c1
             try clear c2
             try clear p2
             try clear c4
             try clear p4
             try clear q4
             try clear hx4
             try clear c7
             try clear c8
             try clear c9
             try clear c14
             try clear c15
             try clear c15b0
             try clear c16
             try clear c16b0
             try clear c20
             try clear c22
             try clear c22b0
             try clear hcz10_0
             try clear hcz12_0
             try clear hcz18_0
             try clear hcz21_0 hcz21_1 hcz21_2 hcz21_3 hcz21_4
             try clear hfz10_0
             try clear hfz12_0
             try clear hfz18_0
             try clear hfz21_0
             try clear hx451_0
             try clear hx451_1
             try clear hx451_2
             try clear hx451_3
             try clear hx451_4
             try clear p2
             try clear p4
             try clear p451
             try clear q4
             try clear q451
             obtain ⟨x7_4, x10_4, rfl, HA, HK4, HO_7, BK448, BK452, HB⟩ := hrel
             cases gk with
             | zero => exact absurd HA.out (by simp [portolanlaw11_LiveWays.l2])
             | succ k4 =>
              have H := HA.out
              clear HA
              simp only [portolanlaw11_LiveWays.l2] at H
              by_cases c23 : 0 ≤ x8_3
              ·
               rw [if_pos c23] at H
               have c23b0 : decide (0 ≤ x8_3) = true := decide_eq_true c23
               clear c23
               by_cases c24 : x8_3 < (((rd_T30 l0_0 x5_2).f4).length : Int)
               ·
                rw [if_pos c24] at H
                have c24b0 : decide (x8_3 < (((rd_T30 l0_0 x5_2).f4).length : Int)) = true := decide_eq_true c24
                clear c24
                by_cases c25 : x10_4 < (((rd_T40 ((rd_T30 l0_0 x5_2).f4) x8_3).f0).length : Int)
                ·
                 rw [if_pos c25] at H
                 have c25b0 : decide (x10_4 < (((rd_T40 ((rd_T30 l0_0 x5_2).f4) x8_3).f0).length : Int)) = true := decide_eq_true c25
                 clear c25
                 by_cases c26 : x7_4.length < 8796093022208
                 ·
                  rw [if_pos c26] at H
                  have LMc26 := Aside0.mk c26
                  clear c26
                  obtain ⟨y454, hy454⟩ : ∃ y_ : List (S42), y_ = (x7_4 ++ [(⟨x8_3, x10_4⟩ : S42)]) := ⟨_, rfl⟩
                  replace H : (portolanlaw11_LiveWays.l2 k4 l1 x5_2 y454 x8_3 x9_3 (wrap64 (x10_4 + 1)) l0_0 ((rd_T30 l0_0 x5_2).f0) ((rd_T30 l0_0 x5_2).f1) ((rd_T30 l0_0 x5_2).f2) ((rd_T30 l0_0 x5_2).f3) ((rd_T30 l0_0 x5_2).f4)) = some true := by first | (rw [hy454]; with_reducible exact H) | (have H2_ := (Option.bind_some _ _).symm.trans H; rw [hy454]; with_reducible exact H2_) | (have H2_ := (Option.bind_some _ _).symm.trans H; with_reducible exact H2_) | with_reducible exact H | (rw [hy454]; exact H) | exact H
                  have Ny454 := Aside0.mk hy454
                  clear hy454
                  have H' := Aside0.mk H
                  clear H
                  have hnb27 := NB452_448.out
                  have hnc27 := NB448_452.out
                  obtain ⟨hcz28_0, hcz28_1, hcz28_2, hcz28_3, hcz28_4⟩ := bk5 BK452.out
                  have hfz28_0 := bf BK452.out
                  have p453 : 0 ≤ (x8_3 : Int) := of_decide_eq_true (by assumption)
                  have q453 : x8_3 < (((rd_T30 l0_0 x5_2).f4).length : Int) := of_decide_eq_true (by assumption)
                  obtain ⟨ad453, A453_0, c453_0, e453, hx453_0, hl453_0, hi453_0⟩ := at_T40 HR451_4.out x8_3 p453 q453
                  cases e453
                  replace hx453_0 := (HB.out.cell (World.block_lt_of_cell? w _ hx453_0)).trans hx453_0
                  have HR453_0 := Aside0.mk hi453_0
                  have HC453_0 := Aside0.mk hl453_0
                  clear hi453_0 hl453_0
                  replace p453 := eq_true p453
                  replace q453 := eq_true q453
                  go_wp2_with (first | ((with_reducible refine gate_builtin (b := .append) (xs := #[.tmp 55, .tmp 59]) rfl ?_); (try (refine gate_guard (by rfl) ?_; dsimp only)); at_builtin; refine Kd.R_append k42 (w0 := w) w.heap.size rfl (.tmp 55) (.tmp 59) 37 42 (.agg #[(.int .i64 0), (.int .i64 0)]) 16 rfl Tryd.underlying37 info42 rfl (by decide) (by omega) u7 x7_4 (⟨x8_3, x10_4⟩ : S42) [.int .i64 x8_3, .int .i64 x10_4] (fun _ => True) (fun _ => False) rfl rfl ?aP (fun _ hk => hk.elim) ?aF ?aO ?aB ?aS ?aL ?_; (case aP => exact k42_mkM _ _ _ (⟨x8_3, x10_4⟩ : S42)); (case aB => exact (bl HB)); (case aF => exact (fun _ _ => trivial)); (case aO => exact (Kd.Rx HO_7.out)); (case aS => exact (below_size (bl HB))); (case aL => have := LMc26.out; omega); intro v455 w29 ho hb hg hat; rw [← Ny454.out] at ho; replace BK448 := Aside0.mk (blk_grown (g := gb448) (o := .cells #[.slice (some ad451) l0_0.length c0_0] 24 (0, 0)) (bx BK448.out) hg (Kd.R_ne HO_7.out BK448.out (by decide))); replace BK452 := Aside0.mk (blk_grown (g := gb452) (o := .cells #[.slice A451_0 ((rd_T30 l0_0 x5_2).f0).length c451_0, .slice A451_1 ((rd_T30 l0_0 x5_2).f1).length c451_1, .int .i64 ((rd_T30 l0_0 x5_2).f2), .int .i64 ((rd_T30 l0_0 x5_2).f3), .slice (some ad453) ((rd_T30 l0_0 x5_2).f4).length c451_4] 30 (0, 0)) (bx BK452.out) hg (Kd.R_ne HO_7.out BK452.out (by decide))); replace HB := Aside0.mk (hb); have HO456 := Aside0.mk (ho); clear HO_7; clear ho hb hg hat))
                  go_roundg k4
                  case measure => have := HJ4.out; have := HK2.out; have := HK3.out; have := HK4.out; omega
                  case rel => exact ⟨(y454), (wrap64 (x10_4 + 1)), (by first | rfl | (simp; done) | (simp [*]; done)), H', ⟨by have := HJ4.out; have := HK2.out; have := HK3.out; have := HK4.out; omega⟩, ⟨Kd.Rx HO456.out⟩, ⟨bx BK448.out⟩, ⟨bx BK452.out⟩, ⟨bl HB⟩⟩
                 rw [if_neg c26] at H
                 exact absurd H (by simp)
                rw [if_neg c25] at H
                have c25b0 : decide (x10_4 < (((rd_T40 ((rd_T30 l0_0 x5_2).f4) x8_3).f0).length : Int)) = false := decide_eq_false c25
                clear c25
                replace H := Option.bind_eq_some_iff.mp H
                obtain ⟨t457, A300, H⟩ := H
                replace H : (if (t457.length : Int) = 0 then (portolanlaw11_LiveWays.j4 k4 l1 x5_2 x7_4 l0_0 ((rd_T30 l0_0 x5_2).f0) ((rd_T30 l0_0 x5_2).f1) ((rd_T30 l0_0 x5_2).f2) ((rd_T30 l0_0 x5_2).f3) ((rd_T30 l0_0 x5_2).f4)) else (if x9_3 = (l1.length : Int) then (portolanlaw11_LiveWays.j4 k4 l1 x5_2 x7_4 l0_0 ((rd_T30 l0_0 x5_2).f0) ((rd_T30 l0_0 x5_2).f1) ((rd_T30 l0_0 x5_2).f2) ((rd_T30 l0_0 x5_2).f3) ((rd_T30 l0_0 x5_2).f4)) else (if 0 ≤ x9_3 then (if x9_3 < (l1.length : Int) then (if 0 ≤ (Int.tmod (wrap64 (rd l1 x9_3)) (t457.length : Int)) then (if (Int.tmod (wrap64 (rd l1 x9_3)) (t457.length : Int)) < (t457.length : Int) then (portolanlaw11_LiveWays.l1 k4 l1 x5_2 x7_4 (rd t457 (Int.tmod (wrap64 (rd l1 x9_3)) (t457.length : Int))) (wrap64 (x9_3 + 1)) l0_0 ((rd_T30 l0_0 x5_2).f0) ((rd_T30 l0_0 x5_2).f1) ((rd_T30 l0_0 x5_2).f2) ((rd_T30 l0_0 x5_2).f3) ((rd_T30 l0_0 x5_2).f4)) else (none)) else (none)) else (none)) else (none)))) = some true := H
                have A30 := Aside0.mk A300
                clear A300
                by_cases c31 : (t457.length : Int) = 0
                ·
                 rw [if_pos c31] at H
                 have c31b0 : ((t457.length : Int) == 0) = true := beq_iff_eq.mpr c31
                 have c31b1 : ((t457.length : Int) != 0) = false := bne_eq_false_iff_eq.mpr c31
                 clear c31
                 have H' := Aside0.mk H
                 clear H
                 have hnb32 := NB452_448.out
                 have hnc32 := NB448_452.out
                 obtain ⟨hcz33_0, hcz33_1, hcz33_2, hcz33_3, hcz33_4⟩ := bk5 BK452.out
                 have hfz33_0 := bf BK452.out
                 have p453 : 0 ≤ (x8_3 : Int) := of_decide_eq_true (by assumption)
                 have q453 : x8_3 < (((rd_T30 l0_0 x5_2).f4).length : Int) := of_decide_eq_true (by assumption)
                 obtain ⟨ad453, A453_0, c453_0, e453, hx453_0, hl453_0, hi453_0⟩ := at_T40 HR451_4.out x8_3 p453 q453
                 cases e453
                 replace hx453_0 := (HB.out.cell (World.block_lt_of_cell? w _ hx453_0)).trans hx453_0
                 have HR453_0 := Aside0.mk hi453_0
                 have HC453_0 := Aside0.mk hl453_0
                 clear hi453_0 hl453_0
                 replace p453 := eq_true p453
                 replace q453 := eq_true q453
                 go_wp2_with (first | ((with_reducible refine gate_callee (f := 9) rfl ?_); refine goesL_ (some 63) rfl rfl Tryd.func9 (by kernel_rfl) rfl #[.agg #[.slice A451_0 ((rd_T30 l0_0 x5_2).f0).length c451_0, .slice A451_1 ((rd_T30 l0_0 x5_2).f1).length c451_1, .int .i64 ((rd_T30 l0_0 x5_2).f2), .int .i64 ((rd_T30 l0_0 x5_2).f3), .slice (some ad453) ((rd_T30 l0_0 x5_2).f4).length c451_4], .int .i64 x8_3] rfl (by (try simp only [List.map_toArray, List.map_cons, List.map_nil]); first | done | rfl) ?_; (with_reducible refine (portolanref05_Next.calls _ _ ((rd_T30 l0_0 x5_2).f0) _ _ ((rd_T30 l0_0 x5_2).f1) ((rd_T30 l0_0 x5_2).f2) ((rd_T30 l0_0 x5_2).f3) _ _ ((rd_T30 l0_0 x5_2).f4) x8_3 t457 _ ?side1 ?side2 ?side3 ?side4 ?side5 ?side6 A30.out).mono ?_); (case side1 => exact Kd.Cx (Kd.C_below HR451_0.out HB.out)); (case side2 => exact HC451_0.out); (case side3 => exact Kd.Cx (Kd.C_below HR451_1.out HB.out)); (case side4 => exact HC451_1.out); (case side5 => exact Kd.Cx (Kd.C_below HR451_4.out HB.out)); (case side6 => exact HC451_4.out); rintro e w34 ⟨v458, rfl, ho0, hb⟩; refine ⟨_, rfl, ?_⟩; replace HO_7 := Aside0.mk (Kd.R_below (Kd.Rx HO_7.out) hb); have HO459 := Aside0.mk (Kd.R_lower ho0 (below_size (bl HB))); replace BK448 := Aside0.mk (blk_below (bx BK448.out) hb); replace BK452 := Aside0.mk (blk_below (bx BK452.out) hb); replace HB := Aside0.mk (below_step (bl HB) hb); (try clear hb); (try clear hb2); (try clear hk); (try clear hi); (try clear ho0); obtain ⟨Ao35, co35, eo35⟩ := Kd.R_slice HO459.out; subst eo35))
                 go_meet
                 case rel => exact ⟨_, (x7_4), H', ⟨by have := HJ4.out; have := HK2.out; have := HK3.out; have := HK4.out; first | omega | exact Nat.le_refl _⟩, ⟨Kd.Rx HO_7.out⟩, ⟨bx BK448.out⟩, ⟨bx BK452.out⟩, ⟨bl HB⟩⟩
                rw [if_neg c31] at H
                have c31b0 : ((t457.length : Int) == 0) = false := beq_eq_false_iff_ne.mpr c31
                have c31b1 : ((t457.length : Int) != 0) = true := bne_iff_ne.mpr c31
                have c31b2 : ¬ (t457 = []) := fun h_ => c31 (by rw [h_]; rfl)
                by_cases c36 : x9_3 = (l1.length : Int)
                ·
                 rw [if_pos c36] at H
                 have c36b0 : (x9_3 == (l1.length : Int)) = true := beq_iff_eq.mpr c36
                 have c36b1 : (x9_3 != (l1.length : Int)) = false := bne_eq_false_iff_eq.mpr c36
                 clear c36
                 have H' := Aside0.mk H
                 clear H
                 have hnb37 := NB452_448.out
                 have hnc37 := NB448_452.out
                 obtain ⟨hcz38_0, hcz38_1, hcz38_2, hcz38_3, hcz38_4⟩ := bk5 BK452.out
                 have hfz38_0 := bf BK452.out
                 have p453 : 0 ≤ (x8_3 : Int) := of_decide_eq_true (by assumption)
                 have q453 : x8_3 < (((rd_T30 l0_0 x5_2).f4).length : Int) := of_decide_eq_true (by assumption)
                 obtain ⟨ad453, A453_0, c453_0, e453, hx453_0, hl453_0, hi453_0⟩ := at_T40 HR451_4.out x8_3 p453 q453
                 cases e453
                 replace hx453_0 := (HB.out.cell (World.block_lt_of_cell? w _ hx453_0)).trans hx453_0
                 have HR453_0 := Aside0.mk hi453_0
                 have HC453_0 := Aside0.mk hl453_0
                 clear hi453_0 hl453_0
                 replace p453 := eq_true p453
                 replace q453 := eq_true q453
                 go_wp2_with (first | ((with_reducible refine gate_callee (f := 9) rfl ?_); refine goesL_ (some 63) rfl rfl Tryd.func9 (by kernel_rfl) rfl #[.agg #[.slice A451_0 ((rd_T30 l0_0 x5_2).f0).length c451_0, .slice A451_1 ((rd_T30 l0_0 x5_2).f1).length c451_1, .int .i64 ((rd_T30 l0_0 x5_2).f2), .int .i64 ((rd_T30 l0_0 x5_2).f3), .slice (some ad453) ((rd_T30 l0_0 x5_2).f4).length c451_4], .int .i64 x8_3] rfl (by (try simp only [List.map_toArray, List.map_cons, List.map_nil]); first | done | rfl) ?_; (with_reducible refine (portolanref05_Next.calls _ _ ((rd_T30 l0_0 x5_2).f0) _ _ ((rd_T30 l0_0 x5_2).f1) ((rd_T30 l0_0 x5_2).f2) ((rd_T30 l0_0 x5_2).f3) _ _ ((rd_T30 l0_0 x5_2).f4) x8_3 t457 _ ?side1 ?side2 ?side3 ?side4 ?side5 ?side6 A30.out).mono ?_); (case side1 => exact Kd.Cx (Kd.C_below HR451_0.out HB.out)); (case side2 => exact HC451_0.out); (case side3 => exact Kd.Cx (Kd.C_below HR451_1.out HB.out)); (case side4 => exact HC451_1.out); (case side5 => exact Kd.Cx (Kd.C_below HR451_4.out HB.out)); (case side6 => exact HC451_4.out); rintro e w39 ⟨v458, rfl, ho0, hb⟩; refine ⟨_, rfl, ?_⟩; replace HO_7 := Aside0.mk (Kd.R_below (Kd.Rx HO_7.out) hb); have HO459 := Aside0.mk (Kd.R_lower ho0 (below_size (bl HB))); replace BK448 := Aside0.mk (blk_below (bx BK448.out) hb); replace BK452 := Aside0.mk (blk_below (bx BK452.out) hb); replace HB := Aside0.mk (below_step (bl HB) hb); (try clear hb); (try clear hb2); (try clear hk); (try clear hi); (try clear ho0); obtain ⟨Ao40, co40, eo40⟩ := Kd.R_slice HO459.out; subst eo40))
                 go_meet
                 case rel => exact ⟨_, (x7_4), H', ⟨by have := HJ4.out; have := HK2.out; have := HK3.out; have := HK4.out; first | omega | exact Nat.le_refl _⟩, ⟨Kd.Rx HO_7.out⟩, ⟨bx BK448.out⟩, ⟨bx BK452.out⟩, ⟨bl HB⟩⟩
                rw [if_neg c36] at H
                have c36b0 : (x9_3 == (l1.length : Int)) = false := beq_eq_false_iff_ne.mpr c36
                have c36b1 : (x9_3 != (l1.length : Int)) = true := bne_iff_ne.mpr c36
                by_cases c41 : 0 ≤ x9_3
                ·
                 rw [if_pos c41] at H
                 have c41b0 : decide (0 ≤ x9_3) = true := decide_eq_true c41
                 clear c41
                 by_cases c42 : x9_3 < (l1.length : Int)
                 ·
                  rw [if_pos c42] at H
                  have c42b0 : decide (x9_3 < (l1.length : Int)) = true := decide_eq_true c42
                  clear c42
                  obtain ⟨ji43, hji43⟩ : ∃ j_ : Int, (Int.tmod (wrap64 (rd l1 x9_3)) (t457.length : Int)) = j_ := ⟨_, rfl⟩
                  replace H : (if 0 ≤ (ji43) then (if (ji43) < (t457.length : Int) then (portolanlaw11_LiveWays.l1 k4 l1 x5_2 x7_4 (rd t457 (ji43)) (wrap64 (x9_3 + 1)) l0_0 ((rd_T30 l0_0 x5_2).f0) ((rd_T30 l0_0 x5_2).f1) ((rd_T30 l0_0 x5_2).f2) ((rd_T30 l0_0 x5_2).f3) ((rd_T30 l0_0 x5_2).f4)) else (none)) else (none)) = some true := by first | (rw [hji43] at H; exact H) | (simp only [hji43] at H ⊢; exact H)
                  (try rw [hji43] at A30)
                  by_cases c44 : 0 ≤ (ji43)
                  ·
                   rw [if_pos c44] at H
                   have c44b0 : decide (0 ≤ (ji43)) = true := decide_eq_true c44
                   clear c44
                   by_cases c45 : (ji43) < (t457.length : Int)
                   ·
                    rw [if_pos c45] at H
                    have c45b0 : decide ((ji43) < (t457.length : Int)) = true := decide_eq_true c45
                    clear c45
                    have H' := Aside0.mk H
                    clear H
                    have hnb46 := NB452_448.out
                    have hnc46 := NB448_452.out
                    obtain ⟨hcz47_0, hcz47_1, hcz47_2, hcz47_3, hcz47_4⟩ := bk5 BK452.out
                    have hfz47_0 := bf BK452.out
                    have p453 : 0 ≤ (x8_3 : Int) := of_decide_eq_true (by assumption)
                    have q453 : x8_3 < (((rd_T30 l0_0 x5_2).f4).length : Int) := of_decide_eq_true (by assumption)
                    obtain ⟨ad453, A453_0, c453_0, e453, hx453_0, hl453_0, hi453_0⟩ := at_T40 HR451_4.out x8_3 p453 q453
                    cases e453
                    replace hx453_0 := (HB.out.cell (World.block_lt_of_cell? w _ hx453_0)).trans hx453_0
                    have HR453_0 := Aside0.mk hi453_0
                    have HC453_0 := Aside0.mk hl453_0
                    clear hi453_0 hl453_0
                    replace p453 := eq_true p453
                    replace q453 := eq_true q453
                    go_wp2_with (first | ((with_reducible refine gate_callee (f := 9) rfl ?_); refine goesL_ (some 63) rfl rfl Tryd.func9 (by kernel_rfl) rfl #[.agg #[.slice A451_0 ((rd_T30 l0_0 x5_2).f0).length c451_0, .slice A451_1 ((rd_T30 l0_0 x5_2).f1).length c451_1, .int .i64 ((rd_T30 l0_0 x5_2).f2), .int .i64 ((rd_T30 l0_0 x5_2).f3), .slice (some ad453) ((rd_T30 l0_0 x5_2).f4).length c451_4], .int .i64 x8_3] rfl (by (try simp only [List.map_toArray, List.map_cons, List.map_nil]); first | done | rfl) ?_; (with_reducible refine (portolanref05_Next.calls _ _ ((rd_T30 l0_0 x5_2).f0) _ _ ((rd_T30 l0_0 x5_2).f1) ((rd_T30 l0_0 x5_2).f2) ((rd_T30 l0_0 x5_2).f3) _ _ ((rd_T30 l0_0 x5_2).f4) x8_3 t457 _ ?side1 ?side2 ?side3 ?side4 ?side5 ?side6 A30.out).mono ?_); (case side1 => exact Kd.Cx (Kd.C_below HR451_0.out HB.out)); (case side2 => exact HC451_0.out); (case side3 => exact Kd.Cx (Kd.C_below HR451_1.out HB.out)); (case side4 => exact HC451_1.out); (case side5 => exact Kd.Cx (Kd.C_below HR451_4.out HB.out)); (case side6 => exact HC451_4.out); rintro e w48 ⟨v458, rfl, ho0, hb⟩; refine ⟨_, rfl, ?_⟩; replace HO_7 := Aside0.mk (Kd.R_below (Kd.Rx HO_7.out) hb); have HO459 := Aside0.mk (Kd.R_lower ho0 (below_size (bl HB))); replace BK448 := Aside0.mk (blk_below (bx BK448.out) hb); replace BK452 := Aside0.mk (blk_below (bx BK452.out) hb); replace HB := Aside0.mk (below_step (bl HB) hb); (try clear hb); (try clear hb2); (try clear hk); (try clear hi); (try clear ho0); obtain ⟨Ao49, co49, eo49⟩ := Kd.R_slice HO459.out; subst eo49; have p460 : 0 ≤ (x9_3 : Int) := of_decide_eq_true (by assumption); have q460 : x9_3 < (l1.length : Int) := of_decide_eq_true (by assumption); obtain ⟨ad460, e460, hx460_0⟩ := Kd.at_int HR1.out x9_3 p460 q460; cases e460; replace hx460_0 := (HB.out.cell (World.block_lt_of_cell? w _ hx460_0)).trans hx460_0; replace p460 := eq_true p460; replace q460 := eq_true q460; have p461 : 0 ≤ ((ji43) : Int) := of_decide_eq_true (by assumption); have q461 : (ji43) < (t457.length : Int) := of_decide_eq_true (by assumption); obtain ⟨ad461, e461, hx461_0⟩ := Kd.at_int (Kd.R_reads' HO459.out).2.2 (ji43) p461 q461; cases e461; replace p461 := eq_true p461; replace q461 := eq_true q461))
                    go_roundg k4
                    case measure => have := HJ4.out; have := HK2.out; have := HK3.out; have := HK4.out; omega
                    case rel => exact ⟨(x7_4), (rd t457 (ji43)), (wrap64 (x9_3 + 1)), (by first | rfl | (simp; done) | (simp only [← hji43] <;> (first | rfl | simp)) | (simp [*]; done)), (by first | rfl | (simp; done) | (simp [*]; done)), H', ⟨by have := HJ4.out; have := HK2.out; have := HK3.out; have := HK4.out; omega⟩, ⟨Kd.Rx HO_7.out⟩, ⟨bx BK448.out⟩, ⟨bx BK452.out⟩, ⟨bl HB⟩⟩
                   rw [if_neg c45] at H
                   exact absurd H (by simp)
                  rw [if_neg c44] at H
                  exact absurd H (by simp)
                 rw [if_neg c42] at H
                 exact absurd H (by simp)
                rw [if_neg c41] at H
                exact absurd H (by simp)
               rw [if_neg c24] at H
               exact absurd H (by simp)
              rw [if_neg c23] at H
              exact absurd H (by simp)
           rw [if_neg c22] at H
           have c22b0 : decide (x9_3 ≤ (l1.length : Int)) = false := decide_eq_false c22
           clear c22
           (first | rw [c22b0] | (simp only [i64_w, i32_w]; rw [c22b0]) | skip)
           have H' := Aside0.mk H
           clear H
           go_wp2
           go_meet
           case rel => exact ⟨_, (x7_3), H', ⟨by have := HJ4.out; have := HK2.out; have := HK3.out; first | omega | exact Nat.le_refl _⟩, ⟨Kd.Rx HO_7.out⟩, ⟨bx BK448.out⟩, ⟨bx BK452.out⟩, ⟨bl HB⟩⟩
        case rest =>
         clear HC17
         try clear c1
         try clear c2
         try clear p2
         try clear c3
         try clear c4
         try clear p4
         try clear q4
         try clear hx4
         try clear p6
         try clear c7
         try clear c8
         try clear c9
         try clear c14
         try clear c15
         try clear c15b0
         try clear c16
         try clear c16b0
         try clear c20
         try clear c22
         try clear c22b0
         try clear c23
         try clear c23b0
         try clear c24
         try clear c24b0
         try clear c25
         try clear c25b0
         try clear c26
         try clear c27
         try clear c31
         try clear c31b0
         try clear c31b1
         try clear c31b2
         try clear c32
         try clear c36
         try clear c36b0
         try clear c36b1
         try clear c37
         try clear c41
         try clear c41b0
         try clear c42
         try clear c42b0
         try clear c44
         try clear c44b0
         try clear c45
         try clear c45b0
         try clear p45
         try clear q45
         try clear hx45
         try clear c46
         try clear p46
         try clear q46
         try clear hx46
         try clear hcz10_0
         try clear hcz12_0
         try clear hcz18_0
         try clear hcz21_0 hcz21_1 hcz21_2 hcz21_3 hcz21_4
         try clear hcz28_0 hcz28_1 hcz28_2 hcz28_3 hcz28_4
         try clear hcz33_0 hcz33_1 hcz33_2 hcz33_3 hcz33_4
         try clear hcz38_0 hcz38_1 hcz38_2 hcz38_3 hcz38_4
         try clear hcz47_0 hcz47_1 hcz47_2 hcz47_3 hcz47_4
         try clear hfz10_0
         try clear hfz12_0
         try clear hfz18_0
         try clear hfz21_0
         try clear hfz28_0
         try clear hfz33_0
         try clear hfz38_0
         try clear hfz47_0
         try clear hx451_0
         try clear hx451_1
         try clear hx451_2
         try clear hx451_3
         try clear hx451_4
         try clear hx453_0
         try clear hx460_0
         try clear hx461_0
         try clear p2
         try clear p4
         try clear p451
         try clear p453
         try clear p460
         try clear p461
         try clear q4
         try clear q451
         try clear q453
         try clear q460
         try clear q461
         obtain ⟨kq, x7_16, HA, HJ16, HO_7, BK448, BK452, HB⟩ := hcut
         cases kq with
         | zero => exact absurd HA.out (by simp [portolanlaw11_LiveWays.j4])
         | succ kj16 =>
          have H := HA.out
          clear HA
          simp only [portolanlaw11_LiveWays.j4] at H
          have H' := Aside0.mk H
          clear H
          obtain ⟨Ao50, co50, eo50⟩ := Kd.R_slice HO_7.out
          subst eo50
          go_wp2
          go_loopg [12, 13] kj16 (fun kq v12 v13 w' => ∃ (x12_4 : List Int) (x13_4 : Int), v13 = .int .i64 x13_4 ∧ Aside0 (portolanlaw11_LiveWays.l3 kq l1 x5_2 x7_16 x12_4 x13_4 l0_0 ((rd_T30 l0_0 x5_2).f0) ((rd_T30 l0_0 x5_2).f1) ((rd_T30 l0_0 x5_2).f2) ((rd_T30 l0_0 x5_2).f3) ((rd_T30 l0_0 x5_2).f4) = some true) ∧ Aside0 (kq ≤ kj16) ∧ Aside0 (Kd.R k42 42 w' w.heap.size (fun _ => True) (.slice Ao50 x7_16.length co50) x7_16) ∧ Aside0 (Kd.R (Kd.int .u64) 67 w' w.heap.size (fun _ => True) v12 x12_4) ∧ Aside0 (w'.heap[gb448]? = some (.cells #[(.slice (some ad451) l0_0.length c0_0)] 24 (0, 0))) ∧ Aside0 (w'.heap[gb452]? = some (.cells #[(.slice A451_0 ((rd_T30 l0_0 x5_2).f0).length c451_0), (.slice A451_1 ((rd_T30 l0_0 x5_2).f1).length c451_1), .int .i64 ((rd_T30 l0_0 x5_2).f2), .int .i64 ((rd_T30 l0_0 x5_2).f3), (.slice A451_4 ((rd_T30 l0_0 x5_2).f4).length c451_4)] 30 (0, 0))) ∧ Aside0 (Below w.heap.size w w'))
          case atStart => exact ⟨(([] : List Int)), (wrap64 ((x7_16.length : Int) - 1)), (by first | rfl | (simp; done) | (simp [*]; done)), H', ⟨Nat.le_refl _⟩, ⟨Kd.Rx HO_7.out⟩, ⟨by first | exact Kd.R_nil _ _ _ _ _ | exact Kd.N_nil _ _ _ _ _ | exact Kd.V_nil _ _ _ _ _ | exact Kd.Q_nil _ _ _ _ _ | exact Kd.S_nil _ _ _ _ _⟩, ⟨bx BK448.out⟩, ⟨bx BK452.out⟩, ⟨bl HB⟩⟩
          case round =>
           clear H'
           try clear c1
           try clear c2
           try clear p2
           try clear c3
           try clear c4
           try clear p4
           try clear q4
           try clear hx4
           try clear p6
           try clear c7
           try clear c8
           try clear c9
           try clear c14
           try clear c15
           try clear c15b0
           try clear c16
           try clear c16b0
           try clear c20
           try clear c22
           try clear c22b0
           try clear c23
           try clear c23b0
           try clear c24
           try clear c24b0
           try clear c25
           try clear c25b0
           try clear c26
           try clear c27
           try clear c31
           try clear c31b0
           try clear c31b1
           try clear c31b2
           try clear c32
           try clear c36
           try clear c36b0
           try clear c36b1
           try clear c37
           try clear c41
           try clear c41b0
           try clear c42
           try clear c42b0
           try clear c44
           try clear c44b0
           try clear c45
           try clear c45b0
           try clear p45
           try clear q45
           try clear hx45
           try clear c46
           try clear p46
           try clear q46
           try clear hx46
           try clear hcz10_0
           try clear hcz12_0
           try clear hcz18_0
           try clear hcz21_0 hcz21_1 hcz21_2 hcz21_3 hcz21_4
           try clear hcz28_0 hcz28_1 hcz28_2 hcz28_3 hcz28_4
           try clear hcz33_0 hcz33_1 hcz33_2 hcz33_3 hcz33_4
           try clear hcz38_0 hcz38_1 hcz38_2 hcz38_3 hcz38_4
           try clear hcz47_0 hcz47_1 hcz47_2 hcz47_3 hcz47_4
           try clear hfz10_0
           try clear hfz12_0
           try clear hfz18_0
           try clear hfz21_0
           try clear hfz28_0
           try clear hfz33_0
           try clear hfz38_0
           try clear hfz47_0
           try clear hx451_0
           try clear hx451_1
           try clear hx451_2
           try clear hx451_3
           try clear hx451_4
           try clear hx453_0
           try clear hx460_0
           try clear hx461_0
           try clear p2
           try clear p4
           try clear p45
           try clear p451
           try clear p453
           try clear p46
           try clear p460
           try clear p461
           try clear p6
           try clear q4
           try clear q45
           try clear q451
           try clear q453
           try clear q46
           try clear q460
           try clear q461
           obtain ⟨x12_4, x13_4, rfl, HA, HK4, HO_7, HO_12, BK448, BK452, HB⟩ := hrel
           cases gk with
           | zero => exact absurd HA.out (by simp [portolanlaw11_LiveWays.l3])
           | succ k4 =>
            have H := HA.out
            clear HA
            simp only [portolanlaw11_LiveWays.l3] at H
            by_cases c51 : x13_4 ≥ 0
            ·
             rw [if_pos c51] at H
             have c51b0 : decide (0 ≤ x13_4) = true := decide_eq_true c51
             clear c51
             by_cases c52 : 0 ≤ x13_4
             ·
              rw [if_pos c52] at H
              have c52b0 : decide (0 ≤ x13_4) = true := decide_eq_true c52
              clear c52
              by_cases c53 : x13_4 < (x7_16.length : Int)
              ·
               rw [if_pos c53] at H
               have c53b0 : decide (x13_4 < (x7_16.length : Int)) = true := decide_eq_true c53
               clear c53
               by_cases c54 : 0 ≤ ((rd_T42 x7_16 x13_4).f0)
               ·
                rw [if_pos c54] at H
                have c54b0 : decide (0 ≤ ((rd_T42 x7_16 x13_4).f0)) = true := decide_eq_true c54
                clear c54
                by_cases c55 : ((rd_T42 x7_16 x13_4).f0) < (((rd_T30 l0_0 x5_2).f4).length : Int)
                ·
                 rw [if_pos c55] at H
                 have c55b0 : decide (((rd_T42 x7_16 x13_4).f0) < (((rd_T30 l0_0 x5_2).f4).length : Int)) = true := decide_eq_true c55
                 clear c55
                 by_cases c56 : 0 ≤ ((rd_T42 x7_16 x13_4).f1)
                 ·
                  rw [if_pos c56] at H
                  have c56b0 : decide (0 ≤ ((rd_T42 x7_16 x13_4).f1)) = true := decide_eq_true c56
                  clear c56
                  by_cases c57 : ((rd_T42 x7_16 x13_4).f1) < (((rd_T40 ((rd_T30 l0_0 x5_2).f4) ((rd_T42 x7_16 x13_4).f0)).f0).length : Int)
                  ·
                   rw [if_pos c57] at H
                   have c57b0 : decide (((rd_T42 x7_16 x13_4).f1) < (((rd_T40 ((rd_T30 l0_0 x5_2).f4) ((rd_T42 x7_16 x13_4).f0)).f0).length : Int)) = true := decide_eq_true c57
                   clear c57
                   replace H := Option.bind_eq_some_iff.mp H
                   obtain ⟨t469, A580, H⟩ := H
                   replace H : ((bitset_Holds.f t469 x12_4).bind fun t472 => (if t472 = true then ((portolanref04_Sets.f ((rd_T44 ((rd_T40 ((rd_T30 l0_0 x5_2).f4) ((rd_T42 x7_16 x13_4).f0)).f0) ((rd_T42 x7_16 x13_4).f1)).f0) ((rd_T44 ((rd_T40 ((rd_T30 l0_0 x5_2).f4) ((rd_T42 x7_16 x13_4).f0)).f0) ((rd_T42 x7_16 x13_4).f1)).f1) ((rd_T44 ((rd_T40 ((rd_T30 l0_0 x5_2).f4) ((rd_T42 x7_16 x13_4).f0)).f0) ((rd_T42 x7_16 x13_4).f1)).f2) ((rd_T44 ((rd_T40 ((rd_T30 l0_0 x5_2).f4) ((rd_T42 x7_16 x13_4).f0)).f0) ((rd_T42 x7_16 x13_4).f1)).f3) ((rd_T44 ((rd_T40 ((rd_T30 l0_0 x5_2).f4) ((rd_T42 x7_16 x13_4).f0)).f0) ((rd_T42 x7_16 x13_4).f1)).f4) ((rd_T44 ((rd_T40 ((rd_T30 l0_0 x5_2).f4) ((rd_T42 x7_16 x13_4).f0)).f0) ((rd_T42 x7_16 x13_4).f1)).f5) ((rd_T44 ((rd_T40 ((rd_T30 l0_0 x5_2).f4) ((rd_T42 x7_16 x13_4).f0)).f0) ((rd_T42 x7_16 x13_4).f1)).f6)).bind fun bt473 => (if bt473.2 = true then ((portolanref02_Without.f k4 x12_4 (([bt473.1] : List Int))).bind fun t478 => (portolanlaw11_LiveWays.j6 k4 l1 x5_2 x7_16 t478 x13_4 l0_0 ((rd_T30 l0_0 x5_2).f0) ((rd_T30 l0_0 x5_2).f1) ((rd_T30 l0_0 x5_2).f2) ((rd_T30 l0_0 x5_2).f3) ((rd_T30 l0_0 x5_2).f4) ((rd_T44 ((rd_T40 ((rd_T30 l0_0 x5_2).f4) ((rd_T42 x7_16 x13_4).f0)).f0) ((rd_T42 x7_16 x13_4).f1)).f0) ((rd_T44 ((rd_T40 ((rd_T30 l0_0 x5_2).f4) ((rd_T42 x7_16 x13_4).f0)).f0) ((rd_T42 x7_16 x13_4).f1)).f1) ((rd_T44 ((rd_T40 ((rd_T30 l0_0 x5_2).f4) ((rd_T42 x7_16 x13_4).f0)).f0) ((rd_T42 x7_16 x13_4).f1)).f2) ((rd_T44 ((rd_T40 ((rd_T30 l0_0 x5_2).f4) ((rd_T42 x7_16 x13_4).f0)).f0) ((rd_T42 x7_16 x13_4).f1)).f3) ((rd_T44 ((rd_T40 ((rd_T30 l0_0 x5_2).f4) ((rd_T42 x7_16 x13_4).f0)).f0) ((rd_T42 x7_16 x13_4).f1)).f4) ((rd_T44 ((rd_T40 ((rd_T30 l0_0 x5_2).f4) ((rd_T42 x7_16 x13_4).f0)).f0) ((rd_T42 x7_16 x13_4).f1)).f5) ((rd_T44 ((rd_T40 ((rd_T30 l0_0 x5_2).f4) ((rd_T42 x7_16 x13_4).f0)).f0) ((rd_T42 x7_16 x13_4).f1)).f6))) else (portolanlaw11_LiveWays.j6 k4 l1 x5_2 x7_16 x12_4 x13_4 l0_0 ((rd_T30 l0_0 x5_2).f0) ((rd_T30 l0_0 x5_2).f1) ((rd_T30 l0_0 x5_2).f2) ((rd_T30 l0_0 x5_2).f3) ((rd_T30 l0_0 x5_2).f4) ((rd_T44 ((rd_T40 ((rd_T30 l0_0 x5_2).f4) ((rd_T42 x7_16 x13_4).f0)).f0) ((rd_T42 x7_16 x13_4).f1)).f0) ((rd_T44 ((rd_T40 ((rd_T30 l0_0 x5_2).f4) ((rd_T42 x7_16 x13_4).f0)).f0) ((rd_T42 x7_16 x13_4).f1)).f1) ((rd_T44 ((rd_T40 ((rd_T30 l0_0 x5_2).f4) ((rd_T42 x7_16 x13_4).f0)).f0) ((rd_T42 x7_16 x13_4).f1)).f2) ((rd_T44 ((rd_T40 ((rd_T30 l0_0 x5_2).f4) ((rd_T42 x7_16 x13_4).f0)).f0) ((rd_T42 x7_16 x13_4).f1)).f3) ((rd_T44 ((rd_T40 ((rd_T30 l0_0 x5_2).f4) ((rd_T42 x7_16 x13_4).f0)).f0) ((rd_T42 x7_16 x13_4).f1)).f4) ((rd_T44 ((rd_T40 ((rd_T30 l0_0 x5_2).f4) ((rd_T42 x7_16 x13_4).f0)).f0) ((rd_T42 x7_16 x13_4).f1)).f5) ((rd_T44 ((rd_T40 ((rd_T30 l0_0 x5_2).f4) ((rd_T42 x7_16 x13_4).f0)).f0) ((rd_T42 x7_16 x13_4).f1)).f6)))) else (some false))) = some true := H
                   have A58 := Aside0.mk A580
                   clear A580
                   replace H := Option.bind_eq_some_iff.mp H
                   obtain ⟨t472, A590, H⟩ := H
                   replace H : (if t472 = true then ((portolanref04_Sets.f ((rd_T44 ((rd_T40 ((rd_T30 l0_0 x5_2).f4) ((rd_T42 x7_16 x13_4).f0)).f0) ((rd_T42 x7_16 x13_4).f1)).f0) ((rd_T44 ((rd_T40 ((rd_T30 l0_0 x5_2).f4) ((rd_T42 x7_16 x13_4).f0)).f0) ((rd_T42 x7_16 x13_4).f1)).f1) ((rd_T44 ((rd_T40 ((rd_T30 l0_0 x5_2).f4) ((rd_T42 x7_16 x13_4).f0)).f0) ((rd_T42 x7_16 x13_4).f1)).f2) ((rd_T44 ((rd_T40 ((rd_T30 l0_0 x5_2).f4) ((rd_T42 x7_16 x13_4).f0)).f0) ((rd_T42 x7_16 x13_4).f1)).f3) ((rd_T44 ((rd_T40 ((rd_T30 l0_0 x5_2).f4) ((rd_T42 x7_16 x13_4).f0)).f0) ((rd_T42 x7_16 x13_4).f1)).f4) ((rd_T44 ((rd_T40 ((rd_T30 l0_0 x5_2).f4) ((rd_T42 x7_16 x13_4).f0)).f0) ((rd_T42 x7_16 x13_4).f1)).f5) ((rd_T44 ((rd_T40 ((rd_T30 l0_0 x5_2).f4) ((rd_T42 x7_16 x13_4).f0)).f0) ((rd_T42 x7_16 x13_4).f1)).f6)).bind fun bt473 => (if bt473.2 = true then ((portolanref02_Without.f k4 x12_4 (([bt473.1] : List Int))).bind fun t478 => (portolanlaw11_LiveWays.j6 k4 l1 x5_2 x7_16 t478 x13_4 l0_0 ((rd_T30 l0_0 x5_2).f0) ((rd_T30 l0_0 x5_2).f1) ((rd_T30 l0_0 x5_2).f2) ((rd_T30 l0_0 x5_2).f3) ((rd_T30 l0_0 x5_2).f4) ((rd_T44 ((rd_T40 ((rd_T30 l0_0 x5_2).f4) ((rd_T42 x7_16 x13_4).f0)).f0) ((rd_T42 x7_16 x13_4).f1)).f0) ((rd_T44 ((rd_T40 ((rd_T30 l0_0 x5_2).f4) ((rd_T42 x7_16 x13_4).f0)).f0) ((rd_T42 x7_16 x13_4).f1)).f1) ((rd_T44 ((rd_T40 ((rd_T30 l0_0 x5_2).f4) ((rd_T42 x7_16 x13_4).f0)).f0) ((rd_T42 x7_16 x13_4).f1)).f2) ((rd_T44 ((rd_T40 ((rd_T30 l0_0 x5_2).f4) ((rd_T42 x7_16 x13_4).f0)).f0) ((rd_T42 x7_16 x13_4).f1)).f3) ((rd_T44 ((rd_T40 ((rd_T30 l0_0 x5_2).f4) ((rd_T42 x7_16 x13_4).f0)).f0) ((rd_T42 x7_16 x13_4).f1)).f4) ((rd_T44 ((rd_T40 ((rd_T30 l0_0 x5_2).f4) ((rd_T42 x7_16 x13_4).f0)).f0) ((rd_T42 x7_16 x13_4).f1)).f5) ((rd_T44 ((rd_T40 ((rd_T30 l0_0 x5_2).f4) ((rd_T42 x7_16 x13_4).f0)).f0) ((rd_T42 x7_16 x13_4).f1)).f6))) else (portolanlaw11_LiveWays.j6 k4 l1 x5_2 x7_16 x12_4 x13_4 l0_0 ((rd_T30 l0_0 x5_2).f0) ((rd_T30 l0_0 x5_2).f1) ((rd_T30 l0_0 x5_2).f2) ((rd_T30 l0_0 x5_2).f3) ((rd_T30 l0_0 x5_2).f4) ((rd_T44 ((rd_T40 ((rd_T30 l0_0 x5_2).f4) ((rd_T42 x7_16 x13_4).f0)).f0) ((rd_T42 x7_16 x13_4).f1)).f0) ((rd_T44 ((rd_T40 ((rd_T30 l0_0 x5_2).f4) ((rd_T42 x7_16 x13_4).f0)).f0) ((rd_T42 x7_16 x13_4).f1)).f1) ((rd_T44 ((rd_T40 ((rd_T30 l0_0 x5_2).f4) ((rd_T42 x7_16 x13_4).f0)).f0) ((rd_T42 x7_16 x13_4).f1)).f2) ((rd_T44 ((rd_T40 ((rd_T30 l0_0 x5_2).f4) ((rd_T42 x7_16 x13_4).f0)).f0) ((rd_T42 x7_16 x13_4).f1)).f3) ((rd_T44 ((rd_T40 ((rd_T30 l0_0 x5_2).f4) ((rd_T42 x7_16 x13_4).f0)).f0) ((rd_T42 x7_16 x13_4).f1)).f4) ((rd_T44 ((rd_T40 ((rd_T30 l0_0 x5_2).f4) ((rd_T42 x7_16 x13_4).f0)).f0) ((rd_T42 x7_16 x13_4).f1)).f5) ((rd_T44 ((rd_T40 ((rd_T30 l0_0 x5_2).f4) ((rd_T42 x7_16 x13_4).f0)).f0) ((rd_T42 x7_16 x13_4).f1)).f6)))) else (some false)) = some true := H
                   have A59 := Aside0.mk A590
                   clear A590
                   by_cases c60 : t472 = true
                   ·
                    subst c60
                    have H1 : ((portolanref04_Sets.f ((rd_T44 ((rd_T40 ((rd_T30 l0_0 x5_2).f4) ((rd_T42 x7_16 x13_4).f0)).f0) ((rd_T42 x7_16 x13_4).f1)).f0) ((rd_T44 ((rd_T40 ((rd_T30 l0_0 x5_2).f4) ((rd_T42 x7_16 x13_4).f0)).f0) ((rd_T42 x7_16 x13_4).f1)).f1) ((rd_T44 ((rd_T40 ((rd_T30 l0_0 x5_2).f4) ((rd_T42 x7_16 x13_4).f0)).f0) ((rd_T42 x7_16 x13_4).f1)).f2) ((rd_T44 ((rd_T40 ((rd_T30 l0_0 x5_2).f4) ((rd_T42 x7_16 x13_4).f0)).f0) ((rd_T42 x7_16 x13_4).f1)).f3) ((rd_T44 ((rd_T40 ((rd_T30 l0_0 x5_2).f4) ((rd_T42 x7_16 x13_4).f0)).f0) ((rd_T42 x7_16 x13_4).f1)).f4) ((rd_T44 ((rd_T40 ((rd_T30 l0_0 x5_2).f4) ((rd_T42 x7_16 x13_4).f0)).f0) ((rd_T42 x7_16 x13_4).f1)).f5) ((rd_T44 ((rd_T40 ((rd_T30 l0_0 x5_2).f4) ((rd_T42 x7_16 x13_4).f0)).f0) ((rd_T42 x7_16 x13_4).f1)).f6)).bind fun bt473 => (if bt473.2 = true then ((portolanref02_Without.f k4 x12_4 (([bt473.1] : List Int))).bind fun t478 => (portolanlaw11_LiveWays.j6 k4 l1 x5_2 x7_16 t478 x13_4 l0_0 ((rd_T30 l0_0 x5_2).f0) ((rd_T30 l0_0 x5_2).f1) ((rd_T30 l0_0 x5_2).f2) ((rd_T30 l0_0 x5_2).f3) ((rd_T30 l0_0 x5_2).f4) ((rd_T44 ((rd_T40 ((rd_T30 l0_0 x5_2).f4) ((rd_T42 x7_16 x13_4).f0)).f0) ((rd_T42 x7_16 x13_4).f1)).f0) ((rd_T44 ((rd_T40 ((rd_T30 l0_0 x5_2).f4) ((rd_T42 x7_16 x13_4).f0)).f0) ((rd_T42 x7_16 x13_4).f1)).f1) ((rd_T44 ((rd_T40 ((rd_T30 l0_0 x5_2).f4) ((rd_T42 x7_16 x13_4).f0)).f0) ((rd_T42 x7_16 x13_4).f1)).f2) ((rd_T44 ((rd_T40 ((rd_T30 l0_0 x5_2).f4) ((rd_T42 x7_16 x13_4).f0)).f0) ((rd_T42 x7_16 x13_4).f1)).f3) ((rd_T44 ((rd_T40 ((rd_T30 l0_0 x5_2).f4) ((rd_T42 x7_16 x13_4).f0)).f0) ((rd_T42 x7_16 x13_4).f1)).f4) ((rd_T44 ((rd_T40 ((rd_T30 l0_0 x5_2).f4) ((rd_T42 x7_16 x13_4).f0)).f0) ((rd_T42 x7_16 x13_4).f1)).f5) ((rd_T44 ((rd_T40 ((rd_T30 l0_0 x5_2).f4) ((rd_T42 x7_16 x13_4).f0)).f0) ((rd_T42 x7_16 x13_4).f1)).f6))) else (portolanlaw11_LiveWays.j6 k4 l1 x5_2 x7_16 x12_4 x13_4 l0_0 ((rd_T30 l0_0 x5_2).f0) ((rd_T30 l0_0 x5_2).f1) ((rd_T30 l0_0 x5_2).f2) ((rd_T30 l0_0 x5_2).f3) ((rd_T30 l0_0 x5_2).f4) ((rd_T44 ((rd_T40 ((rd_T30 l0_0 x5_2).f4) ((rd_T42 x7_16 x13_4).f0)).f0) ((rd_T42 x7_16 x13_4).f1)).f0) ((rd_T44 ((rd_T40 ((rd_T30 l0_0 x5_2).f4) ((rd_T42 x7_16 x13_4).f0)).f0) ((rd_T42 x7_16 x13_4).f1)).f1) ((rd_T44 ((rd_T40 ((rd_T30 l0_0 x5_2).f4) ((rd_T42 x7_16 x13_4).f0)).f0) ((rd_T42 x7_16 x13_4).f1)).f2) ((rd_T44 ((rd_T40 ((rd_T30 l0_0 x5_2).f4) ((rd_T42 x7_16 x13_4).f0)).f0) ((rd_T42 x7_16 x13_4).f1)).f3) ((rd_T44 ((rd_T40 ((rd_T30 l0_0 x5_2).f4) ((rd_T42 x7_16 x13_4).f0)).f0) ((rd_T42 x7_16 x13_4).f1)).f4) ((rd_T44 ((rd_T40 ((rd_T30 l0_0 x5_2).f4) ((rd_T42 x7_16 x13_4).f0)).f0) ((rd_T42 x7_16 x13_4).f1)).f5) ((rd_T44 ((rd_T40 ((rd_T30 l0_0 x5_2).f4) ((rd_T42 x7_16 x13_4).f0)).f0) ((rd_T42 x7_16 x13_4).f1)).f6)))) = some true := by rw [if_pos rfl] at H; exact H
                    clear H
                    have H := H1
                    clear H1
                    replace H := Option.bind_eq_some_iff.mp H
                    obtain ⟨⟨t473, t474⟩, A610, H⟩ := H
                    replace H : (if t474 = true then ((portolanref02_Without.f k4 x12_4 (([t473] : List Int))).bind fun t478 => (portolanlaw11_LiveWays.j6 k4 l1 x5_2 x7_16 t478 x13_4 l0_0 ((rd_T30 l0_0 x5_2).f0) ((rd_T30 l0_0 x5_2).f1) ((rd_T30 l0_0 x5_2).f2) ((rd_T30 l0_0 x5_2).f3) ((rd_T30 l0_0 x5_2).f4) ((rd_T44 ((rd_T40 ((rd_T30 l0_0 x5_2).f4) ((rd_T42 x7_16 x13_4).f0)).f0) ((rd_T42 x7_16 x13_4).f1)).f0) ((rd_T44 ((rd_T40 ((rd_T30 l0_0 x5_2).f4) ((rd_T42 x7_16 x13_4).f0)).f0) ((rd_T42 x7_16 x13_4).f1)).f1) ((rd_T44 ((rd_T40 ((rd_T30 l0_0 x5_2).f4) ((rd_T42 x7_16 x13_4).f0)).f0) ((rd_T42 x7_16 x13_4).f1)).f2) ((rd_T44 ((rd_T40 ((rd_T30 l0_0 x5_2).f4) ((rd_T42 x7_16 x13_4).f0)).f0) ((rd_T42 x7_16 x13_4).f1)).f3) ((rd_T44 ((rd_T40 ((rd_T30 l0_0 x5_2).f4) ((rd_T42 x7_16 x13_4).f0)).f0) ((rd_T42 x7_16 x13_4).f1)).f4) ((rd_T44 ((rd_T40 ((rd_T30 l0_0 x5_2).f4) ((rd_T42 x7_16 x13_4).f0)).f0) ((rd_T42 x7_16 x13_4).f1)).f5) ((rd_T44 ((rd_T40 ((rd_T30 l0_0 x5_2).f4) ((rd_T42 x7_16 x13_4).f0)).f0) ((rd_T42 x7_16 x13_4).f1)).f6))) else (portolanlaw11_LiveWays.j6 k4 l1 x5_2 x7_16 x12_4 x13_4 l0_0 ((rd_T30 l0_0 x5_2).f0) ((rd_T30 l0_0 x5_2).f1) ((rd_T30 l0_0 x5_2).f2) ((rd_T30 l0_0 x5_2).f3) ((rd_T30 l0_0 x5_2).f4) ((rd_T44 ((rd_T40 ((rd_T30 l0_0 x5_2).f4) ((rd_T42 x7_16 x13_4).f0)).f0) ((rd_T42 x7_16 x13_4).f1)).f0) ((rd_T44 ((rd_T40 ((rd_T30 l0_0 x5_2).f4) ((rd_T42 x7_16 x13_4).f0)).f0) ((rd_T42 x7_16 x13_4).f1)).f1) ((rd_T44 ((rd_T40 ((rd_T30 l0_0 x5_2).f4) ((rd_T42 x7_16 x13_4).f0)).f0) ((rd_T42 x7_16 x13_4).f1)).f2) ((rd_T44 ((rd_T40 ((rd_T30 l0_0 x5_2).f4) ((rd_T42 x7_16 x13_4).f0)).f0) ((rd_T42 x7_16 x13_4).f1)).f3) ((rd_T44 ((rd_T40 ((rd_T30 l0_0 x5_2).f4) ((rd_T42 x7_16 x13_4).f0)).f0) ((rd_T42 x7_16 x13_4).f1)).f4) ((rd_T44 ((rd_T40 ((rd_T30 l0_0 x5_2).f4) ((rd_T42 x7_16 x13_4).f0)).f0) ((rd_T42 x7_16 x13_4).f1)).f5) ((rd_T44 ((rd_T40 ((rd_T30 l0_0 x5_2).f4) ((rd_T42 x7_16 x13_4).f0)).f0) ((rd_T42 x7_16 x13_4).f1)).f6))) = some true := H
                    have A61 := Aside0.mk A610
                    clear A610
                    have HC62 := Aside0.mk H
                    clear H
                    try go_wp2
                    replace HO_7 := Aside0.mk (Kd.R_drew HO_7.out); replace HO_12 := Aside0.mk (Kd.R_drew HO_12.out); replace BK448 := Aside0.mk (blk_drew BK448.out); replace BK452 := Aside0.mk (blk_drew BK452.out); replace HB := Aside0.mk (below_drew1 HB.out)
                    have p462 : 0 ≤ (x13_4 : Int) := of_decide_eq_true (by assumption)
                    have q462 : x13_4 < (x7_16.length : Int) := of_decide_eq_true (by assumption)
                    obtain ⟨ad462, e462, hx462_0, hx462_1⟩ := at_T42 (Kd.R_reads' HO_7.out).2.2 x13_4 p462 q462
                    cases e462
                    replace p462 := eq_true p462
                    replace q462 := eq_true q462
                    have p463 : 0 ≤ (((rd_T42 x7_16 x13_4).f0) : Int) := of_decide_eq_true (by assumption)
                    have q463 : ((rd_T42 x7_16 x13_4).f0) < (((rd_T30 l0_0 x5_2).f4).length : Int) := of_decide_eq_true (by assumption)
                    obtain ⟨ad463, A463_0, c463_0, e463, hx463_0, hl463_0, hi463_0⟩ := at_T40 HR451_4.out ((rd_T42 x7_16 x13_4).f0) p463 q463
                    have hw463_0 := hx463_0
                    cases e463
                    replace hx463_0 := (HB.out.cell (World.block_lt_of_cell? w _ hx463_0)).trans hx463_0
                    have HR463_0 := Aside0.mk hi463_0
                    have HC463_0 := Aside0.mk hl463_0
                    clear hi463_0 hl463_0
                    replace p463 := eq_true p463
                    replace q463 := eq_true q463
                    have p464 : 0 ≤ (x13_4 : Int) := of_decide_eq_true (by assumption)
                    have q464 : x13_4 < (x7_16.length : Int) := of_decide_eq_true (by assumption)
                    obtain ⟨ad464, e464, hx464_0, hx464_1⟩ := at_T42 (Kd.R_reads' HO_7.out).2.2 x13_4 p464 q464
                    obtain rfl : ad462 = ad464 := (by injection e464)
                    replace p464 := eq_true p464
                    replace q464 := eq_true q464
                    have p465 : 0 ≤ (((rd_T42 x7_16 x13_4).f1) : Int) := of_decide_eq_true (by assumption)
                    have q465 : ((rd_T42 x7_16 x13_4).f1) < (((rd_T40 ((rd_T30 l0_0 x5_2).f4) ((rd_T42 x7_16 x13_4).f0)).f0).length : Int) := of_decide_eq_true (by assumption)
                    obtain ⟨ad465, A465_6, c465_6, e465, hx465_0, hx465_1, hx465_2, hx465_3, hx465_4, hx465_5, hx465_6, hl465_6, hi465_6⟩ := at_T44 HR463_0.out ((rd_T42 x7_16 x13_4).f1) p465 q465
                    have hw465_6 := hx465_6
                    have hw465_5 := hx465_5
                    have hw465_4 := hx465_4
                    have hw465_3 := hx465_3
                    have hw465_2 := hx465_2
                    have hw465_1 := hx465_1
                    have hw465_0 := hx465_0
                    cases e465
                    replace hx465_0 := (HB.out.cell (World.block_lt_of_cell? w _ hx465_0)).trans hx465_0
                    replace hx465_1 := (HB.out.cell (World.block_lt_of_cell? w _ hx465_1)).trans hx465_1
                    replace hx465_2 := (HB.out.cell (World.block_lt_of_cell? w _ hx465_2)).trans hx465_2
                    replace hx465_3 := (HB.out.cell (World.block_lt_of_cell? w _ hx465_3)).trans hx465_3
                    replace hx465_4 := (HB.out.cell (World.block_lt_of_cell? w _ hx465_4)).trans hx465_4
                    replace hx465_5 := (HB.out.cell (World.block_lt_of_cell? w _ hx465_5)).trans hx465_5
                    replace hx465_6 := (HB.out.cell (World.block_lt_of_cell? w _ hx465_6)).trans hx465_6
                    have HR465_6 := Aside0.mk hi465_6
                    have HC465_6 := Aside0.mk hl465_6
                    clear hi465_6 hl465_6
                    replace p465 := eq_true p465
                    replace q465 := eq_true q465
                    refine start_ (n := 19) (S := fun w' => w'.cell? ⟨gb452, 0, none⟩ = some (.slice A451_0 ((rd_T30 l0_0 x5_2).f0).length c451_0) ∧ w'.cell? ⟨gb452, 1, none⟩ = some (.slice A451_1 ((rd_T30 l0_0 x5_2).f1).length c451_1) ∧ w'.cell? ⟨gb452, 2, none⟩ = some (.int .i64 ((rd_T30 l0_0 x5_2).f2)) ∧ w'.cell? ⟨gb452, 3, none⟩ = some (.int .i64 ((rd_T30 l0_0 x5_2).f3)) ∧ w'.cell? ⟨gb452, 4, none⟩ = some (.slice (some ad463) ((rd_T30 l0_0 x5_2).f4).length c451_4) ∧ w'.cell? (ad462.add ((x13_4).toNat * 2)) = some (.int .i64 ((rd_T42 x7_16 x13_4).f0)) ∧ w'.cell? ⟨(ad462.add ((x13_4).toNat * 2)).block, (ad462.add ((x13_4).toNat * 2)).off + 1, none⟩ = some (.int .i64 ((rd_T42 x7_16 x13_4).f1)) ∧ w'.cell? (ad463.add (((rd_T42 x7_16 x13_4).f0)).toNat) = some (.slice (some ad465) ((rd_T40 ((rd_T30 l0_0 x5_2).f4) ((rd_T42 x7_16 x13_4).f0)).f0).length c463_0) ∧ w'.cell? (ad462.add ((x13_4).toNat * 2)) = some (.int .i64 ((rd_T42 x7_16 x13_4).f0)) ∧ w'.cell? ⟨(ad462.add ((x13_4).toNat * 2)).block, (ad462.add ((x13_4).toNat * 2)).off + 1, none⟩ = some (.int .i64 ((rd_T42 x7_16 x13_4).f1)) ∧ w'.cell? (ad465.add ((((rd_T42 x7_16 x13_4).f1)).toNat * 7)) = some (.int .i64 ((rd_T44 ((rd_T40 ((rd_T30 l0_0 x5_2).f4) ((rd_T42 x7_16 x13_4).f0)).f0) ((rd_T42 x7_16 x13_4).f1)).f0)) ∧ w'.cell? ⟨(ad465.add ((((rd_T42 x7_16 x13_4).f1)).toNat * 7)).block, (ad465.add ((((rd_T42 x7_16 x13_4).f1)).toNat * 7)).off + 1, none⟩ = some (.int .i64 ((rd_T44 ((rd_T40 ((rd_T30 l0_0 x5_2).f4) ((rd_T42 x7_16 x13_4).f0)).f0) ((rd_T42 x7_16 x13_4).f1)).f1)) ∧ w'.cell? ⟨(ad465.add ((((rd_T42 x7_16 x13_4).f1)).toNat * 7)).block, (ad465.add ((((rd_T42 x7_16 x13_4).f1)).toNat * 7)).off + 2, none⟩ = some (.int .i64 ((rd_T44 ((rd_T40 ((rd_T30 l0_0 x5_2).f4) ((rd_T42 x7_16 x13_4).f0)).f0) ((rd_T42 x7_16 x13_4).f1)).f2)) ∧ w'.cell? ⟨(ad465.add ((((rd_T42 x7_16 x13_4).f1)).toNat * 7)).block, (ad465.add ((((rd_T42 x7_16 x13_4).f1)).toNat * 7)).off + 3, none⟩ = some (.int .i64 ((rd_T44 ((rd_T40 ((rd_T30 l0_0 x5_2).f4) ((rd_T42 x7_16 x13_4).f0)).f0) ((rd_T42 x7_16 x13_4).f1)).f3)) ∧ w'.cell? ⟨(ad465.add ((((rd_T42 x7_16 x13_4).f1)).toNat * 7)).block, (ad465.add ((((rd_T42 x7_16 x13_4).f1)).toNat * 7)).off + 4, none⟩ = some (.int .i64 ((rd_T44 ((rd_T40 ((rd_T30 l0_0 x5_2).f4) ((rd_T42 x7_16 x13_4).f0)).f0) ((rd_T42 x7_16 x13_4).f1)).f4)) ∧ w'.cell? ⟨(ad465.add ((((rd_T42 x7_16 x13_4).f1)).toNat * 7)).block, (ad465.add ((((rd_T42 x7_16 x13_4).f1)).toNat * 7)).off + 5, none⟩ = some (.int .i64 ((rd_T44 ((rd_T40 ((rd_T30 l0_0 x5_2).f4) ((rd_T42 x7_16 x13_4).f0)).f0) ((rd_T42 x7_16 x13_4).f1)).f5)) ∧ w'.cell? ⟨(ad465.add ((((rd_T42 x7_16 x13_4).f1)).toNat * 7)).block, (ad465.add ((((rd_T42 x7_16 x13_4).f1)).toNat * 7)).off + 6, none⟩ = some (.slice A465_6 ((rd_T44 ((rd_T40 ((rd_T30 l0_0 x5_2).f4) ((rd_T42 x7_16 x13_4).f0)).f0) ((rd_T42 x7_16 x13_4).f1)).f6).length c465_6)) (ds := []) #[false, false, false, false, false, false, false, false, false, false, false, false, false, false, false, false, false, false, false] (by kernel_rfl) rfl rfl ⟨(blk_cell BK452.out 0).trans rfl, (blk_cell BK452.out 1).trans rfl, (blk_cell BK452.out 2).trans rfl, (blk_cell BK452.out 3).trans rfl, (blk_cell BK452.out 4).trans rfl, hx462_0, hx462_1, ((HB.out.cell (World.block_lt_of_cell? w _ hw463_0)).trans hw463_0), hx464_0, hx464_1, ((HB.out.cell (World.block_lt_of_cell? w _ hw465_0)).trans hw465_0), ((HB.out.cell (World.block_lt_of_cell? w _ hw465_1)).trans hw465_1), ((HB.out.cell (World.block_lt_of_cell? w _ hw465_2)).trans hw465_2), ((HB.out.cell (World.block_lt_of_cell? w _ hw465_3)).trans hw465_3), ((HB.out.cell (World.block_lt_of_cell? w _ hw465_4)).trans hw465_4), ((HB.out.cell (World.block_lt_of_cell? w _ hw465_5)).trans hw465_5), ((HB.out.cell (World.block_lt_of_cell? w _ hw465_6)).trans hw465_6)⟩ (fun hHeld => ?_); refine with_tabW portolanlaw11_LiveWays.tab25 portolanlaw11_LiveWays.bits25 (fun HT_ HW_ => ?_)
                    generalize wr.drew = w63 at HO_7 HO_12 BK448 BK452 HB HR463_0 HR465_6 hx462_0 hx462_1 hx463_0 hx464_0 hx464_1 hx465_0 hx465_1 hx465_2 hx465_3 hx465_4 hx465_5 hx465_6 hHeld ⊢
                    refine pure_ (i := 0) (N := some 91) (v := ?_) (a' := ?_) #[true, false, false, false, false, false, false, false, false, false, false, false, false, false, false, false, false, false, false] rfl rfl (any_of HT_.out (by kernel_rfl)) (fun _ _ _ h => h) (Or.inl ⟨by rfl, ?_⟩) ?_ ?_
                    rotate_left
                    ·
                     intro w'
                     go_simp
                     with_reducible rfl
                    rotate_left
                    ·
                     simp only [Act.put, List.setIfInBounds_toArray, List.set_cons_zero, List.set_cons_succ, i64_w, i32_w]
                     rfl
                    refine pure_ (i := 2) (N := some 93) (v := ?_) (a' := ?_) #[true, false, true, false, false, false, false, false, false, false, false, false, false, false, false, false, false, false, false] rfl rfl (any_of HT_.out (by kernel_rfl)) (fun _ _ _ h => h) (Or.inl ⟨by rfl, ?_⟩) ?_ ?_
                    rotate_left
                    ·
                     intro w'
                     go_simp
                     with_reducible rfl
                    rotate_left
                    ·
                     simp only [Act.put, List.setIfInBounds_toArray, List.set_cons_zero, List.set_cons_succ, i64_w, i32_w]
                     rfl
                    refine pure_ (i := 3) (N := some 94) (v := ?_) (a' := ?_) #[true, false, true, true, false, false, false, false, false, false, false, false, false, false, false, false, false, false, false] rfl rfl (any_of HT_.out (by kernel_rfl)) (fun _ _ _ h => h) (Or.inl ⟨by rfl, ?_⟩) ?_ ?_
                    rotate_left
                    ·
                     intro w'
                     go_simp
                     with_reducible rfl
                    rotate_left
                    ·
                     simp only [Act.put, List.setIfInBounds_toArray, List.set_cons_zero, List.set_cons_succ, i64_w, i32_w]
                     rfl
                    refine pure_ (i := 4) (N := some 95) (v := ?_) (a' := ?_) #[true, false, true, true, true, false, false, false, false, false, false, false, false, false, false, false, false, false, false] rfl rfl (any_of HT_.out (by kernel_rfl)) (fun _ _ _ h => h) (Or.inl ⟨by rfl, ?_⟩) ?_ ?_
                    rotate_left
                    ·
                     intro w'
                     go_simp
                     with_reducible rfl
                    rotate_left
                    ·
                     simp only [Act.put, List.setIfInBounds_toArray, List.set_cons_zero, List.set_cons_succ, i64_w, i32_w]
                     rfl
                    refine pure_ (i := 5) (N := some 96) (v := ?_) (a' := ?_) #[true, false, true, true, true, true, false, false, false, false, false, false, false, false, false, false, false, false, false] rfl rfl (any_of HT_.out (by kernel_rfl)) (fun _ _ _ h => h) (Or.inl ⟨by rfl, ?_⟩) ?_ ?_
                    rotate_left
                    ·
                     intro w'
                     go_simp
                     with_reducible rfl
                    rotate_left
                    ·
                     simp only [Act.put, List.setIfInBounds_toArray, List.set_cons_zero, List.set_cons_succ, i64_w, i32_w]
                     rfl
                    refine pure_ (i := 10) (N := some 101) (v := ?_) (a' := ?_) #[true, false, true, true, true, true, false, false, false, false, true, false, false, false, false, false, false, false, false] rfl rfl (any_of HT_.out (by kernel_rfl)) (fun _ _ _ h => h) (Or.inl ⟨by rfl, ?_⟩) ?_ ?_
                    rotate_left
                    ·
                     intro w'
                     go_simp
                     with_reducible rfl
                    rotate_left
                    ·
                     simp only [Act.put, List.setIfInBounds_toArray, List.set_cons_zero, List.set_cons_succ, i64_w, i32_w]
                     rfl
                    refine pure_ (i := 11) (N := some 102) (v := ?_) (a' := ?_) #[true, false, true, true, true, true, false, false, false, false, true, true, false, false, false, false, false, false, false] rfl rfl (any_of HT_.out (by kernel_rfl)) (fun _ _ _ h => h) (Or.inl ⟨by rfl, ?_⟩) ?_ ?_
                    rotate_left
                    ·
                     intro w'
                     go_simp
                     with_reducible rfl
                    rotate_left
                    ·
                     simp only [Act.put, List.setIfInBounds_toArray, List.set_cons_zero, List.set_cons_succ, i64_w, i32_w]
                     rfl
                    refine pure_ (i := 12) (N := some 103) (v := ?_) (a' := ?_) #[true, false, true, true, true, true, false, false, false, false, true, true, true, false, false, false, false, false, false] rfl rfl (any_of HT_.out (by kernel_rfl)) (fun _ _ _ h => h) (Or.inl ⟨by rfl, ?_⟩) ?_ ?_
                    rotate_left
                    ·
                     intro w'
                     go_simp
                     with_reducible rfl
                    rotate_left
                    ·
                     simp only [Act.put, List.setIfInBounds_toArray, List.set_cons_zero, List.set_cons_succ, i64_w, i32_w]
                     rfl
                    refine pure_ (i := 13) (N := some 104) (v := ?_) (a' := ?_) #[true, false, true, true, true, true, false, false, false, false, true, true, true, true, false, false, false, false, false] rfl rfl (any_of HT_.out (by kernel_rfl)) (fun _ _ _ h => h) (Or.inl ⟨by rfl, ?_⟩) ?_ ?_
                    rotate_left
                    ·
                     intro w'
                     go_simp
                     with_reducible rfl
                    rotate_left
                    ·
                     simp only [Act.put, List.setIfInBounds_toArray, List.set_cons_zero, List.set_cons_succ, i64_w, i32_w]
                     rfl
                    refine take_ (i := 1) (N := some 92) (v := ?_) (a' := ?_) #[true, true, true, true, true, true, false, false, false, false, true, true, true, true, false, false, false, false, false] rfl rfl (take_ofW HT_.out HW_.out (by kernel_rfl)) (fun _ _ _ h => h) (Or.inl ⟨by rfl, ?_⟩) hHeld ?_ ?_
                    rotate_left
                    ·
                     rintro w' ⟨s0, s1, s2, s3, s4, s5, s6, s7, s8, s9, s10, s11, s12, s13, s14, s15, s16⟩
                     go_simp
                     with_reducible rfl
                    rotate_left
                    ·
                     simp only [Act.put, List.setIfInBounds_toArray, List.set_cons_zero, List.set_cons_succ, i64_w, i32_w]
                     rfl
                    refine take_ (i := 6) (N := some 97) (v := ?_) (a' := ?_) #[true, true, true, true, true, true, true, false, false, false, true, true, true, true, false, false, false, false, false] rfl rfl (take_ofW HT_.out HW_.out (by kernel_rfl)) (fun _ _ _ h => h) (Or.inl ⟨by rfl, ?_⟩) hHeld ?_ ?_
                    rotate_left
                    ·
                     rintro w' ⟨s0, s1, s2, s3, s4, s5, s6, s7, s8, s9, s10, s11, s12, s13, s14, s15, s16⟩
                     go_simp
                     with_reducible rfl
                    rotate_left
                    ·
                     simp only [Act.put, List.setIfInBounds_toArray, List.set_cons_zero, List.set_cons_succ, i64_w, i32_w]
                     rfl
                    refine pure_ (i := 7) (N := some 98) (v := ?_) (a' := ?_) #[true, true, true, true, true, true, true, true, false, false, true, true, true, true, false, false, false, false, false] rfl rfl (any_of HT_.out (by kernel_rfl)) (fun _ _ _ h => h) (Or.inl ⟨by rfl, ?_⟩) ?_ ?_
                    rotate_left
                    ·
                     intro w'
                     go_simp
                     with_reducible rfl
                    rotate_left
                    ·
                     simp only [Act.put, List.setIfInBounds_toArray, List.set_cons_zero, List.set_cons_succ, i64_w, i32_w]
                     rfl
                    refine pure_ (i := 8) (N := some 99) (v := ?_) (a' := ?_) #[true, true, true, true, true, true, true, true, true, false, true, true, true, true, false, false, false, false, false] rfl rfl (any_of HT_.out (by kernel_rfl)) (fun _ _ _ h => h) (Or.inl ⟨by rfl, ?_⟩) ?_ ?_
                    rotate_left
                    ·
                     intro w'
                     go_simp
                     with_reducible rfl
                    rotate_left
                    ·
                     simp only [Act.put, List.setIfInBounds_toArray, List.set_cons_zero, List.set_cons_succ, i64_w, i32_w]
                     rfl
                    refine take_ (i := 9) (N := some 100) (v := ?_) (a' := ?_) #[true, true, true, true, true, true, true, true, true, true, true, true, true, true, false, false, false, false, false] rfl rfl (take_ofW HT_.out HW_.out (by kernel_rfl)) (fun _ _ _ h => h) (Or.inl ⟨by rfl, ?_⟩) hHeld ?_ ?_
                    rotate_left
                    ·
                     rintro w' ⟨s0, s1, s2, s3, s4, s5, s6, s7, s8, s9, s10, s11, s12, s13, s14, s15, s16⟩
                     go_simp
                     with_reducible rfl
                    rotate_left
                    ·
                     simp only [Act.put, List.setIfInBounds_toArray, List.set_cons_zero, List.set_cons_succ, i64_w, i32_w]
                     rfl
                    refine take_ (i := 14) (N := some 105) (v := ?_) (a' := ?_) #[true, true, true, true, true, true, true, true, true, true, true, true, true, true, true, false, false, false, false] rfl rfl (take_ofW HT_.out HW_.out (by kernel_rfl)) (fun _ _ _ h => h) (Or.inl ⟨by rfl, ?_⟩) hHeld ?_ ?_
                    rotate_left
                    ·
                     rintro w' ⟨s0, s1, s2, s3, s4, s5, s6, s7, s8, s9, s10, s11, s12, s13, s14, s15, s16⟩
                     go_simp
                     with_reducible rfl
                    rotate_left
                    ·
                     simp only [Act.put, List.setIfInBounds_toArray, List.set_cons_zero, List.set_cons_succ, i64_w, i32_w]
                     rfl
                    refine pure_ (i := 15) (N := some 106) (v := ?_) (a' := ?_) #[true, true, true, true, true, true, true, true, true, true, true, true, true, true, true, true, false, false, false] rfl rfl (any_of HT_.out (by kernel_rfl)) (fun _ _ _ h => h) (Or.inl ⟨by rfl, ?_⟩) ?_ ?_
                    rotate_left
                    ·
                     intro w'
                     go_simp
                     with_reducible rfl
                    rotate_left
                    ·
                     simp only [Act.put, List.setIfInBounds_toArray, List.set_cons_zero, List.set_cons_succ, i64_w, i32_w]
                     rfl
                    refine take_ (i := 16) (N := some 107) (v := ?_) (a' := ?_) #[true, true, true, true, true, true, true, true, true, true, true, true, true, true, true, true, true, false, false] rfl rfl (take_ofW HT_.out HW_.out (by kernel_rfl)) (fun _ _ _ h => h) (Or.inl ⟨by rfl, ?_⟩) hHeld ?_ ?_
                    rotate_left
                    ·
                     rintro w' ⟨s0, s1, s2, s3, s4, s5, s6, s7, s8, s9, s10, s11, s12, s13, s14, s15, s16⟩
                     go_simp
                     with_reducible rfl
                    rotate_left
                    ·
                     simp only [Act.put, List.setIfInBounds_toArray, List.set_cons_zero, List.set_cons_succ, i64_w, i32_w]
                     rfl
                    refine one_ (i := 17) (N := some 14) #[true, true, true, true, true, true, true, true, true, true, true, true, true, true, true, true, true, true, false] rfl rfl (one_of HT_.out (by kernel_rfl)) (by decide) (fun K hK => ?_)
                    refine box_step ?hg (N := 14) ?hd (cs := #[.int .i64 0, .int .i64 0, .int .i64 0, .int .i64 0, .int .i64 0, .int .i64 0, .slice none 0 0]) (t := 44) ?hr ?_; (case hd => rfl); (case hg => rfl); (case hr => first | (go_simp; done) | (go_simp; rfl))
                    intro gb466 hg w64 hbox hb
                    have HS5_ := (hb.cell (World.block_lt_of_cell? _ _ (hHeld.2.2.2.2.2.1))).trans (hHeld.2.2.2.2.2.1)
                    have HS6_ := (hb.cell (World.block_lt_of_cell? _ _ (hHeld.2.2.2.2.2.2.1))).trans (hHeld.2.2.2.2.2.2.1)
                    have HS8_ := (hb.cell (World.block_lt_of_cell? _ _ (hHeld.2.2.2.2.2.2.2.2.1))).trans (hHeld.2.2.2.2.2.2.2.2.1)
                    have HS9_ := (hb.cell (World.block_lt_of_cell? _ _ (hHeld.2.2.2.2.2.2.2.2.2.1))).trans (hHeld.2.2.2.2.2.2.2.2.2.1)
                    replace HO_7 := Aside0.mk (Kd.R_below (Kd.Rx HO_7.out) hb); replace HO_12 := Aside0.mk (Kd.R_below (Kd.Rx HO_12.out) hb); have BK466 := Aside0.mk (hbox); have GW466 := ge hg (bl HB); have GE466 := ge hg (bl HB); replace HB := Aside0.mk (below_step (bl HB) hb); have NB448_466 := Aside0.mk ((by rw [hg]; exact Nat.ne_of_lt (blk_lt (g := gb448) (o := .cells #[.slice (some ad451) l0_0.length c0_0] 24 (0, 0)) (bx BK448.out)) : gb448 ≠ gb466)); have NB466_448 := Aside0.mk ((by rw [hg]; exact Nat.ne_of_gt (blk_lt (g := gb448) (o := .cells #[.slice (some ad451) l0_0.length c0_0] 24 (0, 0)) (bx BK448.out)) : gb466 ≠ gb448)); replace BK448 := Aside0.mk (blk_below (bx BK448.out) hb); have NB452_466 := Aside0.mk ((by rw [hg]; exact Nat.ne_of_lt (blk_lt (g := gb452) (o := .cells #[.slice A451_0 ((rd_T30 l0_0 x5_2).f0).length c451_0, .slice A451_1 ((rd_T30 l0_0 x5_2).f1).length c451_1, .int .i64 ((rd_T30 l0_0 x5_2).f2), .int .i64 ((rd_T30 l0_0 x5_2).f3), .slice (some ad463) ((rd_T30 l0_0 x5_2).f4).length c451_4] 30 (0, 0)) (bx BK452.out)) : gb452 ≠ gb466)); have NB466_452 := Aside0.mk ((by rw [hg]; exact Nat.ne_of_gt (blk_lt (g := gb452) (o := .cells #[.slice A451_0 ((rd_T30 l0_0 x5_2).f0).length c451_0, .slice A451_1 ((rd_T30 l0_0 x5_2).f1).length c451_1, .int .i64 ((rd_T30 l0_0 x5_2).f2), .int .i64 ((rd_T30 l0_0 x5_2).f3), .slice (some ad463) ((rd_T30 l0_0 x5_2).f4).length c451_4] 30 (0, 0)) (bx BK452.out)) : gb466 ≠ gb452)); replace BK452 := Aside0.mk (blk_below (bx BK452.out) hb)
                    clear hb hbox hg
                    refine hK.out _ _ ⟨(blk_cell BK452.out 0).trans rfl, (blk_cell BK452.out 1).trans rfl, (blk_cell BK452.out 2).trans rfl, (blk_cell BK452.out 3).trans rfl, (blk_cell BK452.out 4).trans rfl, HS5_, HS6_, ((HB.out.cell (World.block_lt_of_cell? w _ hw463_0)).trans hw463_0), HS8_, HS9_, ((HB.out.cell (World.block_lt_of_cell? w _ hw465_0)).trans hw465_0), ((HB.out.cell (World.block_lt_of_cell? w _ hw465_1)).trans hw465_1), ((HB.out.cell (World.block_lt_of_cell? w _ hw465_2)).trans hw465_2), ((HB.out.cell (World.block_lt_of_cell? w _ hw465_3)).trans hw465_3), ((HB.out.cell (World.block_lt_of_cell? w _ hw465_4)).trans hw465_4), ((HB.out.cell (World.block_lt_of_cell? w _ hw465_5)).trans hw465_5), ((HB.out.cell (World.block_lt_of_cell? w _ hw465_6)).trans hw465_6)⟩ (fun hHeld => ?_)
                    clear hK K
                    refine norm_ (a' := ?_) ?_ ?_
                    rotate_left
                    ·
                     show Act.put _ (some 14) _ = _
                     simp only [Act.put, List.setIfInBounds_toArray, List.set_cons_zero, List.set_cons_succ, i64_w, i32_w]
                     rfl
                    refine one_ (i := 18) (N := none) #[true, true, true, true, true, true, true, true, true, true, true, true, true, true, true, true, true, true, true] rfl rfl (one_of HT_.out (by kernel_rfl)) (by decide) (fun K hK => ?_)
                    have hs65 : w64.cell? ⟨gb466, 0, none⟩ = some (.int .i64 0) := (blk_cell BK466.out 0).trans rfl
                    have hfs65 := blk_frozen BK466.out 0
                    have hns65_0 := NB448_466.out
                    have hns65_1 := NB452_466.out
                    have hms65_0 := NB466_448.out
                    have hms65_1 := NB466_452.out
                    have hs66 : w64.cell? ⟨gb466, 1, none⟩ = some (.int .i64 0) := (blk_cell BK466.out 1).trans rfl
                    have hfs66 := blk_frozen BK466.out 1
                    have hns66_0 := NB448_466.out
                    have hns66_1 := NB452_466.out
                    have hms66_0 := NB466_448.out
                    have hms66_1 := NB466_452.out
                    have hs67 : w64.cell? ⟨gb466, 2, none⟩ = some (.int .i64 0) := (blk_cell BK466.out 2).trans rfl
                    have hfs67 := blk_frozen BK466.out 2
                    have hns67_0 := NB448_466.out
                    have hns67_1 := NB452_466.out
                    have hms67_0 := NB466_448.out
                    have hms67_1 := NB466_452.out
                    have hs68 : w64.cell? ⟨gb466, 3, none⟩ = some (.int .i64 0) := (blk_cell BK466.out 3).trans rfl
                    have hfs68 := blk_frozen BK466.out 3
                    have hns68_0 := NB448_466.out
                    have hns68_1 := NB452_466.out
                    have hms68_0 := NB466_448.out
                    have hms68_1 := NB466_452.out
                    have hs69 : w64.cell? ⟨gb466, 4, none⟩ = some (.int .i64 0) := (blk_cell BK466.out 4).trans rfl
                    have hfs69 := blk_frozen BK466.out 4
                    have hns69_0 := NB448_466.out
                    have hns69_1 := NB452_466.out
                    have hms69_0 := NB466_448.out
                    have hms69_1 := NB466_452.out
                    have hs70 : w64.cell? ⟨gb466, 5, none⟩ = some (.int .i64 0) := (blk_cell BK466.out 5).trans rfl
                    have hfs70 := blk_frozen BK466.out 5
                    have hns70_0 := NB448_466.out
                    have hns70_1 := NB452_466.out
                    have hms70_0 := NB466_448.out
                    have hms70_1 := NB466_452.out
                    have hs71 : w64.cell? ⟨gb466, 6, none⟩ = some (.slice none 0 0) := (blk_cell BK466.out 6).trans rfl
                    have hfs71 := blk_frozen BK466.out 6
                    have hns71_0 := NB448_466.out
                    have hns71_1 := NB452_466.out
                    have hms71_0 := NB466_448.out
                    have hms71_1 := NB466_452.out
                    refine skip_ (w1 := ?_) (by rfl) rfl ?_ ?_
                    rotate_left
                    ·
                     go_simp
                     rfl
                    refine hK.out _ _ ⟨(by (repeat refine (cell_far (p := ⟨gb466, _, none⟩) NB452_466.out _).trans ?_); exact hHeld.1), (by (repeat refine (cell_far (p := ⟨gb466, _, none⟩) NB452_466.out _).trans ?_); exact hHeld.2.1), (by (repeat refine (cell_far (p := ⟨gb466, _, none⟩) NB452_466.out _).trans ?_); exact hHeld.2.2.1), (by (repeat refine (cell_far (p := ⟨gb466, _, none⟩) NB452_466.out _).trans ?_); exact hHeld.2.2.2.1), (by (repeat refine (cell_far (p := ⟨gb466, _, none⟩) NB452_466.out _).trans ?_); exact hHeld.2.2.2.2.1), (by (repeat refine (cell_far (p := ⟨gb466, _, none⟩) (by first | exact Kd.own_blk (Kd.R_ne HO_7.out BK466.out (by decide)) | (rw [add_block]; exact Kd.own_blk (Kd.R_ne HO_7.out BK466.out (by decide))) | (show (Addr.add _ _).block ≠ _; rw [add_block]; exact Kd.own_blk (Kd.R_ne HO_7.out BK466.out (by decide))) | (dsimp only; exact Kd.own_blk (Kd.R_ne HO_7.out BK466.out (by decide)))) _).trans ?_); exact hHeld.2.2.2.2.2.1), (by (repeat refine (cell_far (p := ⟨gb466, _, none⟩) (by first | exact Kd.own_blk (Kd.R_ne HO_7.out BK466.out (by decide)) | (rw [add_block]; exact Kd.own_blk (Kd.R_ne HO_7.out BK466.out (by decide))) | (show (Addr.add _ _).block ≠ _; rw [add_block]; exact Kd.own_blk (Kd.R_ne HO_7.out BK466.out (by decide))) | (dsimp only; exact Kd.own_blk (Kd.R_ne HO_7.out BK466.out (by decide)))) _).trans ?_); exact hHeld.2.2.2.2.2.2.1), (by (repeat refine (cell_far (p := ⟨gb466, _, none⟩) (by first | exact Nat.ne_of_lt (Nat.lt_of_lt_of_le (by have := World.block_lt_of_cell? _ _ hw463_0; first | rwa [add_block] at this | exact this) GW466.out) | (rw [add_block]; exact Nat.ne_of_lt (Nat.lt_of_lt_of_le (by have := World.block_lt_of_cell? _ _ hw463_0; first | rwa [add_block] at this | exact this) GW466.out)) | (show (Addr.add _ _).block ≠ _; rw [add_block]; exact Nat.ne_of_lt (Nat.lt_of_lt_of_le (by have := World.block_lt_of_cell? _ _ hw463_0; first | rwa [add_block] at this | exact this) GW466.out)) | (dsimp only; exact Nat.ne_of_lt (Nat.lt_of_lt_of_le (by have := World.block_lt_of_cell? _ _ hw463_0; first | rwa [add_block] at this | exact this) GW466.out))) _).trans ?_); exact hHeld.2.2.2.2.2.2.2.1), (by (repeat refine (cell_far (p := ⟨gb466, _, none⟩) (by first | exact Kd.own_blk (Kd.R_ne HO_7.out BK466.out (by decide)) | (rw [add_block]; exact Kd.own_blk (Kd.R_ne HO_7.out BK466.out (by decide))) | (show (Addr.add _ _).block ≠ _; rw [add_block]; exact Kd.own_blk (Kd.R_ne HO_7.out BK466.out (by decide))) | (dsimp only; exact Kd.own_blk (Kd.R_ne HO_7.out BK466.out (by decide)))) _).trans ?_); exact hHeld.2.2.2.2.2.2.2.2.1), (by (repeat refine (cell_far (p := ⟨gb466, _, none⟩) (by first | exact Kd.own_blk (Kd.R_ne HO_7.out BK466.out (by decide)) | (rw [add_block]; exact Kd.own_blk (Kd.R_ne HO_7.out BK466.out (by decide))) | (show (Addr.add _ _).block ≠ _; rw [add_block]; exact Kd.own_blk (Kd.R_ne HO_7.out BK466.out (by decide))) | (dsimp only; exact Kd.own_blk (Kd.R_ne HO_7.out BK466.out (by decide)))) _).trans ?_); exact hHeld.2.2.2.2.2.2.2.2.2.1), (by (repeat refine (cell_far (p := ⟨gb466, _, none⟩) (by first | exact Nat.ne_of_lt (Nat.lt_of_lt_of_le (by have := World.block_lt_of_cell? _ _ hw465_0; first | rwa [add_block] at this | exact this) GW466.out) | (rw [add_block]; exact Nat.ne_of_lt (Nat.lt_of_lt_of_le (by have := World.block_lt_of_cell? _ _ hw465_0; first | rwa [add_block] at this | exact this) GW466.out)) | (show (Addr.add _ _).block ≠ _; rw [add_block]; exact Nat.ne_of_lt (Nat.lt_of_lt_of_le (by have := World.block_lt_of_cell? _ _ hw465_0; first | rwa [add_block] at this | exact this) GW466.out)) | (dsimp only; exact Nat.ne_of_lt (Nat.lt_of_lt_of_le (by have := World.block_lt_of_cell? _ _ hw465_0; first | rwa [add_block] at this | exact this) GW466.out))) _).trans ?_); exact hHeld.2.2.2.2.2.2.2.2.2.2.1), (by (repeat refine (cell_far (p := ⟨gb466, _, none⟩) (by first | exact Nat.ne_of_lt (Nat.lt_of_lt_of_le (by have := World.block_lt_of_cell? _ _ hw465_1; first | rwa [add_block] at this | exact this) GW466.out) | (rw [add_block]; exact Nat.ne_of_lt (Nat.lt_of_lt_of_le (by have := World.block_lt_of_cell? _ _ hw465_1; first | rwa [add_block] at this | exact this) GW466.out)) | (show (Addr.add _ _).block ≠ _; rw [add_block]; exact Nat.ne_of_lt (Nat.lt_of_lt_of_le (by have := World.block_lt_of_cell? _ _ hw465_1; first | rwa [add_block] at this | exact this) GW466.out)) | (dsimp only; exact Nat.ne_of_lt (Nat.lt_of_lt_of_le (by have := World.block_lt_of_cell? _ _ hw465_1; first | rwa [add_block] at this | exact this) GW466.out))) _).trans ?_); exact hHeld.2.2.2.2.2.2.2.2.2.2.2.1), (by (repeat refine (cell_far (p := ⟨gb466, _, none⟩) (by first | exact Nat.ne_of_lt (Nat.lt_of_lt_of_le (by have := World.block_lt_of_cell? _ _ hw465_2; first | rwa [add_block] at this | exact this) GW466.out) | (rw [add_block]; exact Nat.ne_of_lt (Nat.lt_of_lt_of_le (by have := World.block_lt_of_cell? _ _ hw465_2; first | rwa [add_block] at this | exact this) GW466.out)) | (show (Addr.add _ _).block ≠ _; rw [add_block]; exact Nat.ne_of_lt (Nat.lt_of_lt_of_le (by have := World.block_lt_of_cell? _ _ hw465_2; first | rwa [add_block] at this | exact this) GW466.out)) | (dsimp only; exact Nat.ne_of_lt (Nat.lt_of_lt_of_le (by have := World.block_lt_of_cell? _ _ hw465_2; first | rwa [add_block] at this | exact this) GW466.out))) _).trans ?_); exact hHeld.2.2.2.2.2.2.2.2.2.2.2.2.1), (by (repeat refine (cell_far (p := ⟨gb466, _, none⟩) (by first | exact Nat.ne_of_lt (Nat.lt_of_lt_of_le (by have := World.block_lt_of_cell? _ _ hw465_3; first | rwa [add_block] at this | exact this) GW466.out) | (rw [add_block]; exact Nat.ne_of_lt (Nat.lt_of_lt_of_le (by have := World.block_lt_of_cell? _ _ hw465_3; first | rwa [add_block] at this | exact this) GW466.out)) | (show (Addr.add _ _).block ≠ _; rw [add_block]; exact Nat.ne_of_lt (Nat.lt_of_lt_of_le (by have := World.block_lt_of_cell? _ _ hw465_3; first | rwa [add_block] at this | exact this) GW466.out)) | (dsimp only; exact Nat.ne_of_lt (Nat.lt_of_lt_of_le (by have := World.block_lt_of_cell? _ _ hw465_3; first | rwa [add_block] at this | exact this) GW466.out))) _).trans ?_); exact hHeld.2.2.2.2.2.2.2.2.2.2.2.2.2.1), (by (repeat refine (cell_far (p := ⟨gb466, _, none⟩) (by first | exact Nat.ne_of_lt (Nat.lt_of_lt_of_le (by have := World.block_lt_of_cell? _ _ hw465_4; first | rwa [add_block] at this | exact this) GW466.out) | (rw [add_block]; exact Nat.ne_of_lt (Nat.lt_of_lt_of_le (by have := World.block_lt_of_cell? _ _ hw465_4; first | rwa [add_block] at this | exact this) GW466.out)) | (show (Addr.add _ _).block ≠ _; rw [add_block]; exact Nat.ne_of_lt (Nat.lt_of_lt_of_le (by have := World.block_lt_of_cell? _ _ hw465_4; first | rwa [add_block] at this | exact this) GW466.out)) | (dsimp only; exact Nat.ne_of_lt (Nat.lt_of_lt_of_le (by have := World.block_lt_of_cell? _ _ hw465_4; first | rwa [add_block] at this | exact this) GW466.out))) _).trans ?_); exact hHeld.2.2.2.2.2.2.2.2.2.2.2.2.2.2.1), (by (repeat refine (cell_far (p := ⟨gb466, _, none⟩) (by first | exact Nat.ne_of_lt (Nat.lt_of_lt_of_le (by have := World.block_lt_of_cell? _ _ hw465_5; first | rwa [add_block] at this | exact this) GW466.out) | (rw [add_block]; exact Nat.ne_of_lt (Nat.lt_of_lt_of_le (by have := World.block_lt_of_cell? _ _ hw465_5; first | rwa [add_block] at this | exact this) GW466.out)) | (show (Addr.add _ _).block ≠ _; rw [add_block]; exact Nat.ne_of_lt (Nat.lt_of_lt_of_le (by have := World.block_lt_of_cell? _ _ hw465_5; first | rwa [add_block] at this | exact this) GW466.out)) | (dsimp only; exact Nat.ne_of_lt (Nat.lt_of_lt_of_le (by have := World.block_lt_of_cell? _ _ hw465_5; first | rwa [add_block] at this | exact this) GW466.out))) _).trans ?_); exact hHeld.2.2.2.2.2.2.2.2.2.2.2.2.2.2.2.1), (by (repeat refine (cell_far (p := ⟨gb466, _, none⟩) (by first | exact Nat.ne_of_lt (Nat.lt_of_lt_of_le (by have := World.block_lt_of_cell? _ _ hw465_6; first | rwa [add_block] at this | exact this) GW466.out) | (rw [add_block]; exact Nat.ne_of_lt (Nat.lt_of_lt_of_le (by have := World.block_lt_of_cell? _ _ hw465_6; first | rwa [add_block] at this | exact this) GW466.out)) | (show (Addr.add _ _).block ≠ _; rw [add_block]; exact Nat.ne_of_lt (Nat.lt_of_lt_of_le (by have := World.block_lt_of_cell? _ _ hw465_6; first | rwa [add_block] at this | exact this) GW466.out)) | (dsimp only; exact Nat.ne_of_lt (Nat.lt_of_lt_of_le (by have := World.block_lt_of_cell? _ _ hw465_6; first | rwa [add_block] at this | exact this) GW466.out))) _).trans ?_); exact hHeld.2.2.2.2.2.2.2.2.2.2.2.2.2.2.2.2)⟩ (fun hHeld => ?_)
                    clear hK K
                    refine done_ (done_of HT_.out (by kernel_rfl)) ?_
                    try go_wp2
                    have n0_ : Aside0 (Kd.R k42 42 (((((((w64.setCell ⟨gb466, 0, none⟩ (.int .i64 ((rd_T44 ((rd_T40 ((rd_T30 l0_0 x5_2).f4) ((rd_T42 x7_16 x13_4).f0)).f0) ((rd_T42 x7_16 x13_4).f1)).f0))).setCell ⟨gb466, 1, none⟩ (.int .i64 ((rd_T44 ((rd_T40 ((rd_T30 l0_0 x5_2).f4) ((rd_T42 x7_16 x13_4).f0)).f0) ((rd_T42 x7_16 x13_4).f1)).f1))).setCell ⟨gb466, 2, none⟩ (.int .i64 ((rd_T44 ((rd_T40 ((rd_T30 l0_0 x5_2).f4) ((rd_T42 x7_16 x13_4).f0)).f0) ((rd_T42 x7_16 x13_4).f1)).f2))).setCell ⟨gb466, 3, none⟩ (.int .i64 ((rd_T44 ((rd_T40 ((rd_T30 l0_0 x5_2).f4) ((rd_T42 x7_16 x13_4).f0)).f0) ((rd_T42 x7_16 x13_4).f1)).f3))).setCell ⟨gb466, 4, none⟩ (.int .i64 ((rd_T44 ((rd_T40 ((rd_T30 l0_0 x5_2).f4) ((rd_T42 x7_16 x13_4).f0)).f0) ((rd_T42 x7_16 x13_4).f1)).f4))).setCell ⟨gb466, 5, none⟩ (.int .i64 ((rd_T44 ((rd_T40 ((rd_T30 l0_0 x5_2).f4) ((rd_T42 x7_16 x13_4).f0)).f0) ((rd_T42 x7_16 x13_4).f1)).f5))).setCell ⟨gb466, 6, none⟩ (.slice A465_6 ((rd_T44 ((rd_T40 ((rd_T30 l0_0 x5_2).f4) ((rd_T42 x7_16 x13_4).f0)).f0) ((rd_T42 x7_16 x13_4).f1)).f6).length c465_6)) w.heap.size (fun _ => True) (.slice (some ad462) x7_16.length co50) x7_16) := ⟨by (with_reducible repeat (first | apply Kd.R_alloc | apply Kd.R_drewN | apply Kd.R_drew)); exact Kd.R_mono (Kd.R_far (p := ⟨gb466, 6, none⟩) (Kd.R_far (p := ⟨gb466, 5, none⟩) (Kd.R_far (p := ⟨gb466, 4, none⟩) (Kd.R_far (p := ⟨gb466, 3, none⟩) (Kd.R_far (p := ⟨gb466, 2, none⟩) (Kd.R_far (p := ⟨gb466, 1, none⟩) (Kd.R_far (p := ⟨gb466, 0, none⟩) (Kd.R_types HO_7.out BK466.out (by decide)) (fun _ hk => hk.2) (.int .i64 ((rd_T44 ((rd_T40 ((rd_T30 l0_0 x5_2).f4) ((rd_T42 x7_16 x13_4).f0)).f0) ((rd_T42 x7_16 x13_4).f1)).f0))) (fun _ hk => hk.2) (.int .i64 ((rd_T44 ((rd_T40 ((rd_T30 l0_0 x5_2).f4) ((rd_T42 x7_16 x13_4).f0)).f0) ((rd_T42 x7_16 x13_4).f1)).f1))) (fun _ hk => hk.2) (.int .i64 ((rd_T44 ((rd_T40 ((rd_T30 l0_0 x5_2).f4) ((rd_T42 x7_16 x13_4).f0)).f0) ((rd_T42 x7_16 x13_4).f1)).f2))) (fun _ hk => hk.2) (.int .i64 ((rd_T44 ((rd_T40 ((rd_T30 l0_0 x5_2).f4) ((rd_T42 x7_16 x13_4).f0)).f0) ((rd_T42 x7_16 x13_4).f1)).f3))) (fun _ hk => hk.2) (.int .i64 ((rd_T44 ((rd_T40 ((rd_T30 l0_0 x5_2).f4) ((rd_T42 x7_16 x13_4).f0)).f0) ((rd_T42 x7_16 x13_4).f1)).f4))) (fun _ hk => hk.2) (.int .i64 ((rd_T44 ((rd_T40 ((rd_T30 l0_0 x5_2).f4) ((rd_T42 x7_16 x13_4).f0)).f0) ((rd_T42 x7_16 x13_4).f1)).f5))) (fun _ hk => hk.2) (.slice A465_6 ((rd_T44 ((rd_T40 ((rd_T30 l0_0 x5_2).f4) ((rd_T42 x7_16 x13_4).f0)).f0) ((rd_T42 x7_16 x13_4).f1)).f6).length c465_6)) (fun _ hk => trivial)⟩
                    have n1_ : Aside0 (Kd.R (Kd.int .u64) 67 (((((((w64.setCell ⟨gb466, 0, none⟩ (.int .i64 ((rd_T44 ((rd_T40 ((rd_T30 l0_0 x5_2).f4) ((rd_T42 x7_16 x13_4).f0)).f0) ((rd_T42 x7_16 x13_4).f1)).f0))).setCell ⟨gb466, 1, none⟩ (.int .i64 ((rd_T44 ((rd_T40 ((rd_T30 l0_0 x5_2).f4) ((rd_T42 x7_16 x13_4).f0)).f0) ((rd_T42 x7_16 x13_4).f1)).f1))).setCell ⟨gb466, 2, none⟩ (.int .i64 ((rd_T44 ((rd_T40 ((rd_T30 l0_0 x5_2).f4) ((rd_T42 x7_16 x13_4).f0)).f0) ((rd_T42 x7_16 x13_4).f1)).f2))).setCell ⟨gb466, 3, none⟩ (.int .i64 ((rd_T44 ((rd_T40 ((rd_T30 l0_0 x5_2).f4) ((rd_T42 x7_16 x13_4).f0)).f0) ((rd_T42 x7_16 x13_4).f1)).f3))).setCell ⟨gb466, 4, none⟩ (.int .i64 ((rd_T44 ((rd_T40 ((rd_T30 l0_0 x5_2).f4) ((rd_T42 x7_16 x13_4).f0)).f0) ((rd_T42 x7_16 x13_4).f1)).f4))).setCell ⟨gb466, 5, none⟩ (.int .i64 ((rd_T44 ((rd_T40 ((rd_T30 l0_0 x5_2).f4) ((rd_T42 x7_16 x13_4).f0)).f0) ((rd_T42 x7_16 x13_4).f1)).f5))).setCell ⟨gb466, 6, none⟩ (.slice A465_6 ((rd_T44 ((rd_T40 ((rd_T30 l0_0 x5_2).f4) ((rd_T42 x7_16 x13_4).f0)).f0) ((rd_T42 x7_16 x13_4).f1)).f6).length c465_6)) w.heap.size (fun _ => True) u12 x12_4) := ⟨by (with_reducible repeat (first | apply Kd.R_alloc | apply Kd.R_drewN | apply Kd.R_drew)); exact Kd.R_mono (Kd.R_far (p := ⟨gb466, 6, none⟩) (Kd.R_far (p := ⟨gb466, 5, none⟩) (Kd.R_far (p := ⟨gb466, 4, none⟩) (Kd.R_far (p := ⟨gb466, 3, none⟩) (Kd.R_far (p := ⟨gb466, 2, none⟩) (Kd.R_far (p := ⟨gb466, 1, none⟩) (Kd.R_far (p := ⟨gb466, 0, none⟩) (Kd.R_types HO_12.out BK466.out (by decide)) (fun _ hk => hk.2) (.int .i64 ((rd_T44 ((rd_T40 ((rd_T30 l0_0 x5_2).f4) ((rd_T42 x7_16 x13_4).f0)).f0) ((rd_T42 x7_16 x13_4).f1)).f0))) (fun _ hk => hk.2) (.int .i64 ((rd_T44 ((rd_T40 ((rd_T30 l0_0 x5_2).f4) ((rd_T42 x7_16 x13_4).f0)).f0) ((rd_T42 x7_16 x13_4).f1)).f1))) (fun _ hk => hk.2) (.int .i64 ((rd_T44 ((rd_T40 ((rd_T30 l0_0 x5_2).f4) ((rd_T42 x7_16 x13_4).f0)).f0) ((rd_T42 x7_16 x13_4).f1)).f2))) (fun _ hk => hk.2) (.int .i64 ((rd_T44 ((rd_T40 ((rd_T30 l0_0 x5_2).f4) ((rd_T42 x7_16 x13_4).f0)).f0) ((rd_T42 x7_16 x13_4).f1)).f3))) (fun _ hk => hk.2) (.int .i64 ((rd_T44 ((rd_T40 ((rd_T30 l0_0 x5_2).f4) ((rd_T42 x7_16 x13_4).f0)).f0) ((rd_T42 x7_16 x13_4).f1)).f4))) (fun _ hk => hk.2) (.int .i64 ((rd_T44 ((rd_T40 ((rd_T30 l0_0 x5_2).f4) ((rd_T42 x7_16 x13_4).f0)).f0) ((rd_T42 x7_16 x13_4).f1)).f5))) (fun _ hk => hk.2) (.slice A465_6 ((rd_T44 ((rd_T40 ((rd_T30 l0_0 x5_2).f4) ((rd_T42 x7_16 x13_4).f0)).f0) ((rd_T42 x7_16 x13_4).f1)).f6).length c465_6)) (fun _ hk => trivial)⟩
                    have n2_ : Aside0 ((((((((w64.setCell ⟨gb466, 0, none⟩ (.int .i64 ((rd_T44 ((rd_T40 ((rd_T30 l0_0 x5_2).f4) ((rd_T42 x7_16 x13_4).f0)).f0) ((rd_T42 x7_16 x13_4).f1)).f0))).setCell ⟨gb466, 1, none⟩ (.int .i64 ((rd_T44 ((rd_T40 ((rd_T30 l0_0 x5_2).f4) ((rd_T42 x7_16 x13_4).f0)).f0) ((rd_T42 x7_16 x13_4).f1)).f1))).setCell ⟨gb466, 2, none⟩ (.int .i64 ((rd_T44 ((rd_T40 ((rd_T30 l0_0 x5_2).f4) ((rd_T42 x7_16 x13_4).f0)).f0) ((rd_T42 x7_16 x13_4).f1)).f2))).setCell ⟨gb466, 3, none⟩ (.int .i64 ((rd_T44 ((rd_T40 ((rd_T30 l0_0 x5_2).f4) ((rd_T42 x7_16 x13_4).f0)).f0) ((rd_T42 x7_16 x13_4).f1)).f3))).setCell ⟨gb466, 4, none⟩ (.int .i64 ((rd_T44 ((rd_T40 ((rd_T30 l0_0 x5_2).f4) ((rd_T42 x7_16 x13_4).f0)).f0) ((rd_T42 x7_16 x13_4).f1)).f4))).setCell ⟨gb466, 5, none⟩ (.int .i64 ((rd_T44 ((rd_T40 ((rd_T30 l0_0 x5_2).f4) ((rd_T42 x7_16 x13_4).f0)).f0) ((rd_T42 x7_16 x13_4).f1)).f5))).setCell ⟨gb466, 6, none⟩ (.slice A465_6 ((rd_T44 ((rd_T40 ((rd_T30 l0_0 x5_2).f4) ((rd_T42 x7_16 x13_4).f0)).f0) ((rd_T42 x7_16 x13_4).f1)).f6).length c465_6)).heap[gb448]? = some (.cells #[.slice (some ad451) l0_0.length c0_0] 24 (0, 0))) := ⟨by refine bp ?_; refine blk_far ?_ NB448_466.out _; refine bp ?_; refine blk_far ?_ NB448_466.out _; refine bp ?_; refine blk_far ?_ NB448_466.out _; refine bp ?_; refine blk_far ?_ NB448_466.out _; refine bp ?_; refine blk_far ?_ NB448_466.out _; refine bp ?_; refine blk_far ?_ NB448_466.out _; refine bp ?_; refine blk_far ?_ NB448_466.out _; refine bp ?_; exact BK448.out⟩
                    have n3_ : Aside0 ((((((((w64.setCell ⟨gb466, 0, none⟩ (.int .i64 ((rd_T44 ((rd_T40 ((rd_T30 l0_0 x5_2).f4) ((rd_T42 x7_16 x13_4).f0)).f0) ((rd_T42 x7_16 x13_4).f1)).f0))).setCell ⟨gb466, 1, none⟩ (.int .i64 ((rd_T44 ((rd_T40 ((rd_T30 l0_0 x5_2).f4) ((rd_T42 x7_16 x13_4).f0)).f0) ((rd_T42 x7_16 x13_4).f1)).f1))).setCell ⟨gb466, 2, none⟩ (.int .i64 ((rd_T44 ((rd_T40 ((rd_T30 l0_0 x5_2).f4) ((rd_T42 x7_16 x13_4).f0)).f0) ((rd_T42 x7_16 x13_4).f1)).f2))).setCell ⟨gb466, 3, none⟩ (.int .i64 ((rd_T44 ((rd_T40 ((rd_T30 l0_0 x5_2).f4) ((rd_T42 x7_16 x13_4).f0)).f0) ((rd_T42 x7_16 x13_4).f1)).f3))).setCell ⟨gb466, 4, none⟩ (.int .i64 ((rd_T44 ((rd_T40 ((rd_T30 l0_0 x5_2).f4) ((rd_T42 x7_16 x13_4).f0)).f0) ((rd_T42 x7_16 x13_4).f1)).f4))).setCell ⟨gb466, 5, none⟩ (.int .i64 ((rd_T44 ((rd_T40 ((rd_T30 l0_0 x5_2).f4) ((rd_T42 x7_16 x13_4).f0)).f0) ((rd_T42 x7_16 x13_4).f1)).f5))).setCell ⟨gb466, 6, none⟩ (.slice A465_6 ((rd_T44 ((rd_T40 ((rd_T30 l0_0 x5_2).f4) ((rd_T42 x7_16 x13_4).f0)).f0) ((rd_T42 x7_16 x13_4).f1)).f6).length c465_6)).heap[gb452]? = some (.cells #[.slice A451_0 ((rd_T30 l0_0 x5_2).f0).length c451_0, .slice A451_1 ((rd_T30 l0_0 x5_2).f1).length c451_1, .int .i64 ((rd_T30 l0_0 x5_2).f2), .int .i64 ((rd_T30 l0_0 x5_2).f3), .slice (some ad463) ((rd_T30 l0_0 x5_2).f4).length c451_4] 30 (0, 0))) := ⟨by refine bp ?_; refine blk_far ?_ NB452_466.out _; refine bp ?_; refine blk_far ?_ NB452_466.out _; refine bp ?_; refine blk_far ?_ NB452_466.out _; refine bp ?_; refine blk_far ?_ NB452_466.out _; refine bp ?_; refine blk_far ?_ NB452_466.out _; refine bp ?_; refine blk_far ?_ NB452_466.out _; refine bp ?_; refine blk_far ?_ NB452_466.out _; refine bp ?_; exact BK452.out⟩
                    have n4_ : Aside0 ((((((((w64.setCell ⟨gb466, 0, none⟩ (.int .i64 ((rd_T44 ((rd_T40 ((rd_T30 l0_0 x5_2).f4) ((rd_T42 x7_16 x13_4).f0)).f0) ((rd_T42 x7_16 x13_4).f1)).f0))).setCell ⟨gb466, 1, none⟩ (.int .i64 ((rd_T44 ((rd_T40 ((rd_T30 l0_0 x5_2).f4) ((rd_T42 x7_16 x13_4).f0)).f0) ((rd_T42 x7_16 x13_4).f1)).f1))).setCell ⟨gb466, 2, none⟩ (.int .i64 ((rd_T44 ((rd_T40 ((rd_T30 l0_0 x5_2).f4) ((rd_T42 x7_16 x13_4).f0)).f0) ((rd_T42 x7_16 x13_4).f1)).f2))).setCell ⟨gb466, 3, none⟩ (.int .i64 ((rd_T44 ((rd_T40 ((rd_T30 l0_0 x5_2).f4) ((rd_T42 x7_16 x13_4).f0)).f0) ((rd_T42 x7_16 x13_4).f1)).f3))).setCell ⟨gb466, 4, none⟩ (.int .i64 ((rd_T44 ((rd_T40 ((rd_T30 l0_0 x5_2).f4) ((rd_T42 x7_16 x13_4).f0)).f0) ((rd_T42 x7_16 x13_4).f1)).f4))).setCell ⟨gb466, 5, none⟩ (.int .i64 ((rd_T44 ((rd_T40 ((rd_T30 l0_0 x5_2).f4) ((rd_T42 x7_16 x13_4).f0)).f0) ((rd_T42 x7_16 x13_4).f1)).f5))).setCell ⟨gb466, 6, none⟩ (.slice A465_6 ((rd_T44 ((rd_T40 ((rd_T30 l0_0 x5_2).f4) ((rd_T42 x7_16 x13_4).f0)).f0) ((rd_T42 x7_16 x13_4).f1)).f6).length c465_6)).heap[gb466]? = some (.cells #[.int .i64 ((rd_T44 ((rd_T40 ((rd_T30 l0_0 x5_2).f4) ((rd_T42 x7_16 x13_4).f0)).f0) ((rd_T42 x7_16 x13_4).f1)).f0), .int .i64 ((rd_T44 ((rd_T40 ((rd_T30 l0_0 x5_2).f4) ((rd_T42 x7_16 x13_4).f0)).f0) ((rd_T42 x7_16 x13_4).f1)).f1), .int .i64 ((rd_T44 ((rd_T40 ((rd_T30 l0_0 x5_2).f4) ((rd_T42 x7_16 x13_4).f0)).f0) ((rd_T42 x7_16 x13_4).f1)).f2), .int .i64 ((rd_T44 ((rd_T40 ((rd_T30 l0_0 x5_2).f4) ((rd_T42 x7_16 x13_4).f0)).f0) ((rd_T42 x7_16 x13_4).f1)).f3), .int .i64 ((rd_T44 ((rd_T40 ((rd_T30 l0_0 x5_2).f4) ((rd_T42 x7_16 x13_4).f0)).f0) ((rd_T42 x7_16 x13_4).f1)).f4), .int .i64 ((rd_T44 ((rd_T40 ((rd_T30 l0_0 x5_2).f4) ((rd_T42 x7_16 x13_4).f0)).f0) ((rd_T42 x7_16 x13_4).f1)).f5), .slice A465_6 ((rd_T44 ((rd_T40 ((rd_T30 l0_0 x5_2).f4) ((rd_T42 x7_16 x13_4).f0)).f0) ((rd_T42 x7_16 x13_4).f1)).f6).length c465_6] 44 (0, 0))) := ⟨by refine bp ?_; refine blk_put (cs := #[.int .i64 ((rd_T44 ((rd_T40 ((rd_T30 l0_0 x5_2).f4) ((rd_T42 x7_16 x13_4).f0)).f0) ((rd_T42 x7_16 x13_4).f1)).f0), .int .i64 ((rd_T44 ((rd_T40 ((rd_T30 l0_0 x5_2).f4) ((rd_T42 x7_16 x13_4).f0)).f0) ((rd_T42 x7_16 x13_4).f1)).f1), .int .i64 ((rd_T44 ((rd_T40 ((rd_T30 l0_0 x5_2).f4) ((rd_T42 x7_16 x13_4).f0)).f0) ((rd_T42 x7_16 x13_4).f1)).f2), .int .i64 ((rd_T44 ((rd_T40 ((rd_T30 l0_0 x5_2).f4) ((rd_T42 x7_16 x13_4).f0)).f0) ((rd_T42 x7_16 x13_4).f1)).f3), .int .i64 ((rd_T44 ((rd_T40 ((rd_T30 l0_0 x5_2).f4) ((rd_T42 x7_16 x13_4).f0)).f0) ((rd_T42 x7_16 x13_4).f1)).f4), .int .i64 ((rd_T44 ((rd_T40 ((rd_T30 l0_0 x5_2).f4) ((rd_T42 x7_16 x13_4).f0)).f0) ((rd_T42 x7_16 x13_4).f1)).f5), .slice none 0 0]) ?_ 6 _ rfl; refine bp ?_; refine blk_put (cs := #[.int .i64 ((rd_T44 ((rd_T40 ((rd_T30 l0_0 x5_2).f4) ((rd_T42 x7_16 x13_4).f0)).f0) ((rd_T42 x7_16 x13_4).f1)).f0), .int .i64 ((rd_T44 ((rd_T40 ((rd_T30 l0_0 x5_2).f4) ((rd_T42 x7_16 x13_4).f0)).f0) ((rd_T42 x7_16 x13_4).f1)).f1), .int .i64 ((rd_T44 ((rd_T40 ((rd_T30 l0_0 x5_2).f4) ((rd_T42 x7_16 x13_4).f0)).f0) ((rd_T42 x7_16 x13_4).f1)).f2), .int .i64 ((rd_T44 ((rd_T40 ((rd_T30 l0_0 x5_2).f4) ((rd_T42 x7_16 x13_4).f0)).f0) ((rd_T42 x7_16 x13_4).f1)).f3), .int .i64 ((rd_T44 ((rd_T40 ((rd_T30 l0_0 x5_2).f4) ((rd_T42 x7_16 x13_4).f0)).f0) ((rd_T42 x7_16 x13_4).f1)).f4), .int .i64 0, .slice none 0 0]) ?_ 5 _ rfl; refine bp ?_; refine blk_put (cs := #[.int .i64 ((rd_T44 ((rd_T40 ((rd_T30 l0_0 x5_2).f4) ((rd_T42 x7_16 x13_4).f0)).f0) ((rd_T42 x7_16 x13_4).f1)).f0), .int .i64 ((rd_T44 ((rd_T40 ((rd_T30 l0_0 x5_2).f4) ((rd_T42 x7_16 x13_4).f0)).f0) ((rd_T42 x7_16 x13_4).f1)).f1), .int .i64 ((rd_T44 ((rd_T40 ((rd_T30 l0_0 x5_2).f4) ((rd_T42 x7_16 x13_4).f0)).f0) ((rd_T42 x7_16 x13_4).f1)).f2), .int .i64 ((rd_T44 ((rd_T40 ((rd_T30 l0_0 x5_2).f4) ((rd_T42 x7_16 x13_4).f0)).f0) ((rd_T42 x7_16 x13_4).f1)).f3), .int .i64 0, .int .i64 0, .slice none 0 0]) ?_ 4 _ rfl; refine bp ?_; refine blk_put (cs := #[.int .i64 ((rd_T44 ((rd_T40 ((rd_T30 l0_0 x5_2).f4) ((rd_T42 x7_16 x13_4).f0)).f0) ((rd_T42 x7_16 x13_4).f1)).f0), .int .i64 ((rd_T44 ((rd_T40 ((rd_T30 l0_0 x5_2).f4) ((rd_T42 x7_16 x13_4).f0)).f0) ((rd_T42 x7_16 x13_4).f1)).f1), .int .i64 ((rd_T44 ((rd_T40 ((rd_T30 l0_0 x5_2).f4) ((rd_T42 x7_16 x13_4).f0)).f0) ((rd_T42 x7_16 x13_4).f1)).f2), .int .i64 0, .int .i64 0, .int .i64 0, .slice none 0 0]) ?_ 3 _ rfl; refine bp ?_; refine blk_put (cs := #[.int .i64 ((rd_T44 ((rd_T40 ((rd_T30 l0_0 x5_2).f4) ((rd_T42 x7_16 x13_4).f0)).f0) ((rd_T42 x7_16 x13_4).f1)).f0), .int .i64 ((rd_T44 ((rd_T40 ((rd_T30 l0_0 x5_2).f4) ((rd_T42 x7_16 x13_4).f0)).f0) ((rd_T42 x7_16 x13_4).f1)).f1), .int .i64 0, .int .i64 0, .int .i64 0, .int .i64 0, .slice none 0 0]) ?_ 2 _ rfl; refine bp ?_; refine blk_put (cs := #[.int .i64 ((rd_T44 ((rd_T40 ((rd_T30 l0_0 x5_2).f4) ((rd_T42 x7_16 x13_4).f0)).f0) ((rd_T42 x7_16 x13_4).f1)).f0), .int .i64 0, .int .i64 0, .int .i64 0, .int .i64 0, .int .i64 0, .slice none 0 0]) ?_ 1 _ rfl; refine bp ?_; refine blk_put (cs := #[.int .i64 0, .int .i64 0, .int .i64 0, .int .i64 0, .int .i64 0, .int .i64 0, .slice none 0 0]) ?_ 0 _ rfl; refine bp ?_; exact BK466.out⟩
                    have n5_ : Aside0 (Below w.heap.size w (((((((w64.setCell ⟨gb466, 0, none⟩ (.int .i64 ((rd_T44 ((rd_T40 ((rd_T30 l0_0 x5_2).f4) ((rd_T42 x7_16 x13_4).f0)).f0) ((rd_T42 x7_16 x13_4).f1)).f0))).setCell ⟨gb466, 1, none⟩ (.int .i64 ((rd_T44 ((rd_T40 ((rd_T30 l0_0 x5_2).f4) ((rd_T42 x7_16 x13_4).f0)).f0) ((rd_T42 x7_16 x13_4).f1)).f1))).setCell ⟨gb466, 2, none⟩ (.int .i64 ((rd_T44 ((rd_T40 ((rd_T30 l0_0 x5_2).f4) ((rd_T42 x7_16 x13_4).f0)).f0) ((rd_T42 x7_16 x13_4).f1)).f2))).setCell ⟨gb466, 3, none⟩ (.int .i64 ((rd_T44 ((rd_T40 ((rd_T30 l0_0 x5_2).f4) ((rd_T42 x7_16 x13_4).f0)).f0) ((rd_T42 x7_16 x13_4).f1)).f3))).setCell ⟨gb466, 4, none⟩ (.int .i64 ((rd_T44 ((rd_T40 ((rd_T30 l0_0 x5_2).f4) ((rd_T42 x7_16 x13_4).f0)).f0) ((rd_T42 x7_16 x13_4).f1)).f4))).setCell ⟨gb466, 5, none⟩ (.int .i64 ((rd_T44 ((rd_T40 ((rd_T30 l0_0 x5_2).f4) ((rd_T42 x7_16 x13_4).f0)).f0) ((rd_T42 x7_16 x13_4).f1)).f5))).setCell ⟨gb466, 6, none⟩ (.slice A465_6 ((rd_T44 ((rd_T40 ((rd_T30 l0_0 x5_2).f4) ((rd_T42 x7_16 x13_4).f0)).f0) ((rd_T42 x7_16 x13_4).f1)).f6).length c465_6))) := ⟨bl HB⟩
                    (try clear HO_7)
                    (try clear HO_12)
                    (try clear BK448)
                    (try clear BK452)
                    (try clear BK466)
                    (try clear HB)
                    generalize (((((((w64.setCell ⟨gb466, 0, none⟩ (.int .i64 ((rd_T44 ((rd_T40 ((rd_T30 l0_0 x5_2).f4) ((rd_T42 x7_16 x13_4).f0)).f0) ((rd_T42 x7_16 x13_4).f1)).f0))).setCell ⟨gb466, 1, none⟩ (.int .i64 ((rd_T44 ((rd_T40 ((rd_T30 l0_0 x5_2).f4) ((rd_T42 x7_16 x13_4).f0)).f0) ((rd_T42 x7_16 x13_4).f1)).f1))).setCell ⟨gb466, 2, none⟩ (.int .i64 ((rd_T44 ((rd_T40 ((rd_T30 l0_0 x5_2).f4) ((rd_T42 x7_16 x13_4).f0)).f0) ((rd_T42 x7_16 x13_4).f1)).f2))).setCell ⟨gb466, 3, none⟩ (.int .i64 ((rd_T44 ((rd_T40 ((rd_T30 l0_0 x5_2).f4) ((rd_T42 x7_16 x13_4).f0)).f0) ((rd_T42 x7_16 x13_4).f1)).f3))).setCell ⟨gb466, 4, none⟩ (.int .i64 ((rd_T44 ((rd_T40 ((rd_T30 l0_0 x5_2).f4) ((rd_T42 x7_16 x13_4).f0)).f0) ((rd_T42 x7_16 x13_4).f1)).f4))).setCell ⟨gb466, 5, none⟩ (.int .i64 ((rd_T44 ((rd_T40 ((rd_T30 l0_0 x5_2).f4) ((rd_T42 x7_16 x13_4).f0)).f0) ((rd_T42 x7_16 x13_4).f1)).f5))).setCell ⟨gb466, 6, none⟩ (.slice A465_6 ((rd_T44 ((rd_T40 ((rd_T30 l0_0 x5_2).f4) ((rd_T42 x7_16 x13_4).f0)).f0) ((rd_T42 x7_16 x13_4).f1)).f6).length c465_6)) = w72 at n0_ n1_ n2_ n3_ n4_ n5_ ⊢
                    have HO_7 := n0_
                    have HO_12 := n1_
                    have BK448 := n2_
                    have BK452 := n3_
                    have BK466 := n4_
                    have HB := n5_
                    clear n0_ n1_ n2_ n3_ n4_ n5_
                    replace HO_7 := Aside0.mk (Kd.R_drew HO_7.out); replace HO_12 := Aside0.mk (Kd.R_drew HO_12.out); replace BK448 := Aside0.mk (blk_drew BK448.out); replace BK452 := Aside0.mk (blk_drew BK452.out); replace BK466 := Aside0.mk (blk_drew BK466.out); replace HB := Aside0.mk (below_drew1 HB.out)
                    have p467 : 0 ≤ (x13_4 : Int) := of_decide_eq_true (by assumption)
                    have q467 : x13_4 < (x7_16.length : Int) := of_decide_eq_true (by assumption)
                    obtain ⟨ad467, e467, hx467_0, hx467_1⟩ := at_T42 (Kd.R_reads' HO_7.out).2.2 x13_4 p467 q467
                    obtain rfl : ad462 = ad467 := (by injection e467)
                    replace p467 := eq_true p467
                    replace q467 := eq_true q467
                    have p468 : 0 ≤ (x13_4 : Int) := of_decide_eq_true (by assumption)
                    have q468 : x13_4 < (x7_16.length : Int) := of_decide_eq_true (by assumption)
                    obtain ⟨ad468, e468, hx468_0, hx468_1⟩ := at_T42 (Kd.R_reads' HO_7.out).2.2 x13_4 p468 q468
                    obtain rfl : ad462 = ad468 := (by injection e468)
                    replace p468 := eq_true p468
                    replace q468 := eq_true q468
                    refine start_ (n := 15) (S := fun w' => w'.cell? ⟨gb452, 0, none⟩ = some (.slice A451_0 ((rd_T30 l0_0 x5_2).f0).length c451_0) ∧ w'.cell? ⟨gb452, 1, none⟩ = some (.slice A451_1 ((rd_T30 l0_0 x5_2).f1).length c451_1) ∧ w'.cell? ⟨gb452, 2, none⟩ = some (.int .i64 ((rd_T30 l0_0 x5_2).f2)) ∧ w'.cell? ⟨gb452, 3, none⟩ = some (.int .i64 ((rd_T30 l0_0 x5_2).f3)) ∧ w'.cell? ⟨gb452, 4, none⟩ = some (.slice (some ad463) ((rd_T30 l0_0 x5_2).f4).length c451_4) ∧ w'.cell? (ad462.add ((x13_4).toNat * 2)) = some (.int .i64 ((rd_T42 x7_16 x13_4).f0)) ∧ w'.cell? ⟨(ad462.add ((x13_4).toNat * 2)).block, (ad462.add ((x13_4).toNat * 2)).off + 1, none⟩ = some (.int .i64 ((rd_T42 x7_16 x13_4).f1)) ∧ w'.cell? (ad462.add ((x13_4).toNat * 2)) = some (.int .i64 ((rd_T42 x7_16 x13_4).f0)) ∧ w'.cell? ⟨(ad462.add ((x13_4).toNat * 2)).block, (ad462.add ((x13_4).toNat * 2)).off + 1, none⟩ = some (.int .i64 ((rd_T42 x7_16 x13_4).f1))) (ds := []) #[false, false, false, false, false, false, false, false, false, false, false, false, false, false, false] (by kernel_rfl) rfl rfl ⟨(blk_cell BK452.out 0).trans rfl, (blk_cell BK452.out 1).trans rfl, (blk_cell BK452.out 2).trans rfl, (blk_cell BK452.out 3).trans rfl, (blk_cell BK452.out 4).trans rfl, hx467_0, hx467_1, hx468_0, hx468_1⟩ (fun hHeld => ?_); refine with_tabW portolanlaw11_LiveWays.tab26 portolanlaw11_LiveWays.bits26 (fun HT_ HW_ => ?_)
                    generalize w72.drew = w73 at HO_7 HO_12 BK448 BK452 BK466 HB hx467_0 hx467_1 hx468_0 hx468_1 hHeld ⊢
                    refine pure_ (i := 1) (N := some 109) (v := ?_) (a' := ?_) #[false, true, false, false, false, false, false, false, false, false, false, false, false, false, false] rfl rfl (any_of HT_.out (by kernel_rfl)) (fun _ _ _ h => h) (Or.inl ⟨by rfl, ?_⟩) ?_ ?_
                    rotate_left
                    ·
                     intro w'
                     go_simp
                     with_reducible rfl
                    rotate_left
                    ·
                     simp only [Act.put, List.setIfInBounds_toArray, List.set_cons_zero, List.set_cons_succ, i64_w, i32_w]
                     rfl
                    refine pure_ (i := 2) (N := some 110) (v := ?_) (a' := ?_) #[false, true, true, false, false, false, false, false, false, false, false, false, false, false, false] rfl rfl (any_of HT_.out (by kernel_rfl)) (fun _ _ _ h => h) (Or.inl ⟨by rfl, ?_⟩) ?_ ?_
                    rotate_left
                    ·
                     intro w'
                     go_simp
                     with_reducible rfl
                    rotate_left
                    ·
                     simp only [Act.put, List.setIfInBounds_toArray, List.set_cons_zero, List.set_cons_succ, i64_w, i32_w]
                     rfl
                    refine pure_ (i := 3) (N := some 111) (v := ?_) (a' := ?_) #[false, true, true, true, false, false, false, false, false, false, false, false, false, false, false] rfl rfl (any_of HT_.out (by kernel_rfl)) (fun _ _ _ h => h) (Or.inl ⟨by rfl, ?_⟩) ?_ ?_
                    rotate_left
                    ·
                     intro w'
                     go_simp
                     with_reducible rfl
                    rotate_left
                    ·
                     simp only [Act.put, List.setIfInBounds_toArray, List.set_cons_zero, List.set_cons_succ, i64_w, i32_w]
                     rfl
                    refine pure_ (i := 4) (N := some 112) (v := ?_) (a' := ?_) #[false, true, true, true, true, false, false, false, false, false, false, false, false, false, false] rfl rfl (any_of HT_.out (by kernel_rfl)) (fun _ _ _ h => h) (Or.inl ⟨by rfl, ?_⟩) ?_ ?_
                    rotate_left
                    ·
                     intro w'
                     go_simp
                     with_reducible rfl
                    rotate_left
                    ·
                     simp only [Act.put, List.setIfInBounds_toArray, List.set_cons_zero, List.set_cons_succ, i64_w, i32_w]
                     rfl
                    refine pure_ (i := 6) (N := some 114) (v := ?_) (a' := ?_) #[false, true, true, true, true, false, true, false, false, false, false, false, false, false, false] rfl rfl (any_of HT_.out (by kernel_rfl)) (fun _ _ _ h => h) (Or.inl ⟨by rfl, ?_⟩) ?_ ?_
                    rotate_left
                    ·
                     intro w'
                     go_simp
                     with_reducible rfl
                    rotate_left
                    ·
                     simp only [Act.put, List.setIfInBounds_toArray, List.set_cons_zero, List.set_cons_succ, i64_w, i32_w]
                     rfl
                    refine pure_ (i := 7) (N := some 115) (v := ?_) (a' := ?_) #[false, true, true, true, true, false, true, true, false, false, false, false, false, false, false] rfl rfl (any_of HT_.out (by kernel_rfl)) (fun _ _ _ h => h) (Or.inl ⟨by rfl, ?_⟩) ?_ ?_
                    rotate_left
                    ·
                     intro w'
                     go_simp
                     with_reducible rfl
                    rotate_left
                    ·
                     simp only [Act.put, List.setIfInBounds_toArray, List.set_cons_zero, List.set_cons_succ, i64_w, i32_w]
                     rfl
                    refine pure_ (i := 8) (N := some 116) (v := ?_) (a' := ?_) #[false, true, true, true, true, false, true, true, true, false, false, false, false, false, false] rfl rfl (any_of HT_.out (by kernel_rfl)) (fun _ _ _ h => h) (Or.inl ⟨by rfl, ?_⟩) ?_ ?_
                    rotate_left
                    ·
                     intro w'
                     go_simp
                     with_reducible rfl
                    rotate_left
                    ·
                     simp only [Act.put, List.setIfInBounds_toArray, List.set_cons_zero, List.set_cons_succ, i64_w, i32_w]
                     rfl
                    refine pure_ (i := 9) (N := some 117) (v := ?_) (a' := ?_) #[false, true, true, true, true, false, true, true, true, true, false, false, false, false, false] rfl rfl (any_of HT_.out (by kernel_rfl)) (fun _ _ _ h => h) (Or.inl ⟨by rfl, ?_⟩) ?_ ?_
                    rotate_left
                    ·
                     intro w'
                     go_simp
                     with_reducible rfl
                    rotate_left
                    ·
                     simp only [Act.put, List.setIfInBounds_toArray, List.set_cons_zero, List.set_cons_succ, i64_w, i32_w]
                     rfl
                    refine pure_ (i := 12) (N := some 120) (v := ?_) (a' := ?_) #[false, true, true, true, true, false, true, true, true, true, false, false, true, false, false] rfl rfl (any_of HT_.out (by kernel_rfl)) (fun _ _ _ h => h) (Or.inl ⟨by rfl, ?_⟩) ?_ ?_
                    rotate_left
                    ·
                     intro w'
                     go_simp
                     with_reducible rfl
                    rotate_left
                    ·
                     simp only [Act.put, List.setIfInBounds_toArray, List.set_cons_zero, List.set_cons_succ, i64_w, i32_w]
                     rfl
                    refine take_ (i := 0) (N := some 108) (v := ?_) (a' := ?_) #[true, true, true, true, true, false, true, true, true, true, false, false, true, false, false] rfl rfl (take_ofW HT_.out HW_.out (by kernel_rfl)) (fun _ _ _ h => h) (Or.inl ⟨by rfl, ?_⟩) hHeld ?_ ?_
                    rotate_left
                    ·
                     rintro w' ⟨s0, s1, s2, s3, s4, s5, s6, s7, s8⟩
                     go_simp
                     with_reducible rfl
                    rotate_left
                    ·
                     simp only [Act.put, List.setIfInBounds_toArray, List.set_cons_zero, List.set_cons_succ, i64_w, i32_w]
                     rfl
                    refine take_ (i := 5) (N := some 113) (v := ?_) (a' := ?_) #[true, true, true, true, true, true, true, true, true, true, false, false, true, false, false] rfl rfl (take_ofW HT_.out HW_.out (by kernel_rfl)) (fun _ _ _ h => h) (Or.inl ⟨by rfl, ?_⟩) hHeld ?_ ?_
                    rotate_left
                    ·
                     rintro w' ⟨s0, s1, s2, s3, s4, s5, s6, s7, s8⟩
                     go_simp
                     with_reducible rfl
                    rotate_left
                    ·
                     simp only [Act.put, List.setIfInBounds_toArray, List.set_cons_zero, List.set_cons_succ, i64_w, i32_w]
                     rfl
                    refine take_ (i := 10) (N := some 118) (v := ?_) (a' := ?_) #[true, true, true, true, true, true, true, true, true, true, true, false, true, false, false] rfl rfl (take_ofW HT_.out HW_.out (by kernel_rfl)) (fun _ _ _ h => h) (Or.inl ⟨by rfl, ?_⟩) hHeld ?_ ?_
                    rotate_left
                    ·
                     rintro w' ⟨s0, s1, s2, s3, s4, s5, s6, s7, s8⟩
                     go_simp
                     with_reducible rfl
                    rotate_left
                    ·
                     simp only [Act.put, List.setIfInBounds_toArray, List.set_cons_zero, List.set_cons_succ, i64_w, i32_w]
                     rfl
                    refine one_ (i := 11) (N := some 119) #[true, true, true, true, true, true, true, true, true, true, true, true, true, false, false] rfl rfl (one_of HT_.out (by kernel_rfl)) (by decide) (fun K hK => ?_)
                    refine goes_ Tryd.func15 (by kernel_rfl) rfl #[.agg #[.slice A451_0 ((rd_T30 l0_0 x5_2).f0).length c451_0, .slice A451_1 ((rd_T30 l0_0 x5_2).f1).length c451_1, .int .i64 ((rd_T30 l0_0 x5_2).f2), .int .i64 ((rd_T30 l0_0 x5_2).f3), .slice (some ad463) ((rd_T30 l0_0 x5_2).f4).length c451_4], .int .i64 ((rd_T42 x7_16 x13_4).f0), .int .i64 ((rd_T42 x7_16 x13_4).f1)] (by rfl) rfl rfl (by (try simp only [List.map_toArray, List.map_cons, List.map_nil]); first | done | rfl) ?_
                    with_reducible refine (live_Behind.calls k4 _ _ ((rd_T30 l0_0 x5_2).f0) _ _ ((rd_T30 l0_0 x5_2).f1) ((rd_T30 l0_0 x5_2).f2) ((rd_T30 l0_0 x5_2).f3) _ _ ((rd_T30 l0_0 x5_2).f4) ((rd_T42 x7_16 x13_4).f0) ((rd_T42 x7_16 x13_4).f1) t469 _ ?side7 ?side1 ?side2 ?side3 ?side4 ?side5 ?side6 A58.out).mono ?_
                    (case side1 => exact Kd.Cx (Kd.C_below HR451_0.out HB.out))
                    (case side2 => exact HC451_0.out)
                    (case side3 => exact Kd.Cx (Kd.C_below HR451_1.out HB.out))
                    (case side4 => exact HC451_1.out)
                    (case side5 => exact Kd.Cx (Kd.C_below HR451_4.out HB.out))
                    (case side6 => exact HC451_4.out)
                    (case side7 => exact GG_below HGG.out (bl HB))
                    rintro e w74 ⟨v470, rfl, ho0, hb⟩
                    have HS5_ := (hb.cell (World.block_lt_of_cell? _ _ (hHeld.2.2.2.2.2.1))).trans (hHeld.2.2.2.2.2.1)
                    have HS6_ := (hb.cell (World.block_lt_of_cell? _ _ (hHeld.2.2.2.2.2.2.1))).trans (hHeld.2.2.2.2.2.2.1)
                    have HS7_ := (hb.cell (World.block_lt_of_cell? _ _ (hHeld.2.2.2.2.2.2.2.1))).trans (hHeld.2.2.2.2.2.2.2.1)
                    have HS8_ := (hb.cell (World.block_lt_of_cell? _ _ (hHeld.2.2.2.2.2.2.2.2))).trans (hHeld.2.2.2.2.2.2.2.2)
                    refine ⟨_, rfl, ?_⟩
                    have HO471 := Aside0.mk (Kd.V_lower (Kd.V_mono (ok' := fun k_ => some k_ ≠ (.slice (some ad462) x7_16.length co50 : Value).ownBlock ∧ some k_ ≠ (u12 : Value).ownBlock ∧ k_ ≠ gb448 ∧ k_ ≠ gb452 ∧ k_ ≠ gb466) ho0 (fun k_ hk_ => ⟨(Kd.fresh' (Kd.R_lt (Kd.Rx HO_7.out)) k_ hk_), (Kd.fresh' (Kd.R_lt (Kd.Rx HO_12.out)) k_ hk_), (Kd.freshB (g := gb448) (o := .cells #[.slice (some ad451) l0_0.length c0_0] 24 (0, 0)) (bx BK448.out) k_ hk_), (Kd.freshB (g := gb452) (o := .cells #[.slice A451_0 ((rd_T30 l0_0 x5_2).f0).length c451_0, .slice A451_1 ((rd_T30 l0_0 x5_2).f1).length c451_1, .int .i64 ((rd_T30 l0_0 x5_2).f2), .int .i64 ((rd_T30 l0_0 x5_2).f3), .slice (some ad463) ((rd_T30 l0_0 x5_2).f4).length c451_4] 30 (0, 0)) (bx BK452.out) k_ hk_), (Kd.freshB (g := gb466) (o := .cells #[.int .i64 ((rd_T44 ((rd_T40 ((rd_T30 l0_0 x5_2).f4) ((rd_T42 x7_16 x13_4).f0)).f0) ((rd_T42 x7_16 x13_4).f1)).f0), .int .i64 ((rd_T44 ((rd_T40 ((rd_T30 l0_0 x5_2).f4) ((rd_T42 x7_16 x13_4).f0)).f0) ((rd_T42 x7_16 x13_4).f1)).f1), .int .i64 ((rd_T44 ((rd_T40 ((rd_T30 l0_0 x5_2).f4) ((rd_T42 x7_16 x13_4).f0)).f0) ((rd_T42 x7_16 x13_4).f1)).f2), .int .i64 ((rd_T44 ((rd_T40 ((rd_T30 l0_0 x5_2).f4) ((rd_T42 x7_16 x13_4).f0)).f0) ((rd_T42 x7_16 x13_4).f1)).f3), .int .i64 ((rd_T44 ((rd_T40 ((rd_T30 l0_0 x5_2).f4) ((rd_T42 x7_16 x13_4).f0)).f0) ((rd_T42 x7_16 x13_4).f1)).f4), .int .i64 ((rd_T44 ((rd_T40 ((rd_T30 l0_0 x5_2).f4) ((rd_T42 x7_16 x13_4).f0)).f0) ((rd_T42 x7_16 x13_4).f1)).f5), .slice A465_6 ((rd_T44 ((rd_T40 ((rd_T30 l0_0 x5_2).f4) ((rd_T42 x7_16 x13_4).f0)).f0) ((rd_T42 x7_16 x13_4).f1)).f6).length c465_6] 44 (0, 0)) (bx BK466.out) k_ hk_)⟩)) (below_size (bl HB))); replace HO_7 := Aside0.mk (Kd.R_below (Kd.Rx HO_7.out) hb); replace HO_12 := Aside0.mk (Kd.R_below (Kd.Rx HO_12.out) hb); replace BK448 := Aside0.mk (blk_below (bx BK448.out) hb); replace BK452 := Aside0.mk (blk_below (bx BK452.out) hb); replace BK466 := Aside0.mk (blk_below (bx BK466.out) hb); replace HB := Aside0.mk (below_step (bl HB) hb)
                    (try clear hb)
                    (try clear hb2)
                    (try clear hk)
                    (try clear hi)
                    (try clear ho0)
                    obtain ⟨Ao75, co75, eo75⟩ := Kd.V_slice HO471.out
                    (first | subst eo75 | (injection eo75 with f1_ f2_ f3_; have f4_ := f1_.symm; have f5_ := f3_.symm; clear f1_ f2_ f3_; subst f4_; subst f5_))
                    obtain ⟨Ao76, co76, eo76⟩ := Kd.R_slice HO_12.out
                    (first | subst eo76 | (injection eo76 with f1_ f2_ f3_; have f4_ := f1_.symm; have f5_ := f3_.symm; clear f1_ f2_ f3_; subst f4_; subst f5_))
                    refine hK.out _ _ ⟨(blk_cell BK452.out 0).trans rfl, (blk_cell BK452.out 1).trans rfl, (blk_cell BK452.out 2).trans rfl, (blk_cell BK452.out 3).trans rfl, (blk_cell BK452.out 4).trans rfl, HS5_, HS6_, HS7_, HS8_⟩ (fun hHeld => ?_)
                    clear hK K
                    refine norm_ (a' := ?_) ?_ ?_
                    rotate_left
                    ·
                     show Act.put _ (some 119) _ = _
                     simp only [Act.put, List.setIfInBounds_toArray, List.set_cons_zero, List.set_cons_succ, i64_w, i32_w]
                     rfl
                    refine one_ (i := 13) (N := some 121) #[true, true, true, true, true, true, true, true, true, true, true, true, true, true, false] rfl rfl (one_of HT_.out (by kernel_rfl)) (by decide) (fun K hK => ?_)
                    refine goes_ Tryd.func14 (by kernel_rfl) rfl #[.slice Ao75 t469.length co75, .slice Ao76 x12_4.length co76] (by rfl) rfl rfl (by (try simp only [List.map_toArray, List.map_cons, List.map_nil]); first | done | rfl) ?_
                    with_reducible refine (bitset_Holds.calls _ _ t469 _ _ x12_4 true _ ?side1 ?side2 ?side3 ?side4 A59.out).mono ?_
                    (case side1 => exact Kd.Cx ((Kd.V_reads' HO471.out).2.2))
                    (case side2 => exact (Kd.V_reads' HO471.out).2.1)
                    (case side3 => exact Kd.Cx ((Kd.R_reads' HO_12.out).2.2))
                    (case side4 => exact (Kd.R_reads' HO_12.out).2.1)
                    rintro e w77 ⟨rfl, hb⟩
                    have HS5_ := (hb.cell (World.block_lt_of_cell? _ _ (hHeld.2.2.2.2.2.1))).trans (hHeld.2.2.2.2.2.1)
                    have HS6_ := (hb.cell (World.block_lt_of_cell? _ _ (hHeld.2.2.2.2.2.2.1))).trans (hHeld.2.2.2.2.2.2.1)
                    have HS7_ := (hb.cell (World.block_lt_of_cell? _ _ (hHeld.2.2.2.2.2.2.2.1))).trans (hHeld.2.2.2.2.2.2.2.1)
                    have HS8_ := (hb.cell (World.block_lt_of_cell? _ _ (hHeld.2.2.2.2.2.2.2.2))).trans (hHeld.2.2.2.2.2.2.2.2)
                    refine ⟨_, rfl, ?_⟩
                    replace HO_7 := Aside0.mk (Kd.R_below (Kd.Rx HO_7.out) hb); replace HO_12 := Aside0.mk (Kd.R_below (Kd.Rx HO_12.out) hb); replace HO471 := Aside0.mk (Kd.V_below (Kd.Vx HO471.out) hb); replace BK448 := Aside0.mk (blk_below (bx BK448.out) hb); replace BK452 := Aside0.mk (blk_below (bx BK452.out) hb); replace BK466 := Aside0.mk (blk_below (bx BK466.out) hb); replace HB := Aside0.mk (below_step (bl HB) hb)
                    (try clear hb)
                    (try clear hb2)
                    (try clear hk)
                    (try clear hi)
                    refine hK.out _ _ ⟨(blk_cell BK452.out 0).trans rfl, (blk_cell BK452.out 1).trans rfl, (blk_cell BK452.out 2).trans rfl, (blk_cell BK452.out 3).trans rfl, (blk_cell BK452.out 4).trans rfl, HS5_, HS6_, HS7_, HS8_⟩ (fun hHeld => ?_)
                    clear hK K
                    refine norm_ (a' := ?_) ?_ ?_
                    rotate_left
                    ·
                     show Act.put _ (some 121) _ = _
                     simp only [Act.put, List.setIfInBounds_toArray, List.set_cons_zero, List.set_cons_succ, i64_w, i32_w]
                     rfl
                    refine pure_ (i := 14) (N := some 122) (v := ?_) (a' := ?_) #[true, true, true, true, true, true, true, true, true, true, true, true, true, true, true] rfl rfl (any_of HT_.out (by kernel_rfl)) (fun _ _ _ h => h) (Or.inl ⟨by rfl, ?_⟩) ?_ ?_
                    rotate_left
                    ·
                     intro w'
                     go_simp
                     with_reducible rfl
                    rotate_left
                    ·
                     simp only [Act.put, List.setIfInBounds_toArray, List.set_cons_zero, List.set_cons_succ, i64_w, i32_w]
                     rfl
                    refine done_ (done_of HT_.out (by kernel_rfl)) ?_
                    have hnb78 := NB466_448.out
                    have hnc78 := NB448_466.out
                    have hnb79 := NB466_452.out
                    have hnc79 := NB452_466.out
                    obtain ⟨hcz80_0, hcz80_1, hcz80_2, hcz80_3, hcz80_4, hcz80_5, hcz80_6⟩ := bk7 BK466.out
                    have hfz80_0 := bf BK466.out
                    go_upto_if 128 with (first | ((with_reducible refine gate_callee (f := 16) rfl ?_); refine goesL_ (some 125) rfl rfl Tryd.func16 (by kernel_rfl) rfl #[.agg #[.int .i64 ((rd_T44 ((rd_T40 ((rd_T30 l0_0 x5_2).f4) ((rd_T42 x7_16 x13_4).f0)).f0) ((rd_T42 x7_16 x13_4).f1)).f0), .int .i64 ((rd_T44 ((rd_T40 ((rd_T30 l0_0 x5_2).f4) ((rd_T42 x7_16 x13_4).f0)).f0) ((rd_T42 x7_16 x13_4).f1)).f1), .int .i64 ((rd_T44 ((rd_T40 ((rd_T30 l0_0 x5_2).f4) ((rd_T42 x7_16 x13_4).f0)).f0) ((rd_T42 x7_16 x13_4).f1)).f2), .int .i64 ((rd_T44 ((rd_T40 ((rd_T30 l0_0 x5_2).f4) ((rd_T42 x7_16 x13_4).f0)).f0) ((rd_T42 x7_16 x13_4).f1)).f3), .int .i64 ((rd_T44 ((rd_T40 ((rd_T30 l0_0 x5_2).f4) ((rd_T42 x7_16 x13_4).f0)).f0) ((rd_T42 x7_16 x13_4).f1)).f4), .int .i64 ((rd_T44 ((rd_T40 ((rd_T30 l0_0 x5_2).f4) ((rd_T42 x7_16 x13_4).f0)).f0) ((rd_T42 x7_16 x13_4).f1)).f5), .slice A465_6 ((rd_T44 ((rd_T40 ((rd_T30 l0_0 x5_2).f4) ((rd_T42 x7_16 x13_4).f0)).f0) ((rd_T42 x7_16 x13_4).f1)).f6).length c465_6]] rfl (by (try simp only [List.map_toArray, List.map_cons, List.map_nil]); first | done | rfl) ?_; (with_reducible refine (portolanref04_Sets.calls ((rd_T44 ((rd_T40 ((rd_T30 l0_0 x5_2).f4) ((rd_T42 x7_16 x13_4).f0)).f0) ((rd_T42 x7_16 x13_4).f1)).f0) ((rd_T44 ((rd_T40 ((rd_T30 l0_0 x5_2).f4) ((rd_T42 x7_16 x13_4).f0)).f0) ((rd_T42 x7_16 x13_4).f1)).f1) ((rd_T44 ((rd_T40 ((rd_T30 l0_0 x5_2).f4) ((rd_T42 x7_16 x13_4).f0)).f0) ((rd_T42 x7_16 x13_4).f1)).f2) ((rd_T44 ((rd_T40 ((rd_T30 l0_0 x5_2).f4) ((rd_T42 x7_16 x13_4).f0)).f0) ((rd_T42 x7_16 x13_4).f1)).f3) ((rd_T44 ((rd_T40 ((rd_T30 l0_0 x5_2).f4) ((rd_T42 x7_16 x13_4).f0)).f0) ((rd_T42 x7_16 x13_4).f1)).f4) ((rd_T44 ((rd_T40 ((rd_T30 l0_0 x5_2).f4) ((rd_T42 x7_16 x13_4).f0)).f0) ((rd_T42 x7_16 x13_4).f1)).f5) _ _ ((rd_T44 ((rd_T40 ((rd_T30 l0_0 x5_2).f4) ((rd_T42 x7_16 x13_4).f0)).f0) ((rd_T42 x7_16 x13_4).f1)).f6) t473 t474 _ ?side1 ?side2 A61.out).mono ?_); (case side1 => exact Kd.Cx (Kd.C_below HR465_6.out HB.out)); (case side2 => exact HC465_6.out); rintro e w81 ⟨rfl, hb⟩; refine ⟨_, rfl, ?_⟩; replace HO_7 := Aside0.mk (Kd.R_below (Kd.Rx HO_7.out) hb); replace HO_12 := Aside0.mk (Kd.R_below (Kd.Rx HO_12.out) hb); replace HO471 := Aside0.mk (Kd.V_below (Kd.Vx HO471.out) hb); replace BK448 := Aside0.mk (blk_below (bx BK448.out) hb); replace BK452 := Aside0.mk (blk_below (bx BK452.out) hb); replace BK466 := Aside0.mk (blk_below (bx BK466.out) hb); replace HB := Aside0.mk (below_step (bl HB) hb); (try clear hb); (try clear hb2); (try clear hk); (try clear hi)))
                    (try simp only [Act.put, List.setIfInBounds_toArray, List.set_cons_zero, List.set_cons_succ])
                    go_cut [12] (fun v12 wc => ∃ (kq : Nat) (x12_61 : List Int), Aside0 (portolanlaw11_LiveWays.j6 kq l1 x5_2 x7_16 x12_61 x13_4 l0_0 ((rd_T30 l0_0 x5_2).f0) ((rd_T30 l0_0 x5_2).f1) ((rd_T30 l0_0 x5_2).f2) ((rd_T30 l0_0 x5_2).f3) ((rd_T30 l0_0 x5_2).f4) ((rd_T44 ((rd_T40 ((rd_T30 l0_0 x5_2).f4) ((rd_T42 x7_16 x13_4).f0)).f0) ((rd_T42 x7_16 x13_4).f1)).f0) ((rd_T44 ((rd_T40 ((rd_T30 l0_0 x5_2).f4) ((rd_T42 x7_16 x13_4).f0)).f0) ((rd_T42 x7_16 x13_4).f1)).f1) ((rd_T44 ((rd_T40 ((rd_T30 l0_0 x5_2).f4) ((rd_T42 x7_16 x13_4).f0)).f0) ((rd_T42 x7_16 x13_4).f1)).f2) ((rd_T44 ((rd_T40 ((rd_T30 l0_0 x5_2).f4) ((rd_T42 x7_16 x13_4).f0)).f0) ((rd_T42 x7_16 x13_4).f1)).f3) ((rd_T44 ((rd_T40 ((rd_T30 l0_0 x5_2).f4) ((rd_T42 x7_16 x13_4).f0)).f0) ((rd_T42 x7_16 x13_4).f1)).f4) ((rd_T44 ((rd_T40 ((rd_T30 l0_0 x5_2).f4) ((rd_T42 x7_16 x13_4).f0)).f0) ((rd_T42 x7_16 x13_4).f1)).f5) ((rd_T44 ((rd_T40 ((rd_T30 l0_0 x5_2).f4) ((rd_T42 x7_16 x13_4).f0)).f0) ((rd_T42 x7_16 x13_4).f1)).f6) = some true) ∧ Aside0 (kq ≤ k4) ∧ Aside0 (Kd.R k42 42 wc w.heap.size (fun _ => True) (.slice (some ad462) x7_16.length co50) x7_16) ∧ Aside0 (Kd.R (Kd.int .u64) 67 wc w.heap.size (fun _ => True) v12 x12_61) ∧ Aside0 (wc.heap[gb448]? = some (.cells #[(.slice (some ad451) l0_0.length c0_0)] 24 (0, 0))) ∧ Aside0 (wc.heap[gb452]? = some (.cells #[(.slice A451_0 ((rd_T30 l0_0 x5_2).f0).length c451_0), (.slice A451_1 ((rd_T30 l0_0 x5_2).f1).length c451_1), .int .i64 ((rd_T30 l0_0 x5_2).f2), .int .i64 ((rd_T30 l0_0 x5_2).f3), (.slice (some ad463) ((rd_T30 l0_0 x5_2).f4).length c451_4)] 30 (0, 0))) ∧ Aside0 (wc.heap[gb466]? = some (.cells #[.int .i64 ((rd_T44 ((rd_T40 ((rd_T30 l0_0 x5_2).f4) ((rd_T42 x7_16 x13_4).f0)).f0) ((rd_T42 x7_16 x13_4).f1)).f0), .int .i64 ((rd_T44 ((rd_T40 ((rd_T30 l0_0 x5_2).f4) ((rd_T42 x7_16 x13_4).f0)).f0) ((rd_T42 x7_16 x13_4).f1)).f1), .int .i64 ((rd_T44 ((rd_T40 ((rd_T30 l0_0 x5_2).f4) ((rd_T42 x7_16 x13_4).f0)).f0) ((rd_T42 x7_16 x13_4).f1)).f2), .int .i64 ((rd_T44 ((rd_T40 ((rd_T30 l0_0 x5_2).f4) ((rd_T42 x7_16 x13_4).f0)).f0) ((rd_T42 x7_16 x13_4).f1)).f3), .int .i64 ((rd_T44 ((rd_T40 ((rd_T30 l0_0 x5_2).f4) ((rd_T42 x7_16 x13_4).f0)).f0) ((rd_T42 x7_16 x13_4).f1)).f4), .int .i64 ((rd_T44 ((rd_T40 ((rd_T30 l0_0 x5_2).f4) ((rd_T42 x7_16 x13_4).f0)).f0) ((rd_T42 x7_16 x13_4).f1)).f5), (.slice A465_6 ((rd_T44 ((rd_T40 ((rd_T30 l0_0 x5_2).f4) ((rd_T42 x7_16 x13_4).f0)).f0) ((rd_T42 x7_16 x13_4).f1)).f6).length c465_6)] 44 (0, 0))) ∧ Aside0 (Below w.heap.size w wc))
                    case first =>
                     have H := HC62.out
                     clear HC62
                     by_cases c82 : t474 = true
                     ·
                      subst c82
                      have H1 : ((portolanref02_Without.f k4 x12_4 (([t473] : List Int))).bind fun t478 => (portolanlaw11_LiveWays.j6 k4 l1 x5_2 x7_16 t478 x13_4 l0_0 ((rd_T30 l0_0 x5_2).f0) ((rd_T30 l0_0 x5_2).f1) ((rd_T30 l0_0 x5_2).f2) ((rd_T30 l0_0 x5_2).f3) ((rd_T30 l0_0 x5_2).f4) ((rd_T44 ((rd_T40 ((rd_T30 l0_0 x5_2).f4) ((rd_T42 x7_16 x13_4).f0)).f0) ((rd_T42 x7_16 x13_4).f1)).f0) ((rd_T44 ((rd_T40 ((rd_T30 l0_0 x5_2).f4) ((rd_T42 x7_16 x13_4).f0)).f0) ((rd_T42 x7_16 x13_4).f1)).f1) ((rd_T44 ((rd_T40 ((rd_T30 l0_0 x5_2).f4) ((rd_T42 x7_16 x13_4).f0)).f0) ((rd_T42 x7_16 x13_4).f1)).f2) ((rd_T44 ((rd_T40 ((rd_T30 l0_0 x5_2).f4) ((rd_T42 x7_16 x13_4).f0)).f0) ((rd_T42 x7_16 x13_4).f1)).f3) ((rd_T44 ((rd_T40 ((rd_T30 l0_0 x5_2).f4) ((rd_T42 x7_16 x13_4).f0)).f0) ((rd_T42 x7_16 x13_4).f1)).f4) ((rd_T44 ((rd_T40 ((rd_T30 l0_0 x5_2).f4) ((rd_T42 x7_16 x13_4).f0)).f0) ((rd_T42 x7_16 x13_4).f1)).f5) ((rd_T44 ((rd_T40 ((rd_T30 l0_0 x5_2).f4) ((rd_T42 x7_16 x13_4).f0)).f0) ((rd_T42 x7_16 x13_4).f1)).f6))) = some true := by rw [if_pos rfl] at H; exact H
                      clear H
                      have H := H1
                      clear H1
                      obtain ⟨y475, hy475⟩ : ∃ y_ : List Int, y_ = (([t473] : List Int)) := ⟨_, rfl⟩
                      replace H : ((portolanref02_Without.f k4 x12_4 y475).bind fun t478 => (portolanlaw11_LiveWays.j6 k4 l1 x5_2 x7_16 t478 x13_4 l0_0 ((rd_T30 l0_0 x5_2).f0) ((rd_T30 l0_0 x5_2).f1) ((rd_T30 l0_0 x5_2).f2) ((rd_T30 l0_0 x5_2).f3) ((rd_T30 l0_0 x5_2).f4) ((rd_T44 ((rd_T40 ((rd_T30 l0_0 x5_2).f4) ((rd_T42 x7_16 x13_4).f0)).f0) ((rd_T42 x7_16 x13_4).f1)).f0) ((rd_T44 ((rd_T40 ((rd_T30 l0_0 x5_2).f4) ((rd_T42 x7_16 x13_4).f0)).f0) ((rd_T42 x7_16 x13_4).f1)).f1) ((rd_T44 ((rd_T40 ((rd_T30 l0_0 x5_2).f4) ((rd_T42 x7_16 x13_4).f0)).f0) ((rd_T42 x7_16 x13_4).f1)).f2) ((rd_T44 ((rd_T40 ((rd_T30 l0_0 x5_2).f4) ((rd_T42 x7_16 x13_4).f0)).f0) ((rd_T42 x7_16 x13_4).f1)).f3) ((rd_T44 ((rd_T40 ((rd_T30 l0_0 x5_2).f4) ((rd_T42 x7_16 x13_4).f0)).f0) ((rd_T42 x7_16 x13_4).f1)).f4) ((rd_T44 ((rd_T40 ((rd_T30 l0_0 x5_2).f4) ((rd_T42 x7_16 x13_4).f0)).f0) ((rd_T42 x7_16 x13_4).f1)).f5) ((rd_T44 ((rd_T40 ((rd_T30 l0_0 x5_2).f4) ((rd_T42 x7_16 x13_4).f0)).f0) ((rd_T42 x7_16 x13_4).f1)).f6))) = some true := by first | (rw [hy475]; with_reducible exact H) | (have H2_ := (Option.bind_some _ _).symm.trans H; rw [hy475]; with_reducible exact H2_) | (have H2_ := (Option.bind_some _ _).symm.trans H; with_reducible exact H2_) | with_reducible exact H | (rw [hy475]; exact H) | exact H
                      have Ny475 := Aside0.mk hy475
                      clear hy475
                      replace H := Option.bind_eq_some_iff.mp H
                      obtain ⟨t478, A830, H⟩ := H
                      replace H : (portolanlaw11_LiveWays.j6 k4 l1 x5_2 x7_16 t478 x13_4 l0_0 ((rd_T30 l0_0 x5_2).f0) ((rd_T30 l0_0 x5_2).f1) ((rd_T30 l0_0 x5_2).f2) ((rd_T30 l0_0 x5_2).f3) ((rd_T30 l0_0 x5_2).f4) ((rd_T44 ((rd_T40 ((rd_T30 l0_0 x5_2).f4) ((rd_T42 x7_16 x13_4).f0)).f0) ((rd_T42 x7_16 x13_4).f1)).f0) ((rd_T44 ((rd_T40 ((rd_T30 l0_0 x5_2).f4) ((rd_T42 x7_16 x13_4).f0)).f0) ((rd_T42 x7_16 x13_4).f1)).f1) ((rd_T44 ((rd_T40 ((rd_T30 l0_0 x5_2).f4) ((rd_T42 x7_16 x13_4).f0)).f0) ((rd_T42 x7_16 x13_4).f1)).f2) ((rd_T44 ((rd_T40 ((rd_T30 l0_0 x5_2).f4) ((rd_T42 x7_16 x13_4).f0)).f0) ((rd_T42 x7_16 x13_4).f1)).f3) ((rd_T44 ((rd_T40 ((rd_T30 l0_0 x5_2).f4) ((rd_T42 x7_16 x13_4).f0)).f0) ((rd_T42 x7_16 x13_4).f1)).f4) ((rd_T44 ((rd_T40 ((rd_T30 l0_0 x5_2).f4) ((rd_T42 x7_16 x13_4).f0)).f0) ((rd_T42 x7_16 x13_4).f1)).f5) ((rd_T44 ((rd_T40 ((rd_T30 l0_0 x5_2).f4) ((rd_T42 x7_16 x13_4).f0)).f0) ((rd_T42 x7_16 x13_4).f1)).f6)) = some true := H
                      have A83 := Aside0.mk A830
                      clear A830
                      have H' := Aside0.mk H
                      clear H
                      go_wp2_with (first | ((with_reducible refine gate_dst (N := 131) rfl ?_); (try (refine gate_guard (by rfl) ?_; dsimp only)); refine Kd.R_lit (Kd.int .i64) _ 3 ?hg (N := 131) ?hd (xs := ([t473] : List Int)) (inner := [.int .i64 t473]) (ok := fun _ => True) (okp := fun _ => True) ?hr ?hp (fun _ hk => hk) trivial (Below.refl _ _) (Nat.le_refl _) (by simp) ?_; (case hd => rfl); (case hg => rfl); (case hr => first | (go_simp; done) | (go_simp; rfl)); (case hp => exact (Reps.one (show Kd.M (Kd.int .i64) _ _ _ t473 [.int .i64 t473] from rfl) (Reps.none _ _))); intro v476 w84 ho85 hb hg_ hnew_; clear hg_ hnew_; (first | rw [← Ny475.out] at ho85 | (simp only [Int.reduceToNat] at ho85; rw [← Ny475.out] at ho85)); replace HO_7 := Aside0.mk (Kd.R_below (Kd.Rx HO_7.out) hb); replace HO_12 := Aside0.mk (Kd.R_below (Kd.Rx HO_12.out) hb); replace HO471 := Aside0.mk (Kd.V_elder' (Kd.Vx HO471.out) (Kd.R_base ho85) hb); have HO477 := Aside0.mk (Kd.R_lower ho85 (below_size (bl HB))); replace BK448 := Aside0.mk (blk_below (bx BK448.out) hb); replace BK452 := Aside0.mk (blk_below (bx BK452.out) hb); replace BK466 := Aside0.mk (blk_below (bx BK466.out) hb); replace HB := Aside0.mk (below_step (bl HB) hb); clear hb ho85; obtain ⟨Ao86, co86, eo86⟩ := Kd.R_slice HO477.out; subst eo86) | ((with_reducible refine gate_callee (f := 17) rfl ?_); refine goesL_ (some 132) rfl rfl Tryd.func17 (by kernel_rfl) rfl #[.slice Ao76 x12_4.length co76, .slice Ao86 y475.length co86] rfl (by (try simp only [List.map_toArray, List.map_cons, List.map_nil]); first | done | rfl) ?_; (with_reducible refine (portolanref02_Without.calls k4 _ _ x12_4 _ _ y475 t478 _ ?side1 ?side2 ?side3 ?side4 A83.out).mono ?_); (case side1 => exact Kd.Cx ((Kd.R_reads' HO_12.out).2.2)); (case side2 => exact (Kd.R_reads' HO_12.out).2.1); (case side3 => exact Kd.Cx ((Kd.R_reads' HO477.out).2.2)); (case side4 => exact (Kd.R_reads' HO477.out).2.1); rintro e w87 ⟨v479, rfl, ho0, hb⟩; refine ⟨_, rfl, ?_⟩; replace HO_7 := Aside0.mk (Kd.R_below (Kd.Rx HO_7.out) hb); replace HO471 := Aside0.mk (Kd.V_elder' (Kd.Vx HO471.out) (Kd.R_base ho0) hb); replace HO477 := Aside0.mk (Kd.R_below (Kd.Rx HO477.out) hb); have HO480 := Aside0.mk (Kd.R_lower (Kd.R_new' ho0 (Kd.R_lt (Kd.Rx HO_12.out))) (below_size (bl HB))); replace HO_12 := Aside0.mk (Kd.R_elder' (Kd.Rx HO_12.out) (Kd.R_base ho0) hb); replace BK448 := Aside0.mk (blk_below (bx BK448.out) hb); replace BK452 := Aside0.mk (blk_below (bx BK452.out) hb); replace BK466 := Aside0.mk (blk_below (bx BK466.out) hb); replace HB := Aside0.mk (below_step (bl HB) hb); (try clear hb); (try clear hb2); (try clear hk); (try clear hi); (try clear ho0)))
                      go_meet
                      case rel => exact ⟨_, (t478), H', ⟨by have := HJ4.out; have := HK2.out; have := HJ16.out; have := HK4.out; first | omega | exact Nat.le_refl _⟩, ⟨Kd.Rx HO_7.out⟩, ⟨by (with_reducible repeat (first | apply Kd.R_alloc | apply Kd.R_drewN | apply Kd.R_drew)); exact Kd.R_mono HO480.out (fun _ hk => trivial)⟩, ⟨bx BK448.out⟩, ⟨bx BK452.out⟩, ⟨bx BK466.out⟩, ⟨bl HB⟩⟩
                     replace c82 := Bool.eq_false_iff.mpr c82
                     subst c82
                     have H1 : (portolanlaw11_LiveWays.j6 k4 l1 x5_2 x7_16 x12_4 x13_4 l0_0 ((rd_T30 l0_0 x5_2).f0) ((rd_T30 l0_0 x5_2).f1) ((rd_T30 l0_0 x5_2).f2) ((rd_T30 l0_0 x5_2).f3) ((rd_T30 l0_0 x5_2).f4) ((rd_T44 ((rd_T40 ((rd_T30 l0_0 x5_2).f4) ((rd_T42 x7_16 x13_4).f0)).f0) ((rd_T42 x7_16 x13_4).f1)).f0) ((rd_T44 ((rd_T40 ((rd_T30 l0_0 x5_2).f4) ((rd_T42 x7_16 x13_4).f0)).f0) ((rd_T42 x7_16 x13_4).f1)).f1) ((rd_T44 ((rd_T40 ((rd_T30 l0_0 x5_2).f4) ((rd_T42 x7_16 x13_4).f0)).f0) ((rd_T42 x7_16 x13_4).f1)).f2) ((rd_T44 ((rd_T40 ((rd_T30 l0_0 x5_2).f4) ((rd_T42 x7_16 x13_4).f0)).f0) ((rd_T42 x7_16 x13_4).f1)).f3) ((rd_T44 ((rd_T40 ((rd_T30 l0_0 x5_2).f4) ((rd_T42 x7_16 x13_4).f0)).f0) ((rd_T42 x7_16 x13_4).f1)).f4) ((rd_T44 ((rd_T40 ((rd_T30 l0_0 x5_2).f4) ((rd_T42 x7_16 x13_4).f0)).f0) ((rd_T42 x7_16 x13_4).f1)).f5) ((rd_T44 ((rd_T40 ((rd_T30 l0_0 x5_2).f4) ((rd_T42 x7_16 x13_4).f0)).f0) ((rd_T42 x7_16 x13_4).f1)).f6)) = some true := by rw [if_neg (show ¬ (false = true) by decide)] at H; exact H
                     clear H
                     have H := H1
                     clear H1
                     have H' := Aside0.mk H
                     clear H
                     go_wp2
                     go_meet
                     case rel => exact ⟨_, (x12_4), H', ⟨by have := HJ4.out; have := HK2.out; have := HJ16.out; have := HK4.out; first | omega | exact Nat.le_refl _⟩, ⟨Kd.Rx HO_7.out⟩, ⟨Kd.Rx HO_12.out⟩, ⟨bx BK448.out⟩, ⟨bx BK452.out⟩, ⟨bx BK466.out⟩, ⟨bl HB⟩⟩
                    case rest =>
                     clear HC62
                     try clear c1
                     try clear p2
                     try clear c4
                     try clear p4
                     try clear q4
                     try clear hx4
                     try clear c7
                     try clear c8
                     try clear c14
                     try clear c15
                     try clear c16
                     try clear c17
                     try clear c45
                     try clear c46
                     try clear p46
                     try clear q46
                     try clear hx46
                     try clear c78
                     try clear c79
                     try clear c82
                     try clear hcz80_0 hcz80_1 hcz80_2 hcz80_3 hcz80_4 hcz80_5 hcz80_6
                     try clear hfz80_0
                     try clear hx462_0
                     try clear hx462_1
                     try clear hx463_0
                     try clear hx464_0
                     try clear hx464_1
                     try clear hx465_0
                     try clear hx465_1
                     try clear hx465_2
                     try clear hx465_3
                     try clear hx465_4
                     try clear hx465_5
                     try clear hx465_6
                     try clear hx467_0
                     try clear hx467_1
                     try clear hx468_0
                     try clear hx468_1
                     try clear p462
                     try clear p463
                     try clear p464
                     try clear p465
                     try clear p467
                     try clear p468
                     try clear q462
                     try clear q463
                     try clear q464
                     try clear q465
                     try clear q467
                     try clear q468
                     obtain ⟨kq, x12_61, HA, HJ61, HO_7, HO_12, BK448, BK452, BK466, HB⟩ := hcut
                     cases kq with
                     | zero => exact absurd HA.out (by simp [portolanlaw11_LiveWays.j6])
                     | succ kj61 =>
                      have H := HA.out
                      clear HA
                      simp only [portolanlaw11_LiveWays.j6] at H
                      replace H := Option.bind_eq_some_iff.mp H
                      obtain ⟨t481, A880, H⟩ := H
                      replace H : ((portolanref02_With.f kj61 x12_61 t481).bind fun t484 => (if 0 ≤ x13_4 then (if x13_4 < (x7_16.length : Int) then ((live_Ahead.f kj61 ((rd_T30 l0_0 x5_2).f0) ((rd_T30 l0_0 x5_2).f1) ((rd_T30 l0_0 x5_2).f2) ((rd_T30 l0_0 x5_2).f3) ((rd_T30 l0_0 x5_2).f4) ((rd_T42 x7_16 x13_4).f0) ((rd_T42 x7_16 x13_4).f1)).bind fun t489 => ((bitset_Holds.f t489 t484).bind fun t492 => (if t492 = true then (portolanlaw11_LiveWays.l3 kj61 l1 x5_2 x7_16 t484 (wrap64 (x13_4 - 1)) l0_0 ((rd_T30 l0_0 x5_2).f0) ((rd_T30 l0_0 x5_2).f1) ((rd_T30 l0_0 x5_2).f2) ((rd_T30 l0_0 x5_2).f3) ((rd_T30 l0_0 x5_2).f4)) else (some false)))) else (none)) else (none))) = some true := H
                      have A88 := Aside0.mk A880
                      clear A880
                      replace H := Option.bind_eq_some_iff.mp H
                      obtain ⟨t484, A890, H⟩ := H
                      replace H : (if 0 ≤ x13_4 then (if x13_4 < (x7_16.length : Int) then ((live_Ahead.f kj61 ((rd_T30 l0_0 x5_2).f0) ((rd_T30 l0_0 x5_2).f1) ((rd_T30 l0_0 x5_2).f2) ((rd_T30 l0_0 x5_2).f3) ((rd_T30 l0_0 x5_2).f4) ((rd_T42 x7_16 x13_4).f0) ((rd_T42 x7_16 x13_4).f1)).bind fun t489 => ((bitset_Holds.f t489 t484).bind fun t492 => (if t492 = true then (portolanlaw11_LiveWays.l3 kj61 l1 x5_2 x7_16 t484 (wrap64 (x13_4 - 1)) l0_0 ((rd_T30 l0_0 x5_2).f0) ((rd_T30 l0_0 x5_2).f1) ((rd_T30 l0_0 x5_2).f2) ((rd_T30 l0_0 x5_2).f3) ((rd_T30 l0_0 x5_2).f4)) else (some false)))) else (none)) else (none)) = some true := H
                      have A89 := Aside0.mk A890
                      clear A890
                      by_cases c90 : 0 ≤ x13_4
                      ·
                       rw [if_pos c90] at H
                       have c90b0 : decide (0 ≤ x13_4) = true := decide_eq_true c90
                       clear c90
                       by_cases c91 : x13_4 < (x7_16.length : Int)
                       ·
                        rw [if_pos c91] at H
                        have c91b0 : decide (x13_4 < (x7_16.length : Int)) = true := decide_eq_true c91
                        clear c91
                        replace H := Option.bind_eq_some_iff.mp H
                        obtain ⟨t489, A920, H⟩ := H
                        replace H : ((bitset_Holds.f t489 t484).bind fun t492 => (if t492 = true then (portolanlaw11_LiveWays.l3 kj61 l1 x5_2 x7_16 t484 (wrap64 (x13_4 - 1)) l0_0 ((rd_T30 l0_0 x5_2).f0) ((rd_T30 l0_0 x5_2).f1) ((rd_T30 l0_0 x5_2).f2) ((rd_T30 l0_0 x5_2).f3) ((rd_T30 l0_0 x5_2).f4)) else (some false))) = some true := H
                        have A92 := Aside0.mk A920
                        clear A920
                        replace H := Option.bind_eq_some_iff.mp H
                        obtain ⟨t492, A930, H⟩ := H
                        replace H : (if t492 = true then (portolanlaw11_LiveWays.l3 kj61 l1 x5_2 x7_16 t484 (wrap64 (x13_4 - 1)) l0_0 ((rd_T30 l0_0 x5_2).f0) ((rd_T30 l0_0 x5_2).f1) ((rd_T30 l0_0 x5_2).f2) ((rd_T30 l0_0 x5_2).f3) ((rd_T30 l0_0 x5_2).f4)) else (some false)) = some true := H
                        have A93 := Aside0.mk A930
                        clear A930
                        by_cases c94 : t492 = true
                        ·
                         subst c94
                         have H1 : (portolanlaw11_LiveWays.l3 kj61 l1 x5_2 x7_16 t484 (wrap64 (x13_4 - 1)) l0_0 ((rd_T30 l0_0 x5_2).f0) ((rd_T30 l0_0 x5_2).f1) ((rd_T30 l0_0 x5_2).f2) ((rd_T30 l0_0 x5_2).f3) ((rd_T30 l0_0 x5_2).f4)) = some true := by rw [if_pos rfl] at H; exact H
                         clear H
                         have H := H1
                         clear H1
                         have H' := Aside0.mk H
                         clear H
                         have hnb95 := NB466_448.out
                         have hnc95 := NB448_466.out
                         have hnb96 := NB466_452.out
                         have hnc96 := NB452_466.out
                         obtain ⟨hcz97_0, hcz97_1, hcz97_2, hcz97_3, hcz97_4, hcz97_5, hcz97_6⟩ := bk7 BK466.out
                         have hfz97_0 := bf BK466.out
                         try go_wp2_with (first | ((with_reducible refine gate_callee (f := 19) rfl ?_); refine goesL_ (some 135) rfl rfl Tryd.func19 (by kernel_rfl) rfl #[.agg #[.int .i64 ((rd_T44 ((rd_T40 ((rd_T30 l0_0 x5_2).f4) ((rd_T42 x7_16 x13_4).f0)).f0) ((rd_T42 x7_16 x13_4).f1)).f0), .int .i64 ((rd_T44 ((rd_T40 ((rd_T30 l0_0 x5_2).f4) ((rd_T42 x7_16 x13_4).f0)).f0) ((rd_T42 x7_16 x13_4).f1)).f1), .int .i64 ((rd_T44 ((rd_T40 ((rd_T30 l0_0 x5_2).f4) ((rd_T42 x7_16 x13_4).f0)).f0) ((rd_T42 x7_16 x13_4).f1)).f2), .int .i64 ((rd_T44 ((rd_T40 ((rd_T30 l0_0 x5_2).f4) ((rd_T42 x7_16 x13_4).f0)).f0) ((rd_T42 x7_16 x13_4).f1)).f3), .int .i64 ((rd_T44 ((rd_T40 ((rd_T30 l0_0 x5_2).f4) ((rd_T42 x7_16 x13_4).f0)).f0) ((rd_T42 x7_16 x13_4).f1)).f4), .int .i64 ((rd_T44 ((rd_T40 ((rd_T30 l0_0 x5_2).f4) ((rd_T42 x7_16 x13_4).f0)).f0) ((rd_T42 x7_16 x13_4).f1)).f5), .slice A465_6 ((rd_T44 ((rd_T40 ((rd_T30 l0_0 x5_2).f4) ((rd_T42 x7_16 x13_4).f0)).f0) ((rd_T42 x7_16 x13_4).f1)).f6).length c465_6]] rfl (by (try simp only [List.map_toArray, List.map_cons, List.map_nil]); first | done | rfl) ?_; (with_reducible refine (portolanref04_Uses.calls kj61 ((rd_T44 ((rd_T40 ((rd_T30 l0_0 x5_2).f4) ((rd_T42 x7_16 x13_4).f0)).f0) ((rd_T42 x7_16 x13_4).f1)).f0) ((rd_T44 ((rd_T40 ((rd_T30 l0_0 x5_2).f4) ((rd_T42 x7_16 x13_4).f0)).f0) ((rd_T42 x7_16 x13_4).f1)).f1) ((rd_T44 ((rd_T40 ((rd_T30 l0_0 x5_2).f4) ((rd_T42 x7_16 x13_4).f0)).f0) ((rd_T42 x7_16 x13_4).f1)).f2) ((rd_T44 ((rd_T40 ((rd_T30 l0_0 x5_2).f4) ((rd_T42 x7_16 x13_4).f0)).f0) ((rd_T42 x7_16 x13_4).f1)).f3) ((rd_T44 ((rd_T40 ((rd_T30 l0_0 x5_2).f4) ((rd_T42 x7_16 x13_4).f0)).f0) ((rd_T42 x7_16 x13_4).f1)).f4) ((rd_T44 ((rd_T40 ((rd_T30 l0_0 x5_2).f4) ((rd_T42 x7_16 x13_4).f0)).f0) ((rd_T42 x7_16 x13_4).f1)).f5) _ _ ((rd_T44 ((rd_T40 ((rd_T30 l0_0 x5_2).f4) ((rd_T42 x7_16 x13_4).f0)).f0) ((rd_T42 x7_16 x13_4).f1)).f6) t481 _ ?side1 ?side2 A88.out).mono ?_); (case side1 => exact Kd.Cx (Kd.C_below HR465_6.out HB.out)); (case side2 => exact HC465_6.out); rintro e w98 ⟨v482, rfl, ho0, hb⟩; refine ⟨_, rfl, ?_⟩; replace HO_7 := Aside0.mk (Kd.R_below (Kd.Rx HO_7.out) hb); replace HO_12 := Aside0.mk (Kd.R_below (Kd.Rx HO_12.out) hb); have HO483 := Aside0.mk (Kd.R_lower ho0 (below_size (bl HB))); replace BK448 := Aside0.mk (blk_below (bx BK448.out) hb); replace BK452 := Aside0.mk (blk_below (bx BK452.out) hb); replace BK466 := Aside0.mk (blk_below (bx BK466.out) hb); replace HB := Aside0.mk (below_step (bl HB) hb); (try clear hb); (try clear hb2); (try clear hk); (try clear hi); (try clear ho0); obtain ⟨Ao99, co99, eo99⟩ := Kd.R_slice HO_12.out; subst eo99; obtain ⟨Ao100, co100, eo100⟩ := Kd.R_slice HO483.out; subst eo100) | ((with_reducible refine gate_callee (f := 18) rfl ?_); refine goesL_ (some 136) rfl rfl Tryd.func18 (by kernel_rfl) rfl #[.slice Ao99 x12_61.length co99, .slice Ao100 t481.length co100] rfl (by (try simp only [List.map_toArray, List.map_cons, List.map_nil]); first | done | rfl) ?_; (with_reducible refine (portolanref02_With.calls kj61 (fun k_ => some k_ = (.slice Ao99 x12_61.length co99 : Value).ownBlock) _ _ x12_61 _ _ t481 t484 _ ?side1 ?side2 ?side3 A89.out).mono ?_); (case side1 => exact Kd.R_V (Kd.R_tight rfl (Kd.R_types (Kd.R_types (Kd.R_types (Kd.R_apart' (Kd.R_apart' (HO_12.out) (Kd.R_typed HO_7.out) (by decide)) (Kd.R_typed HO483.out) (by decide)) BK448.out (by decide)) BK452.out (by decide)) BK466.out (by decide)))); (case side2 => exact Kd.Cx ((Kd.R_reads' HO483.out).2.2)); (case side3 => exact (Kd.R_reads' HO483.out).2.1); rintro e w101 ⟨v485, rfl, ho0, hb⟩; refine ⟨_, rfl, ?_⟩; replace HO_7 := Aside0.mk (Kd.R_below (Kd.Rx HO_7.out) hb); replace HO483 := Aside0.mk (Kd.R_below (Kd.Rx HO483.out) hb); have HO486 := Aside0.mk (Kd.R_lower (Kd.R_new' (Kd.R_mono (ok' := fun k_ => True) ho0 (fun _ hk_ => trivial)) (Kd.R_lt (Kd.Rx HO_12.out))) (below_size (bl HB))); replace HO_12 := Aside0.mk (Kd.R_elder' (Kd.Rx HO_12.out) (Kd.R_base ho0) hb); replace BK448 := Aside0.mk (blk_below (bx BK448.out) hb); replace BK452 := Aside0.mk (blk_below (bx BK452.out) hb); replace BK466 := Aside0.mk (blk_below (bx BK466.out) hb); replace HB := Aside0.mk (below_step (bl HB) hb); (try clear hb); (try clear hb2); (try clear hk); (try clear hi); (try clear ho0)))
                         replace HO_7 := Aside0.mk (Kd.R_drew HO_7.out); replace HO_12 := Aside0.mk (Kd.R_drew HO_12.out); replace HO483 := Aside0.mk (Kd.R_drew HO483.out); replace HO486 := Aside0.mk (Kd.R_drew HO486.out); replace BK448 := Aside0.mk (blk_drew BK448.out); replace BK452 := Aside0.mk (blk_drew BK452.out); replace BK466 := Aside0.mk (blk_drew BK466.out); replace HB := Aside0.mk (below_drew1 HB.out)
                         have p487 : 0 ≤ (x13_4 : Int) := of_decide_eq_true (by assumption)
                         have q487 : x13_4 < (x7_16.length : Int) := of_decide_eq_true (by assumption)
                         obtain ⟨ad487, e487, hx487_0, hx487_1⟩ := at_T42 (Kd.R_reads' HO_7.out).2.2 x13_4 p487 q487
                         obtain rfl : ad462 = ad487 := (by injection e487)
                         replace p487 := eq_true p487
                         replace q487 := eq_true q487
                         have p488 : 0 ≤ (x13_4 : Int) := of_decide_eq_true (by assumption)
                         have q488 : x13_4 < (x7_16.length : Int) := of_decide_eq_true (by assumption)
                         obtain ⟨ad488, e488, hx488_0, hx488_1⟩ := at_T42 (Kd.R_reads' HO_7.out).2.2 x13_4 p488 q488
                         obtain rfl : ad462 = ad488 := (by injection e488)
                         replace p488 := eq_true p488
                         replace q488 := eq_true q488
                         refine start_ (n := 15) (S := fun w' => w'.cell? ⟨gb452, 0, none⟩ = some (.slice A451_0 ((rd_T30 l0_0 x5_2).f0).length c451_0) ∧ w'.cell? ⟨gb452, 1, none⟩ = some (.slice A451_1 ((rd_T30 l0_0 x5_2).f1).length c451_1) ∧ w'.cell? ⟨gb452, 2, none⟩ = some (.int .i64 ((rd_T30 l0_0 x5_2).f2)) ∧ w'.cell? ⟨gb452, 3, none⟩ = some (.int .i64 ((rd_T30 l0_0 x5_2).f3)) ∧ w'.cell? ⟨gb452, 4, none⟩ = some (.slice (some ad463) ((rd_T30 l0_0 x5_2).f4).length c451_4) ∧ w'.cell? (ad462.add ((x13_4).toNat * 2)) = some (.int .i64 ((rd_T42 x7_16 x13_4).f0)) ∧ w'.cell? ⟨(ad462.add ((x13_4).toNat * 2)).block, (ad462.add ((x13_4).toNat * 2)).off + 1, none⟩ = some (.int .i64 ((rd_T42 x7_16 x13_4).f1)) ∧ w'.cell? (ad462.add ((x13_4).toNat * 2)) = some (.int .i64 ((rd_T42 x7_16 x13_4).f0)) ∧ w'.cell? ⟨(ad462.add ((x13_4).toNat * 2)).block, (ad462.add ((x13_4).toNat * 2)).off + 1, none⟩ = some (.int .i64 ((rd_T42 x7_16 x13_4).f1))) (ds := []) #[false, false, false, false, false, false, false, false, false, false, false, false, false, false, false] (by kernel_rfl) rfl rfl ⟨(blk_cell BK452.out 0).trans rfl, (blk_cell BK452.out 1).trans rfl, (blk_cell BK452.out 2).trans rfl, (blk_cell BK452.out 3).trans rfl, (blk_cell BK452.out 4).trans rfl, hx487_0, hx487_1, hx488_0, hx488_1⟩ (fun hHeld => ?_); refine with_tabW portolanlaw11_LiveWays.tab32 portolanlaw11_LiveWays.bits32 (fun HT_ HW_ => ?_)
                         generalize w101.drew = w102 at HO_7 HO_12 HO483 HO486 BK448 BK452 BK466 HB hx487_0 hx487_1 hx488_0 hx488_1 hHeld ⊢
                         refine pure_ (i := 1) (N := some 138) (v := ?_) (a' := ?_) #[false, true, false, false, false, false, false, false, false, false, false, false, false, false, false] rfl rfl (any_of HT_.out (by kernel_rfl)) (fun _ _ _ h => h) (Or.inl ⟨by rfl, ?_⟩) ?_ ?_
                         rotate_left
                         ·
                          intro w'
                          go_simp
                          with_reducible rfl
                         rotate_left
                         ·
                          simp only [Act.put, List.setIfInBounds_toArray, List.set_cons_zero, List.set_cons_succ, i64_w, i32_w]
                          rfl
                         refine pure_ (i := 2) (N := some 139) (v := ?_) (a' := ?_) #[false, true, true, false, false, false, false, false, false, false, false, false, false, false, false] rfl rfl (any_of HT_.out (by kernel_rfl)) (fun _ _ _ h => h) (Or.inl ⟨by rfl, ?_⟩) ?_ ?_
                         rotate_left
                         ·
                          intro w'
                          go_simp
                          with_reducible rfl
                         rotate_left
                         ·
                          simp only [Act.put, List.setIfInBounds_toArray, List.set_cons_zero, List.set_cons_succ, i64_w, i32_w]
                          rfl
                         refine pure_ (i := 3) (N := some 140) (v := ?_) (a' := ?_) #[false, true, true, true, false, false, false, false, false, false, false, false, false, false, false] rfl rfl (any_of HT_.out (by kernel_rfl)) (fun _ _ _ h => h) (Or.inl ⟨by rfl, ?_⟩) ?_ ?_
                         rotate_left
                         ·
                          intro w'
                          go_simp
                          with_reducible rfl
                         rotate_left
                         ·
                          simp only [Act.put, List.setIfInBounds_toArray, List.set_cons_zero, List.set_cons_succ, i64_w, i32_w]
                          rfl
                         refine pure_ (i := 4) (N := some 141) (v := ?_) (a' := ?_) #[false, true, true, true, true, false, false, false, false, false, false, false, false, false, false] rfl rfl (any_of HT_.out (by kernel_rfl)) (fun _ _ _ h => h) (Or.inl ⟨by rfl, ?_⟩) ?_ ?_
                         rotate_left
                         ·
                          intro w'
                          go_simp
                          with_reducible rfl
                         rotate_left
                         ·
                          simp only [Act.put, List.setIfInBounds_toArray, List.set_cons_zero, List.set_cons_succ, i64_w, i32_w]
                          rfl
                         refine pure_ (i := 6) (N := some 143) (v := ?_) (a' := ?_) #[false, true, true, true, true, false, true, false, false, false, false, false, false, false, false] rfl rfl (any_of HT_.out (by kernel_rfl)) (fun _ _ _ h => h) (Or.inl ⟨by rfl, ?_⟩) ?_ ?_
                         rotate_left
                         ·
                          intro w'
                          go_simp
                          with_reducible rfl
                         rotate_left
                         ·
                          simp only [Act.put, List.setIfInBounds_toArray, List.set_cons_zero, List.set_cons_succ, i64_w, i32_w]
                          rfl
                         refine pure_ (i := 7) (N := some 144) (v := ?_) (a' := ?_) #[false, true, true, true, true, false, true, true, false, false, false, false, false, false, false] rfl rfl (any_of HT_.out (by kernel_rfl)) (fun _ _ _ h => h) (Or.inl ⟨by rfl, ?_⟩) ?_ ?_
                         rotate_left
                         ·
                          intro w'
                          go_simp
                          with_reducible rfl
                         rotate_left
                         ·
                          simp only [Act.put, List.setIfInBounds_toArray, List.set_cons_zero, List.set_cons_succ, i64_w, i32_w]
                          rfl
                         refine pure_ (i := 8) (N := some 145) (v := ?_) (a' := ?_) #[false, true, true, true, true, false, true, true, true, false, false, false, false, false, false] rfl rfl (any_of HT_.out (by kernel_rfl)) (fun _ _ _ h => h) (Or.inl ⟨by rfl, ?_⟩) ?_ ?_
                         rotate_left
                         ·
                          intro w'
                          go_simp
                          with_reducible rfl
                         rotate_left
                         ·
                          simp only [Act.put, List.setIfInBounds_toArray, List.set_cons_zero, List.set_cons_succ, i64_w, i32_w]
                          rfl
                         refine pure_ (i := 9) (N := some 146) (v := ?_) (a' := ?_) #[false, true, true, true, true, false, true, true, true, true, false, false, false, false, false] rfl rfl (any_of HT_.out (by kernel_rfl)) (fun _ _ _ h => h) (Or.inl ⟨by rfl, ?_⟩) ?_ ?_
                         rotate_left
                         ·
                          intro w'
                          go_simp
                          with_reducible rfl
                         rotate_left
                         ·
                          simp only [Act.put, List.setIfInBounds_toArray, List.set_cons_zero, List.set_cons_succ, i64_w, i32_w]
                          rfl
                         refine pure_ (i := 12) (N := some 149) (v := ?_) (a' := ?_) #[false, true, true, true, true, false, true, true, true, true, false, false, true, false, false] rfl rfl (any_of HT_.out (by kernel_rfl)) (fun _ _ _ h => h) (Or.inl ⟨by rfl, ?_⟩) ?_ ?_
                         rotate_left
                         ·
                          intro w'
                          go_simp
                          with_reducible rfl
                         rotate_left
                         ·
                          simp only [Act.put, List.setIfInBounds_toArray, List.set_cons_zero, List.set_cons_succ, i64_w, i32_w]
                          rfl
                         refine take_ (i := 0) (N := some 137) (v := ?_) (a' := ?_) #[true, true, true, true, true, false, true, true, true, true, false, false, true, false, false] rfl rfl (take_ofW HT_.out HW_.out (by kernel_rfl)) (fun _ _ _ h => h) (Or.inl ⟨by rfl, ?_⟩) hHeld ?_ ?_
                         rotate_left
                         ·
                          rintro w' ⟨s0, s1, s2, s3, s4, s5, s6, s7, s8⟩
                          go_simp
                          with_reducible rfl
                         rotate_left
                         ·
                          simp only [Act.put, List.setIfInBounds_toArray, List.set_cons_zero, List.set_cons_succ, i64_w, i32_w]
                          rfl
                         refine take_ (i := 5) (N := some 142) (v := ?_) (a' := ?_) #[true, true, true, true, true, true, true, true, true, true, false, false, true, false, false] rfl rfl (take_ofW HT_.out HW_.out (by kernel_rfl)) (fun _ _ _ h => h) (Or.inl ⟨by rfl, ?_⟩) hHeld ?_ ?_
                         rotate_left
                         ·
                          rintro w' ⟨s0, s1, s2, s3, s4, s5, s6, s7, s8⟩
                          go_simp
                          with_reducible rfl
                         rotate_left
                         ·
                          simp only [Act.put, List.setIfInBounds_toArray, List.set_cons_zero, List.set_cons_succ, i64_w, i32_w]
                          rfl
                         refine take_ (i := 10) (N := some 147) (v := ?_) (a' := ?_) #[true, true, true, true, true, true, true, true, true, true, true, false, true, false, false] rfl rfl (take_ofW HT_.out HW_.out (by kernel_rfl)) (fun _ _ _ h => h) (Or.inl ⟨by rfl, ?_⟩) hHeld ?_ ?_
                         rotate_left
                         ·
                          rintro w' ⟨s0, s1, s2, s3, s4, s5, s6, s7, s8⟩
                          go_simp
                          with_reducible rfl
                         rotate_left
                         ·
                          simp only [Act.put, List.setIfInBounds_toArray, List.set_cons_zero, List.set_cons_succ, i64_w, i32_w]
                          rfl
                         refine one_ (i := 11) (N := some 148) #[true, true, true, true, true, true, true, true, true, true, true, true, true, false, false] rfl rfl (one_of HT_.out (by kernel_rfl)) (by decide) (fun K hK => ?_)
                         refine goes_ Tryd.func20 (by kernel_rfl) rfl #[.agg #[.slice A451_0 ((rd_T30 l0_0 x5_2).f0).length c451_0, .slice A451_1 ((rd_T30 l0_0 x5_2).f1).length c451_1, .int .i64 ((rd_T30 l0_0 x5_2).f2), .int .i64 ((rd_T30 l0_0 x5_2).f3), .slice (some ad463) ((rd_T30 l0_0 x5_2).f4).length c451_4], .int .i64 ((rd_T42 x7_16 x13_4).f0), .int .i64 ((rd_T42 x7_16 x13_4).f1)] (by rfl) rfl rfl (by (try simp only [List.map_toArray, List.map_cons, List.map_nil]); first | done | rfl) ?_
                         with_reducible refine (live_Ahead.calls kj61 _ _ ((rd_T30 l0_0 x5_2).f0) _ _ ((rd_T30 l0_0 x5_2).f1) ((rd_T30 l0_0 x5_2).f2) ((rd_T30 l0_0 x5_2).f3) _ _ ((rd_T30 l0_0 x5_2).f4) ((rd_T42 x7_16 x13_4).f0) ((rd_T42 x7_16 x13_4).f1) t489 _ ?side7 ?side1 ?side2 ?side3 ?side4 ?side5 ?side6 A92.out).mono ?_
                         (case side1 => exact Kd.Cx (Kd.C_below HR451_0.out HB.out))
                         (case side2 => exact HC451_0.out)
                         (case side3 => exact Kd.Cx (Kd.C_below HR451_1.out HB.out))
                         (case side4 => exact HC451_1.out)
                         (case side5 => exact Kd.Cx (Kd.C_below HR451_4.out HB.out))
                         (case side6 => exact HC451_4.out)
                         (case side7 => exact GG_below HGG.out (bl HB))
                         rintro e w103 ⟨v490, rfl, ho0, hb⟩
                         have HS5_ := (hb.cell (World.block_lt_of_cell? _ _ (hHeld.2.2.2.2.2.1))).trans (hHeld.2.2.2.2.2.1)
                         have HS6_ := (hb.cell (World.block_lt_of_cell? _ _ (hHeld.2.2.2.2.2.2.1))).trans (hHeld.2.2.2.2.2.2.1)
                         have HS7_ := (hb.cell (World.block_lt_of_cell? _ _ (hHeld.2.2.2.2.2.2.2.1))).trans (hHeld.2.2.2.2.2.2.2.1)
                         have HS8_ := (hb.cell (World.block_lt_of_cell? _ _ (hHeld.2.2.2.2.2.2.2.2))).trans (hHeld.2.2.2.2.2.2.2.2)
                         refine ⟨_, rfl, ?_⟩
                         have HO491 := Aside0.mk (Kd.V_lower (Kd.V_mono (ok' := fun k_ => some k_ ≠ (.slice (some ad462) x7_16.length co50 : Value).ownBlock ∧ some k_ ≠ (.slice Ao99 x12_61.length co99 : Value).ownBlock ∧ some k_ ≠ (.slice Ao100 t481.length co100 : Value).ownBlock ∧ some k_ ≠ (v485 : Value).ownBlock ∧ k_ ≠ gb448 ∧ k_ ≠ gb452 ∧ k_ ≠ gb466) ho0 (fun k_ hk_ => ⟨(Kd.fresh' (Kd.R_lt (Kd.Rx HO_7.out)) k_ hk_), (Kd.fresh' (Kd.R_lt (Kd.Rx HO_12.out)) k_ hk_), (Kd.fresh' (Kd.R_lt (Kd.Rx HO483.out)) k_ hk_), (Kd.fresh' (Kd.R_lt (Kd.Rx HO486.out)) k_ hk_), (Kd.freshB (g := gb448) (o := .cells #[.slice (some ad451) l0_0.length c0_0] 24 (0, 0)) (bx BK448.out) k_ hk_), (Kd.freshB (g := gb452) (o := .cells #[.slice A451_0 ((rd_T30 l0_0 x5_2).f0).length c451_0, .slice A451_1 ((rd_T30 l0_0 x5_2).f1).length c451_1, .int .i64 ((rd_T30 l0_0 x5_2).f2), .int .i64 ((rd_T30 l0_0 x5_2).f3), .slice (some ad463) ((rd_T30 l0_0 x5_2).f4).length c451_4] 30 (0, 0)) (bx BK452.out) k_ hk_), (Kd.freshB (g := gb466) (o := .cells #[.int .i64 ((rd_T44 ((rd_T40 ((rd_T30 l0_0 x5_2).f4) ((rd_T42 x7_16 x13_4).f0)).f0) ((rd_T42 x7_16 x13_4).f1)).f0), .int .i64 ((rd_T44 ((rd_T40 ((rd_T30 l0_0 x5_2).f4) ((rd_T42 x7_16 x13_4).f0)).f0) ((rd_T42 x7_16 x13_4).f1)).f1), .int .i64 ((rd_T44 ((rd_T40 ((rd_T30 l0_0 x5_2).f4) ((rd_T42 x7_16 x13_4).f0)).f0) ((rd_T42 x7_16 x13_4).f1)).f2), .int .i64 ((rd_T44 ((rd_T40 ((rd_T30 l0_0 x5_2).f4) ((rd_T42 x7_16 x13_4).f0)).f0) ((rd_T42 x7_16 x13_4).f1)).f3), .int .i64 ((rd_T44 ((rd_T40 ((rd_T30 l0_0 x5_2).f4) ((rd_T42 x7_16 x13_4).f0)).f0) ((rd_T42 x7_16 x13_4).f1)).f4), .int .i64 ((rd_T44 ((rd_T40 ((rd_T30 l0_0 x5_2).f4) ((rd_T42 x7_16 x13_4).f0)).f0) ((rd_T42 x7_16 x13_4).f1)).f5), .slice A465_6 ((rd_T44 ((rd_T40 ((rd_T30 l0_0 x5_2).f4) ((rd_T42 x7_16 x13_4).f0)).f0) ((rd_T42 x7_16 x13_4).f1)).f6).length c465_6] 44 (0, 0)) (bx BK466.out) k_ hk_)⟩)) (below_size (bl HB))); replace HO_7 := Aside0.mk (Kd.R_below (Kd.Rx HO_7.out) hb); replace HO_12 := Aside0.mk (Kd.R_below (Kd.Rx HO_12.out) hb); replace HO483 := Aside0.mk (Kd.R_below (Kd.Rx HO483.out) hb); replace HO486 := Aside0.mk (Kd.R_below (Kd.Rx HO486.out) hb); replace BK448 := Aside0.mk (blk_below (bx BK448.out) hb); replace BK452 := Aside0.mk (blk_below (bx BK452.out) hb); replace BK466 := Aside0.mk (blk_below (bx BK466.out) hb); replace HB := Aside0.mk (below_step (bl HB) hb)
                         (try clear hb)
                         (try clear hb2)
                         (try clear hk)
                         (try clear hi)
                         (try clear ho0)
                         obtain ⟨Ao104, co104, eo104⟩ := Kd.V_slice HO491.out
                         (first | subst eo104 | (injection eo104 with f1_ f2_ f3_; have f4_ := f1_.symm; have f5_ := f3_.symm; clear f1_ f2_ f3_; subst f4_; subst f5_))
                         obtain ⟨Ao105, co105, eo105⟩ := Kd.R_slice HO486.out
                         (first | subst eo105 | (injection eo105 with f1_ f2_ f3_; have f4_ := f1_.symm; have f5_ := f3_.symm; clear f1_ f2_ f3_; subst f4_; subst f5_))
                         refine hK.out _ _ ⟨(blk_cell BK452.out 0).trans rfl, (blk_cell BK452.out 1).trans rfl, (blk_cell BK452.out 2).trans rfl, (blk_cell BK452.out 3).trans rfl, (blk_cell BK452.out 4).trans rfl, HS5_, HS6_, HS7_, HS8_⟩ (fun hHeld => ?_)
                         clear hK K
                         refine norm_ (a' := ?_) ?_ ?_
                         rotate_left
                         ·
                          show Act.put _ (some 148) _ = _
                          simp only [Act.put, List.setIfInBounds_toArray, List.set_cons_zero, List.set_cons_succ, i64_w, i32_w]
                          rfl
                         refine one_ (i := 13) (N := some 150) #[true, true, true, true, true, true, true, true, true, true, true, true, true, true, false] rfl rfl (one_of HT_.out (by kernel_rfl)) (by decide) (fun K hK => ?_)
                         refine goes_ Tryd.func14 (by kernel_rfl) rfl #[.slice Ao104 t489.length co104, .slice Ao105 t484.length co105] (by rfl) rfl rfl (by (try simp only [List.map_toArray, List.map_cons, List.map_nil]); first | done | rfl) ?_
                         with_reducible refine (bitset_Holds.calls _ _ t489 _ _ t484 true _ ?side1 ?side2 ?side3 ?side4 A93.out).mono ?_
                         (case side1 => exact Kd.Cx ((Kd.V_reads' HO491.out).2.2))
                         (case side2 => exact (Kd.V_reads' HO491.out).2.1)
                         (case side3 => exact Kd.Cx ((Kd.R_reads' HO486.out).2.2))
                         (case side4 => exact (Kd.R_reads' HO486.out).2.1)
                         rintro e w106 ⟨rfl, hb⟩
                         have HS5_ := (hb.cell (World.block_lt_of_cell? _ _ (hHeld.2.2.2.2.2.1))).trans (hHeld.2.2.2.2.2.1)
                         have HS6_ := (hb.cell (World.block_lt_of_cell? _ _ (hHeld.2.2.2.2.2.2.1))).trans (hHeld.2.2.2.2.2.2.1)
                         have HS7_ := (hb.cell (World.block_lt_of_cell? _ _ (hHeld.2.2.2.2.2.2.2.1))).trans (hHeld.2.2.2.2.2.2.2.1)
                         have HS8_ := (hb.cell (World.block_lt_of_cell? _ _ (hHeld.2.2.2.2.2.2.2.2))).trans (hHeld.2.2.2.2.2.2.2.2)
                         refine ⟨_, rfl, ?_⟩
                         replace HO_7 := Aside0.mk (Kd.R_below (Kd.Rx HO_7.out) hb); replace HO_12 := Aside0.mk (Kd.R_below (Kd.Rx HO_12.out) hb); replace HO483 := Aside0.mk (Kd.R_below (Kd.Rx HO483.out) hb); replace HO486 := Aside0.mk (Kd.R_below (Kd.Rx HO486.out) hb); replace HO491 := Aside0.mk (Kd.V_below (Kd.Vx HO491.out) hb); replace BK448 := Aside0.mk (blk_below (bx BK448.out) hb); replace BK452 := Aside0.mk (blk_below (bx BK452.out) hb); replace BK466 := Aside0.mk (blk_below (bx BK466.out) hb); replace HB := Aside0.mk (below_step (bl HB) hb)
                         (try clear hb)
                         (try clear hb2)
                         (try clear hk)
                         (try clear hi)
                         refine hK.out _ _ ⟨(blk_cell BK452.out 0).trans rfl, (blk_cell BK452.out 1).trans rfl, (blk_cell BK452.out 2).trans rfl, (blk_cell BK452.out 3).trans rfl, (blk_cell BK452.out 4).trans rfl, HS5_, HS6_, HS7_, HS8_⟩ (fun hHeld => ?_)
                         clear hK K
                         refine norm_ (a' := ?_) ?_ ?_
                         rotate_left
                         ·
                          show Act.put _ (some 150) _ = _
                          simp only [Act.put, List.setIfInBounds_toArray, List.set_cons_zero, List.set_cons_succ, i64_w, i32_w]
                          rfl
                         refine pure_ (i := 14) (N := some 151) (v := ?_) (a' := ?_) #[true, true, true, true, true, true, true, true, true, true, true, true, true, true, true] rfl rfl (any_of HT_.out (by kernel_rfl)) (fun _ _ _ h => h) (Or.inl ⟨by rfl, ?_⟩) ?_ ?_
                         rotate_left
                         ·
                          intro w'
                          go_simp
                          with_reducible rfl
                         rotate_left
                         ·
                          simp only [Act.put, List.setIfInBounds_toArray, List.set_cons_zero, List.set_cons_succ, i64_w, i32_w]
                          rfl
                         refine done_ (done_of HT_.out (by kernel_rfl)) ?_
                         try go_wp2
                         go_roundg kj61
                         case measure => have := HJ4.out; have := HK2.out; have := HJ16.out; have := HK4.out; have := HJ61.out; omega
                         case rel => exact ⟨(t484), (wrap64 (x13_4 - 1)), (by first | rfl | (simp; done) | (simp [*]; done)), H', ⟨by have := HJ4.out; have := HK2.out; have := HJ16.out; have := HK4.out; have := HJ61.out; omega⟩, ⟨Kd.Rx HO_7.out⟩, ⟨by (with_reducible repeat (first | apply Kd.R_alloc | apply Kd.R_drewN | apply Kd.R_drew)); exact Kd.R_mono HO486.out (fun _ hk => trivial)⟩, ⟨bx BK448.out⟩, ⟨bx BK452.out⟩, ⟨bl HB⟩⟩
                        replace c94 := Bool.eq_false_iff.mpr c94
                        subst c94
                        have H1 : (some false) = some true := by rw [if_neg (show ¬ (false = true) by decide)] at H; exact H
                        exact absurd H1 (by simp)
                       rw [if_neg c91] at H
                       exact absurd H (by simp)
                      rw [if_neg c90] at H
                      exact absurd H (by simp)
                   replace c60 := Bool.eq_false_iff.mpr c60
                   subst c60
                   have H1 : (some false) = some true := by rw [if_neg (show ¬ (false = true) by decide)] at H; exact H
                   exact absurd H1 (by simp)
                  rw [if_neg c57] at H
                  exact absurd H (by simp)
                 rw [if_neg c56] at H
                 exact absurd H (by simp)
                rw [if_neg c55] at H
                exact absurd H (by simp)
               rw [if_neg c54] at H
               exact absurd H (by simp)
              rw [if_neg c53] at H
              exact absurd H (by simp)
             rw [if_neg c52] at H
             exact absurd H (by simp)
            rw [if_neg c51] at H
            have c51b0 : decide (0 ≤ x13_4) = false := decide_eq_false c51
            clear c51
            have H' := Aside0.mk H
            clear H
            go_wp2
            go_roundg k4
            case measure => have := HJ4.out; have := HK2.out; have := HJ16.out; have := HK4.out; omega
            case rel => exact ⟨(wrap64 (x5_2 + 1)), (by first | rfl | (simp; done) | (simp [*]; done)), H', ⟨by have := HJ4.out; have := HK2.out; have := HJ16.out; have := HK4.out; omega⟩, ⟨bx BK448.out⟩, ⟨bl HB⟩⟩
       rw [if_neg c16] at H
       exact absurd H (by simp)
      rw [if_neg c15] at H
      have c15b0 : decide (x5_2 < (l0_0.length : Int)) = false := decide_eq_false c15
      clear c15
      clear H
      have hcz134_0 := bk1 BK448.out
      have hfz134_0 := bf BK448.out
      go_wp2
      go_ret
      exact ⟨by first | rfl | (simp [errW_none, errW_some] <;> rfl) | (simp [*, errW_none, errW_some] <;> rfl), bl HB⟩
 replace c4 := Bool.eq_false_iff.mpr c4
 subst c4
 have H1 : (some false) = some true := by rw [if_neg (show ¬ (false = true) by decide)] at H; exact H
 exact absurd H1 (by simp)
end Go.Proofs.YtdmimhjmbdkhmaaDoor.X
