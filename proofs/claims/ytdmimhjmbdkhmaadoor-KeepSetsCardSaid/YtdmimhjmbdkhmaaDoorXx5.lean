/- Part of a proof about the Go function named in the last text of this claim. -/
import Derived.Test.YtdmimhjmbdkhmaaDoorZw
import Derived.Test.YtdmimhjmbdkhmaaDoorXx0
import Derived.Test.YtdmimhjmbdkhmaaDoorXx3
import Derived.Test.YtdmimhjmbdkhmaaDoorXx4
import Derived.Test.YtdmimhjmbdkhmaaDoorZg
set_option linter.unusedVariables false
set_option linter.unusedSimpArgs false
namespace Go.Proofs.YtdmimhjmbdkhmaaDoor.X
open Go.RowKit Go.Proofs.YtdmimhjmbdkhmaaDoorW.PrintWords Go.Proofs.YtdmimhjmbdkhmaaDoorW.PrintLast Go.Proofs.YtdmimhjmbdkhmaaDoorW.PrintMore
attribute [local go_sem] max2_int min2_int max_two min_two max_three min_three max_four min_four
set_option linter.unusedVariables false
set_option linter.unusedSimpArgs false
mutual
def live_outs.l0 : Nat → List (List Int) → List (List Int) → List Int → Int → Int → List Int → List Int → Int → Int → List (S40) → Option ((List (List Int)))
 | 0, _, _, _, _, _, _, _, _, _, _ => none
 | k + 1, x3, x4, x5, x26, x27, x214000, x214001, x214002, x214003, x214004 => if x27 < x26 then (if x5.length < 17592186044416 then (live_outs.l0 k x3 x4 (x5 ++ [x27]) x26 (wrap64 (x27 + 1)) x214000 x214001 x214002 x214003 x214004) else (none)) else (live_outs.l1 k x3 x4 x5 x214000 x214001 x214002 x214003 x214004)
def live_outs.l1 : Nat → List (List Int) → List (List Int) → List Int → List Int → List Int → Int → Int → List (S40) → Option ((List (List Int)))
 | 0, _, _, _, _, _, _, _, _ => none
 | k + 1, x3, x4, x5, x214000, x214001, x214002, x214003, x214004 => if (x5.length : Int) > 0 then (if 0 ≤ (wrap64 ((x5.length : Int) - 1)) then (if (wrap64 ((x5.length : Int) - 1)) < (x5.length : Int) then (if (wrap64 ((x5.length : Int) - 1)) ≤ (x5.length : Int) then ((flow_Next.f k x214000 x214001 x214002 x214003 x214004 (rd x5 (wrap64 ((x5.length : Int) - 1)))).bind fun t230 => (live_outs.l2 k x3 x4 (x5.take ((wrap64 ((x5.length : Int) - 1)) : Int).toNat) (rd x5 (wrap64 ((x5.length : Int) - 1))) ([] : List Int) t230 (t230.length : Int) 0 x214000 x214001 x214002 x214003 x214004)) else (none)) else (none)) else (none)) else (some x3)
def live_outs.l2 : Nat → List (List Int) → List (List Int) → List Int → Int → List Int → List Int → Int → Int → List Int → List Int → Int → Int → List (S40) → Option ((List (List Int)))
 | 0, _, _, _, _, _, _, _, _, _, _, _, _, _ => none
 | k + 1, x3, x4, x5, x7, x8, x51, x52, x53, x214000, x214001, x214002, x214003, x214004 => if x53 < x52 then (if 0 ≤ x53 then (if x53 < (x51.length : Int) then (if 0 ≤ (rd x51 x53) then (if (rd x51 x53) < (x4.length : Int) then ((bitset_Join.f (([x8, rd_L1 x4 (rd x51 x53)] : List (List Int)))).bind fun t238 => (live_outs.l2 k x3 x4 x5 x7 t238 x51 x52 (wrap64 (x53 + 1)) x214000 x214001 x214002 x214003 x214004)) else (none)) else (none)) else (none)) else (none)) else (if 0 ≤ x7 then (if x7 < (x3.length : Int) then ((some (x3.set (x7 : Int).toNat x8 : List (List Int))).bind fun y241 => ((live_through.f k x214000 x214001 x214002 x214003 x214004 x7 0 x8).bind fun t242 => (if x7 < (x4.length : Int) then ((bitset_Same.f k t242 (rd_L1 x4 x7)).bind fun t246 => (if t246 = true then (live_outs.l1 k y241 x4 x5 x214000 x214001 x214002 x214003 x214004) else ((flow_Prev.f k x214000 x214001 x214002 x214003 x214004 x7).bind fun t248 => (if x5.length + t248.length < 17592186044416 then (live_outs.l1 k y241 (x4.set (x7 : Int).toNat t242) (x5 ++ t248) x214000 x214001 x214002 x214003 x214004) else (none))))) else (none)))) else (none)) else (none))
end
def live_outs.f (k : Nat) (l0_0 : List Int) (l0_1 : List Int) (a0_2 : Int) (a0_3 : Int) (l0_4 : List (S40)) : Option ((List (List Int))) := if 0 ≤ (l0_4.length : Int) then (if ((l0_4.length : Int) : Int).toNat ≤ 11728124029610 then (if ((l0_4.length : Int) : Int).toNat ≤ 35184372088832 then (live_outs.l0 k (List.replicate ((l0_4.length : Int) : Int).toNat []) (List.replicate ((l0_4.length : Int) : Int).toNat []) (([] : List Int)) (l0_4.length : Int) 0 l0_0 l0_1 a0_2 a0_3 l0_4) else (none)) else (none)) else (none)
theorem live_outs.mono_l : ∀ k, (∀ y0 y1 y2 y3 y4 y5 y6 y7 y8 y9, LeO (live_outs.l0 k y0 y1 y2 y3 y4 y5 y6 y7 y8 y9) (live_outs.l0 (k + 1) y0 y1 y2 y3 y4 y5 y6 y7 y8 y9)) ∧ (∀ y0 y1 y2 y3 y4 y5 y6 y7, LeO (live_outs.l1 k y0 y1 y2 y3 y4 y5 y6 y7) (live_outs.l1 (k + 1) y0 y1 y2 y3 y4 y5 y6 y7)) ∧ (∀ y0 y1 y2 y3 y4 y5 y6 y7 y8 y9 y10 y11 y12, LeO (live_outs.l2 k y0 y1 y2 y3 y4 y5 y6 y7 y8 y9 y10 y11 y12) (live_outs.l2 (k + 1) y0 y1 y2 y3 y4 y5 y6 y7 y8 y9 y10 y11 y12))
 | 0 => ⟨fun _ _ _ _ _ _ _ _ _ _ r h => by simp [live_outs.l0] at h, fun _ _ _ _ _ _ _ _ r h => by simp [live_outs.l1] at h, fun _ _ _ _ _ _ _ _ _ _ _ _ _ r h => by simp [live_outs.l2] at h⟩
 | k + 1 => by
  obtain ⟨ih0, ih1, ih2⟩ := live_outs.mono_l k
  refine ⟨?_, ?_, ?_⟩
  ·
   intro y0 y1 y2 y3 y4 y5 y6 y7 y8 y9
   unfold live_outs.l0
   repeat' first
   | (with_reducible exact ih0 _ _ _ _ _ _ _ _ _ _)
   | (with_reducible exact ih1 _ _ _ _ _ _ _ _)
   | (with_reducible exact ih2 _ _ _ _ _ _ _ _ _ _ _ _ _)
   | (with_reducible exact bitset_Same.mono _ _ _)
   | (with_reducible exact flow_Next.mono _ _ _ _ _ _ _)
   | (with_reducible exact flow_Prev.mono _ _ _ _ _ _ _)
   | (with_reducible exact live_through.mono _ _ _ _ _ _ _ _ _)
   | (with_reducible exact LeO.refl _)
   | (with_reducible exact LeO.none _)
   | (with_reducible refine LeO.ite ?_ ?_)
   | (with_reducible refine LeO.bind ?_ (fun _ => ?_))
   | exact ih0 _ _ _ _ _ _ _ _ _ _
   | exact ih1 _ _ _ _ _ _ _ _
   | exact ih2 _ _ _ _ _ _ _ _ _ _ _ _ _
   | exact bitset_Same.mono _ _ _
   | exact flow_Next.mono _ _ _ _ _ _ _
   | exact flow_Prev.mono _ _ _ _ _ _ _
   | exact live_through.mono _ _ _ _ _ _ _ _ _
   | exact LeO.none _
   | refine LeO.ite ?_ ?_
   | refine LeO.bind ?_ (fun _ => ?_)
  ·
   intro y0 y1 y2 y3 y4 y5 y6 y7
   unfold live_outs.l1
   repeat' first
   | (with_reducible exact ih0 _ _ _ _ _ _ _ _ _ _)
   | (with_reducible exact ih1 _ _ _ _ _ _ _ _)
   | (with_reducible exact ih2 _ _ _ _ _ _ _ _ _ _ _ _ _)
   | (with_reducible exact bitset_Same.mono _ _ _)
   | (with_reducible exact flow_Next.mono _ _ _ _ _ _ _)
   | (with_reducible exact flow_Prev.mono _ _ _ _ _ _ _)
   | (with_reducible exact live_through.mono _ _ _ _ _ _ _ _ _)
   | (with_reducible exact LeO.refl _)
   | (with_reducible exact LeO.none _)
   | (with_reducible refine LeO.ite ?_ ?_)
   | (with_reducible refine LeO.bind ?_ (fun _ => ?_))
   | exact ih0 _ _ _ _ _ _ _ _ _ _
   | exact ih1 _ _ _ _ _ _ _ _
   | exact ih2 _ _ _ _ _ _ _ _ _ _ _ _ _
   | exact bitset_Same.mono _ _ _
   | exact flow_Next.mono _ _ _ _ _ _ _
   | exact flow_Prev.mono _ _ _ _ _ _ _
   | exact live_through.mono _ _ _ _ _ _ _ _ _
   | exact LeO.none _
   | refine LeO.ite ?_ ?_
   | refine LeO.bind ?_ (fun _ => ?_)
  intro y0 y1 y2 y3 y4 y5 y6 y7 y8 y9 y10 y11 y12
  unfold live_outs.l2
  repeat' first
  | (with_reducible exact ih0 _ _ _ _ _ _ _ _ _ _)
  | (with_reducible exact ih1 _ _ _ _ _ _ _ _)
  | (with_reducible exact ih2 _ _ _ _ _ _ _ _ _ _ _ _ _)
  | (with_reducible exact bitset_Same.mono _ _ _)
  | (with_reducible exact flow_Next.mono _ _ _ _ _ _ _)
  | (with_reducible exact flow_Prev.mono _ _ _ _ _ _ _)
  | (with_reducible exact live_through.mono _ _ _ _ _ _ _ _ _)
  | (with_reducible exact LeO.refl _)
  | (with_reducible exact LeO.none _)
  | (with_reducible refine LeO.ite ?_ ?_)
  | (with_reducible refine LeO.bind ?_ (fun _ => ?_))
  | exact ih0 _ _ _ _ _ _ _ _ _ _
  | exact ih1 _ _ _ _ _ _ _ _
  | exact ih2 _ _ _ _ _ _ _ _ _ _ _ _ _
  | exact bitset_Same.mono _ _ _
  | exact flow_Next.mono _ _ _ _ _ _ _
  | exact flow_Prev.mono _ _ _ _ _ _ _
  | exact live_through.mono _ _ _ _ _ _ _ _ _
  | exact LeO.none _
  | refine LeO.ite ?_ ?_
  | refine LeO.bind ?_ (fun _ => ?_)
theorem live_outs.mono : ∀ a0 a1 a2 a3 a4 k, LeO (live_outs.f k a0 a1 a2 a3 a4) (live_outs.f (k + 1) a0 a1 a2 a3 a4) := by
 intro a0 a1 a2 a3 a4 k
 obtain ⟨ih0, ih1, ih2⟩ := live_outs.mono_l k
 unfold live_outs.f
 repeat' first
  | (with_reducible exact ih0 _ _ _ _ _ _ _ _ _ _)
  | (with_reducible exact ih1 _ _ _ _ _ _ _ _)
  | (with_reducible exact ih2 _ _ _ _ _ _ _ _ _ _ _ _ _)
  | (with_reducible exact bitset_Same.mono _ _ _)
  | (with_reducible exact flow_Next.mono _ _ _ _ _ _ _)
  | (with_reducible exact flow_Prev.mono _ _ _ _ _ _ _)
  | (with_reducible exact live_through.mono _ _ _ _ _ _ _ _ _)
  | (with_reducible exact LeO.refl _)
  | (with_reducible exact LeO.none _)
  | (with_reducible refine LeO.ite ?_ ?_)
  | (with_reducible refine LeO.bind ?_ (fun _ => ?_))
  | exact ih0 _ _ _ _ _ _ _ _ _ _
  | exact ih1 _ _ _ _ _ _ _ _
  | exact ih2 _ _ _ _ _ _ _ _ _ _ _ _ _
  | exact bitset_Same.mono _ _ _
  | exact flow_Next.mono _ _ _ _ _ _ _
  | exact flow_Prev.mono _ _ _ _ _ _ _
  | exact live_through.mono _ _ _ _ _ _ _ _ _
  | exact LeO.none _
  | refine LeO.ite ?_ ?_
  | refine LeO.bind ?_ (fun _ => ?_)
set_option maxHeartbeats 8000000 in
set_option maxRecDepth 100000 in
theorem live_outs.calls (k : Nat) (A0_0 : Option Addr) (c0_0 : Nat) (l0_0 : List Int) (A0_1 : Option Addr) (c0_1 : Nat) (l0_1 : List Int) (a0_2 : Int) (a0_3 : Int) (A0_4 : Option Addr) (c0_4 : Nat) (l0_4 : List (S40)) (r : List (List Int)) (w : World) (hGG : GG w) (hr0_0 : Kd.C (Kd.int .i64) w A0_0 l0_0.length l0_0) (hc0_0 : l0_0.length ≤ c0_0) (hr0_1 : Kd.C (Kd.int .i64) w A0_1 l0_1.length l0_1) (hc0_1 : l0_1.length ≤ c0_1) (hr0_4 : Kd.C k40 w A0_4 l0_4.length l0_4) (hc0_4 : l0_4.length ≤ c0_4) (h : live_outs.f k l0_0 l0_1 a0_2 a0_3 l0_4 = some r) :
 Calls Tryd.prog 39 #[.agg #[.slice A0_0 l0_0.length c0_0, .slice A0_1 l0_1.length c0_1, .int .i64 a0_2, .int .i64 a0_3, .slice A0_4 l0_4.length c0_4]] w fun e w' => ∃ v0_ : Value, e = .returned (v0_) ∧ Kd.N (Kd.slice 67 (Kd.int .u64)) 31 w' w.heap.size (fun k_ => (w.heap.size ≤ k_)) v0_ r ∧ Below w.heap.size w w' := by
 have hu30 := Tryd.underlying30
 have HGG := Aside0.mk hGG
 clear hGG
 have HR0_0 := Aside0.mk hr0_0
 have HC0_0 := Aside0.mk hc0_0
 clear hr0_0 hc0_0
 have HR0_1 := Aside0.mk hr0_1
 have HC0_1 := Aside0.mk hc0_1
 clear hr0_1 hc0_1
 have HR0_4 := Aside0.mk hr0_4
 have HC0_4 := Aside0.mk hc0_4
 clear hr0_4 hc0_4
 have HB := Aside0.mk (Below.refl w.heap.size w)
 have H : (if 0 ≤ (l0_4.length : Int) then (if ((l0_4.length : Int) : Int).toNat ≤ 11728124029610 then (if ((l0_4.length : Int) : Int).toNat ≤ 35184372088832 then (live_outs.l0 k (List.replicate ((l0_4.length : Int) : Int).toNat []) (List.replicate ((l0_4.length : Int) : Int).toNat []) (([] : List Int)) (l0_4.length : Int) 0 l0_0 l0_1 a0_2 a0_3 l0_4) else (none)) else (none)) else (none)) = some r := h
 clear h
 by_cases c2 : 0 ≤ (l0_4.length : Int)
 ·
  rw [if_pos c2] at H
  have c2b0 := eq_true c2
  have c2b1 : decide (0 ≤ (l0_4.length : Int)) = true := decide_eq_true c2
  clear c2
  by_cases c3 : ((l0_4.length : Int) : Int).toNat ≤ 11728124029610
  ·
   rw [if_pos c3] at H
   have c3b0 := eq_true c3
   have c3b1 : decide (((l0_4.length : Int) : Int).toNat ≤ 11728124029610) = true := decide_eq_true c3
   clear c3
   obtain ⟨y214, hy214⟩ : ∃ y_ : List (List Int), y_ = (List.replicate ((l0_4.length : Int) : Int).toNat []) := ⟨_, rfl⟩
   replace H : (if ((l0_4.length : Int) : Int).toNat ≤ 35184372088832 then (live_outs.l0 k y214 (List.replicate ((l0_4.length : Int) : Int).toNat []) (([] : List Int)) (l0_4.length : Int) 0 l0_0 l0_1 a0_2 a0_3 l0_4) else (none)) = some r := by first | (rw [hy214]; with_reducible exact H) | (have H2_ := (Option.bind_some _ _).symm.trans H; rw [hy214]; with_reducible exact H2_) | (have H2_ := (Option.bind_some _ _).symm.trans H; with_reducible exact H2_) | with_reducible exact H | (rw [hy214]; exact H) | exact H
   have Ny214 := Aside0.mk hy214
   clear hy214
   obtain ⟨y217, hy217⟩ : ∃ y_ : List (List Int), y_ = (List.replicate ((l0_4.length : Int) : Int).toNat []) := ⟨_, rfl⟩
   replace H : (if ((l0_4.length : Int) : Int).toNat ≤ 35184372088832 then (live_outs.l0 k y214 y217 (([] : List Int)) (l0_4.length : Int) 0 l0_0 l0_1 a0_2 a0_3 l0_4) else (none)) = some r := by first | (rw [hy217]; with_reducible exact H) | (have H2_ := (Option.bind_some _ _).symm.trans H; rw [hy217]; with_reducible exact H2_) | (have H2_ := (Option.bind_some _ _).symm.trans H; with_reducible exact H2_) | with_reducible exact H | (rw [hy217]; exact H) | exact H
   have Ny217 := Aside0.mk hy217
   clear hy217
   by_cases c4 : ((l0_4.length : Int) : Int).toNat ≤ 35184372088832
   ·
    rw [if_pos c4] at H
    have c4b0 := eq_true c4
    have c4b1 : decide (((l0_4.length : Int) : Int).toNat ≤ 35184372088832) = true := decide_eq_true c4
    clear c4
    obtain ⟨y220, hy220⟩ : ∃ y_ : List Int, y_ = (([] : List Int)) := ⟨_, rfl⟩
    replace H : (live_outs.l0 k y214 y217 y220 (l0_4.length : Int) 0 l0_0 l0_1 a0_2 a0_3 l0_4) = some r := by first | (rw [hy220]; with_reducible exact H) | (have H2_ := (Option.bind_some _ _).symm.trans H; rw [hy220]; with_reducible exact H2_) | (have H2_ := (Option.bind_some _ _).symm.trans H; with_reducible exact H2_) | with_reducible exact H | (rw [hy220]; exact H) | exact H
    have Ny220 := Aside0.mk hy220
    clear hy220
    have H' := Aside0.mk H
    clear H
    go_enter Tryd.func39, Tryd.ntmps39
    go_wp2_with (first | ((with_reducible refine gate_dst (N := 1) rfl ?_); refine box_event ?hg (N := 1) ?hd (cs := #[.slice A0_0 l0_0.length c0_0, .slice A0_1 l0_1.length c0_1, .int .i64 a0_2, .int .i64 a0_3, .slice A0_4 l0_4.length c0_4]) (t := 30) ?hr ?_; (case hd => rfl); (case hg => rfl); (case hr => first | (go_simp; done) | (go_simp; rfl)); intro gb213 hg w5 hbox hb; have BK213 := Aside0.mk (hbox); have GW213 := ge hg (bl HB); have GE213 := ge hg (bl HB); replace HB := Aside0.mk (below_step (bl HB) hb); clear hb hbox hg; obtain ⟨hcz6_0, hcz6_1, hcz6_2, hcz6_3, hcz6_4⟩ := bk5 BK213.out; have hfz6_0 := bf BK213.out) | ((with_reducible refine gate_dst (N := 15) rfl ?_); refine Kd.N_make (Kd.slice 67 (Kd.int .u64)) _ 31 rfl (N' := 15) rfl 60 _ _ rfl (l0_4.length : Int) rfl rfl Tryd.underlying60 (.slice none 0 0) 24 info31 rfl (by decide) (by omega) [] (ok := fun k_ => w5.heap.size ≤ k_) (okp := fun _ => False) (Kd.FK_slice_mk (Nat.le_refl _) (Kd.F_nil _ _ _)) (fun _ hk => hk.elim) (Nat.le_refl _) (of_decide_eq_true (by assumption)) (Nat.le_trans (Nat.mul_le_mul_right _ (of_decide_eq_true (by assumption) : (l0_4.length : Int).toNat ≤ 11728124029610)) (by omega)) (Below.refl _ _) (Nat.le_refl _) ?_; intro v215 w7 ho8 hb hg_ hnew_; clear hg_ hnew_; (first | rw [← Ny214.out] at ho8 | (simp only [Int.reduceToNat] at ho8; rw [← Ny214.out] at ho8)); have HO216 := Aside0.mk (Kd.N_lower (Kd.N_mono (ok' := fun k_ => (w.heap.size ≤ k_) ∧ k_ ≠ gb213) ho8 (fun k_ hk_ => ⟨(Nat.le_trans (below_size (bl HB)) hk_), (Kd.freshB (g := gb213) (o := .cells #[.slice A0_0 l0_0.length c0_0, .slice A0_1 l0_1.length c0_1, .int .i64 a0_2, .int .i64 a0_3, .slice A0_4 l0_4.length c0_4] 30 (0, 0)) (bx BK213.out) k_ hk_)⟩)) (below_size (bl HB))); replace BK213 := Aside0.mk (blk_below (bx BK213.out) hb); replace HB := Aside0.mk (below_step (bl HB) hb); clear hb ho8; obtain ⟨hcz9_0, hcz9_1, hcz9_2, hcz9_3, hcz9_4⟩ := bk5 BK213.out; have hfz9_0 := bf BK213.out) | ((with_reducible refine gate_dst (N := 19) rfl ?_); refine Kd.N_make (Kd.slice 67 (Kd.int .u64)) _ 31 rfl (N' := 19) rfl 60 _ _ rfl (l0_4.length : Int) rfl rfl Tryd.underlying60 (.slice none 0 0) 24 info31 rfl (by decide) (by omega) [] (ok := fun k_ => w7.heap.size ≤ k_) (okp := fun _ => False) (Kd.FK_slice_mk (Nat.le_refl _) (Kd.F_nil _ _ _)) (fun _ hk => hk.elim) (Nat.le_refl _) (of_decide_eq_true (by assumption)) (Nat.le_trans (Nat.mul_le_mul_right _ (of_decide_eq_true (by assumption) : (l0_4.length : Int).toNat ≤ 11728124029610)) (by omega)) (Below.refl _ _) (Nat.le_refl _) ?_; intro v218 w10 ho11 hb hg_ hnew_; clear hg_ hnew_; (first | rw [← Ny217.out] at ho11 | (simp only [Int.reduceToNat] at ho11; rw [← Ny217.out] at ho11)); have HO219 := Aside0.mk (Kd.N_lower (Kd.N_mono (ok' := fun k_ => (w.heap.size ≤ k_) ∧ some k_ ≠ (v215 : Value).ownBlock ∧ k_ ≠ gb213) ho11 (fun k_ hk_ => ⟨(Nat.le_trans (below_size (bl HB)) hk_), (Kd.fresh' (Kd.N_lt (Kd.Nx HO216.out)) k_ hk_), (Kd.freshB (g := gb213) (o := .cells #[.slice A0_0 l0_0.length c0_0, .slice A0_1 l0_1.length c0_1, .int .i64 a0_2, .int .i64 a0_3, .slice A0_4 l0_4.length c0_4] 30 (0, 0)) (bx BK213.out) k_ hk_)⟩)) (below_size (bl HB))); replace HO216 := Aside0.mk (Kd.N_elder' (Kd.Nx HO216.out) (Kd.N_base ho11) hb); replace BK213 := Aside0.mk (blk_below (bx BK213.out) hb); replace HB := Aside0.mk (below_step (bl HB) hb); clear hb ho11; obtain ⟨hcz12_0, hcz12_1, hcz12_2, hcz12_3, hcz12_4⟩ := bk5 BK213.out; have hfz12_0 := bf BK213.out) | ((with_reducible refine gate_dst (N := 23) rfl ?_); refine Kd.R_makecap (Kd.int .i64) _ 3 rfl (N := 23) rfl 27 _ _ rfl (l0_4.length : Int) rfl rfl Tryd.underlying27 (.int .i64 0) 8 info3 rfl (by decide) (by omega) (ok := fun _ => True) (okp := fun _ => True) trivial (of_decide_eq_true (by assumption)) (Nat.le_trans (Nat.mul_le_mul_right _ (of_decide_eq_true (by assumption) : (l0_4.length : Int).toNat ≤ 35184372088832)) (by omega)) (Below.refl _ _) (Nat.le_refl _) ?_; intro v221 w13 ho14 hb hg_ hnew_; clear hg_ hnew_; (first | rw [← Ny220.out] at ho14 | (simp only [Int.reduceToNat] at ho14; rw [← Ny220.out] at ho14)); replace HO216 := Aside0.mk (Kd.N_elder' (Kd.Nx HO216.out) (Kd.R_base ho14) hb); replace HO219 := Aside0.mk (Kd.N_elder' (Kd.Nx HO219.out) (Kd.R_base ho14) hb); have HO222 := Aside0.mk (Kd.R_lower (Kd.R_newM (M := fun k_ => (w.heap.size ≤ k_)) ho14 (below_size (bl HB)) (fun k_ h_ => h_)) (below_size (bl HB))); replace BK213 := Aside0.mk (blk_below (bx BK213.out) hb); replace HB := Aside0.mk (below_step (bl HB) hb); clear hb ho14; obtain ⟨hcz15_0, hcz15_1, hcz15_2, hcz15_3, hcz15_4⟩ := bk5 BK213.out; have hfz15_0 := bf BK213.out))
    go_loopg [5, 27] k (fun kq v5 v27 w' => ∃ (x5_1 : List Int) (x27_1 : Int), v27 = .int .i64 x27_1 ∧ Aside0 (live_outs.l0 kq y214 y217 x5_1 (l0_4.length : Int) x27_1 l0_0 l0_1 a0_2 a0_3 l0_4 = some r) ∧ Aside0 (kq ≤ k) ∧ Aside0 (Kd.N (Kd.slice 67 (Kd.int .u64)) 31 w' w.heap.size (fun k_ => (w.heap.size ≤ k_) ∧ some k_ ≠ (v218 : Value).ownBlock ∧ some k_ ≠ (v5 : Value).ownBlock ∧ k_ ≠ gb213) v215 y214) ∧ Aside0 (Kd.N (Kd.slice 67 (Kd.int .u64)) 31 w' w.heap.size (fun k_ => (w.heap.size ≤ k_) ∧ some k_ ≠ (v215 : Value).ownBlock ∧ some k_ ≠ (v5 : Value).ownBlock ∧ k_ ≠ gb213) v218 y217) ∧ Aside0 (Kd.R (Kd.int .i64) 3 w' w.heap.size (fun k_ => (w.heap.size ≤ k_)) v5 x5_1) ∧ Aside0 (w'.heap[gb213]? = some (.cells #[(.slice A0_0 l0_0.length c0_0), (.slice A0_1 l0_1.length c0_1), .int .i64 a0_2, .int .i64 a0_3, (.slice A0_4 l0_4.length c0_4)] 30 (0, 0))) ∧ Aside0 (Below w.heap.size w w'))
    case atStart => exact ⟨(y220), (0), (by first | rfl | (simp; done) | (simp [*]; done)), H', ⟨Nat.le_refl _⟩, ⟨by (with_reducible repeat (first | apply Kd.N_alloc | apply Kd.N_drewN | apply Kd.N_drew)); exact Kd.N_mono HO216.out (fun _ hk => ⟨hk.1.1.1, ⟨hk.1.2, ⟨hk.2, hk.1.1.2⟩⟩⟩)⟩, ⟨by (with_reducible repeat (first | apply Kd.N_alloc | apply Kd.N_drewN | apply Kd.N_drew)); exact Kd.N_mono HO219.out (fun _ hk => ⟨hk.1.1, ⟨hk.1.2.1, ⟨hk.2, hk.1.2.2⟩⟩⟩)⟩, ⟨by (with_reducible repeat (first | apply Kd.R_alloc | apply Kd.R_drewN | apply Kd.R_drew)); exact Kd.R_mono HO222.out (fun _ hk => hk.1)⟩, ⟨bx BK213.out⟩, ⟨bl HB⟩⟩
    case round =>
     clear H'
     try clear c2
     try clear c2b0
     try clear c2b1
     try clear p2
     try clear c3
     try clear c3b0
     try clear c3b1
     try clear c4
     try clear c4b0
     try clear c4b1
     try clear hcz12_0 hcz12_1 hcz12_2 hcz12_3 hcz12_4
     try clear hcz15_0 hcz15_1 hcz15_2 hcz15_3 hcz15_4
     try clear hcz6_0 hcz6_1 hcz6_2 hcz6_3 hcz6_4
     try clear hcz9_0 hcz9_1 hcz9_2 hcz9_3 hcz9_4
     try clear hfz12_0
     try clear hfz15_0
     try clear hfz6_0
     try clear hfz9_0
     obtain ⟨x5_1, x27_1, rfl, HA, HK1, HO_3, HO_4, HO_5, BK213, HB⟩ := hrel
     cases gk with
     | zero => exact absurd HA.out (by simp [live_outs.l0])
     | succ k1 =>
      have H := HA.out
      clear HA
      simp only [live_outs.l0] at H
      by_cases c16 : x27_1 < (l0_4.length : Int)
      ·
       rw [if_pos c16] at H
       have c16b0 : decide (x27_1 < (l0_4.length : Int)) = true := decide_eq_true c16
       clear c16
       by_cases c17 : x5_1.length < 17592186044416
       ·
        rw [if_pos c17] at H
        have LMc17 := Aside0.mk c17
        clear c17
        obtain ⟨y223, hy223⟩ : ∃ y_ : List Int, y_ = (x5_1 ++ [x27_1]) := ⟨_, rfl⟩
        replace H : (live_outs.l0 k1 y214 y217 y223 (l0_4.length : Int) (wrap64 (x27_1 + 1)) l0_0 l0_1 a0_2 a0_3 l0_4) = some r := by first | (rw [hy223]; with_reducible exact H) | (have H2_ := (Option.bind_some _ _).symm.trans H; rw [hy223]; with_reducible exact H2_) | (have H2_ := (Option.bind_some _ _).symm.trans H; with_reducible exact H2_) | with_reducible exact H | (rw [hy223]; exact H) | exact H
        have Ny223 := Aside0.mk hy223
        clear hy223
        have H' := Aside0.mk H
        clear H
        go_wp2_with (first | ((with_reducible refine gate_builtin (b := .append) (xs := #[.tmp 30, .tmp 32]) rfl ?_); at_builtin; refine Kd.R_append (Kd.int .i64) (w0 := w) w.heap.size rfl (.tmp 30) (.tmp 32) 27 3 (.int .i64 0) 8 rfl Tryd.underlying27 info3 rfl (by decide) (by omega) u5 x5_1 x27_1 [.int .i64 x27_1] (fun k_ => (w.heap.size ≤ k_)) (fun _ => False) rfl rfl ?aP (fun _ hk => hk.elim) ?aF ?aO ?aB ?aS ?aL ?_; (case aP => exact rfl); (case aB => exact (bl HB)); (case aF => exact (fun k_ hk => (Nat.le_trans (below_size (bl HB)) hk))); (case aO => exact (Kd.Rx HO_5.out)); (case aS => exact (below_size (bl HB))); (case aL => have := LMc17.out; omega); intro v224 w18 ho hb hg hat; rw [← Ny223.out] at ho; replace HO_3 := Aside0.mk (Kd.N_afterv (ok := (fun k_ => (w.heap.size ≤ k_) ∧ some k_ ≠ (v218 : Value).ownBlock ∧ k_ ≠ gb213)) (Kd.Nx (Kd.N_mono HO_3.out (fun _ hk => ⟨⟨hk.1, ⟨hk.2.1, hk.2.2.2⟩⟩, hk.2.2.1⟩))) hg hat); replace HO_4 := Aside0.mk (Kd.N_afterv (ok := (fun k_ => (w.heap.size ≤ k_) ∧ some k_ ≠ (v215 : Value).ownBlock ∧ k_ ≠ gb213)) (Kd.Nx (Kd.N_mono HO_4.out (fun _ hk => ⟨⟨hk.1, ⟨hk.2.1, hk.2.2.2⟩⟩, hk.2.2.1⟩))) hg hat); replace BK213 := Aside0.mk (blk_grown (g := gb213) (o := .cells #[.slice A0_0 l0_0.length c0_0, .slice A0_1 l0_1.length c0_1, .int .i64 a0_2, .int .i64 a0_3, .slice A0_4 l0_4.length c0_4] 30 (0, 0)) (bx BK213.out) hg (Kd.R_ne HO_5.out BK213.out (by decide))); replace HB := Aside0.mk (hb); have HO225 := Aside0.mk (ho); clear HO_5; clear ho hb hg hat))
        go_roundg k1
        case measure => have := HK1.out; omega
        case rel => exact ⟨(y223), (wrap64 (x27_1 + 1)), (by first | rfl | (simp; done) | (simp [*]; done)), H', ⟨by have := HK1.out; omega⟩, ⟨by (with_reducible repeat (first | apply Kd.N_alloc | apply Kd.N_drewN | apply Kd.N_drew)); exact Kd.N_mono HO_3.out (fun _ hk => ⟨hk.1.1, ⟨hk.1.2.1, ⟨hk.2, hk.1.2.2⟩⟩⟩)⟩, ⟨by (with_reducible repeat (first | apply Kd.N_alloc | apply Kd.N_drewN | apply Kd.N_drew)); exact Kd.N_mono HO_4.out (fun _ hk => ⟨hk.1.1, ⟨hk.1.2.1, ⟨hk.2, hk.1.2.2⟩⟩⟩)⟩, ⟨Kd.Rx HO225.out⟩, ⟨bx BK213.out⟩, ⟨bl HB⟩⟩
       rw [if_neg c17] at H
       exact absurd H (by simp)
      rw [if_neg c16] at H
      have c16b0 : decide (x27_1 < (l0_4.length : Int)) = false := decide_eq_false c16
      clear c16
      have H' := Aside0.mk H
      clear H
      go_wp2
      go_loopg [5] k1 (fun kq v5 w' => ∃ (x3_2 : List (List Int)) (x4_2 : List (List Int)) (x5_2 : List Int), Aside0 (live_outs.l1 kq x3_2 x4_2 x5_2 l0_0 l0_1 a0_2 a0_3 l0_4 = some r) ∧ Aside0 (kq ≤ k1) ∧ Aside0 (Kd.N (Kd.slice 67 (Kd.int .u64)) 31 w' w.heap.size (fun k_ => (w.heap.size ≤ k_) ∧ some k_ ≠ (v218 : Value).ownBlock ∧ some k_ ≠ (v5 : Value).ownBlock ∧ k_ ≠ gb213) v215 x3_2) ∧ Aside0 (Kd.N (Kd.slice 67 (Kd.int .u64)) 31 w' w.heap.size (fun k_ => (w.heap.size ≤ k_) ∧ some k_ ≠ (v215 : Value).ownBlock ∧ some k_ ≠ (v5 : Value).ownBlock ∧ k_ ≠ gb213) v218 x4_2) ∧ Aside0 (Kd.R (Kd.int .i64) 3 w' w.heap.size (fun k_ => (w.heap.size ≤ k_)) v5 x5_2) ∧ Aside0 (w'.heap[gb213]? = some (.cells #[(.slice A0_0 l0_0.length c0_0), (.slice A0_1 l0_1.length c0_1), .int .i64 a0_2, .int .i64 a0_3, (.slice A0_4 l0_4.length c0_4)] 30 (0, 0))) ∧ Aside0 (Below w.heap.size w w'))
      case atStart => exact ⟨(y214), (y217), (x5_1), H', ⟨Nat.le_refl _⟩, ⟨Kd.Nx HO_3.out⟩, ⟨Kd.Nx HO_4.out⟩, ⟨Kd.Rx HO_5.out⟩, ⟨bx BK213.out⟩, ⟨bl HB⟩⟩
      case round =>
       clear H'
       try clear c1
       try clear c2
       try clear c2b0
       try clear c2b1
       try clear p2
       try clear c3
       try clear c3b0
       try clear c3b1
       try clear c4
       try clear c4b0
       try clear c4b1
       try clear p6
       try clear c16
       try clear c16b0
       try clear c17
       try clear hcz12_0 hcz12_1 hcz12_2 hcz12_3 hcz12_4
       try clear hcz15_0 hcz15_1 hcz15_2 hcz15_3 hcz15_4
       try clear hcz6_0 hcz6_1 hcz6_2 hcz6_3 hcz6_4
       try clear hcz9_0 hcz9_1 hcz9_2 hcz9_3 hcz9_4
       try clear hfz12_0
       try clear hfz15_0
       try clear hfz6_0
       try clear hfz9_0
       try clear p2
       obtain ⟨x3_2, x4_2, x5_2, HA, HK2, HO_3, HO_4, HO_5, BK213, HB⟩ := hrel
       cases gk with
       | zero => exact absurd HA.out (by simp [live_outs.l1])
       | succ k2 =>
        have H := HA.out
        clear HA
        simp only [live_outs.l1] at H
        by_cases c19 : (x5_2.length : Int) > 0
        ·
         rw [if_pos c19] at H
         have c19b0 : decide (0 < (x5_2.length : Int)) = true := decide_eq_true c19
         have c19b1 : decide (0 < x5_2.length) = true := decide_eq_true (by omega)
         clear c19
         obtain ⟨ji20, hji20⟩ : ∃ j_ : Int, (wrap64 ((x5_2.length : Int) - 1)) = j_ := ⟨_, rfl⟩
         replace H : (if 0 ≤ (ji20) then (if (ji20) < (x5_2.length : Int) then (if (ji20) ≤ (x5_2.length : Int) then ((flow_Next.f k2 l0_0 l0_1 a0_2 a0_3 l0_4 (rd x5_2 (ji20))).bind fun t230 => (live_outs.l2 k2 x3_2 x4_2 (x5_2.take ((ji20) : Int).toNat) (rd x5_2 (ji20)) ([] : List Int) t230 (t230.length : Int) 0 l0_0 l0_1 a0_2 a0_3 l0_4)) else (none)) else (none)) else (none)) = some r := by first | (rw [hji20] at H; exact H) | (simp only [hji20] at H ⊢; exact H)
         have hji20w : (IntKind.i64.wrap ((x5_2.length : Int) - 1)) = ji20 := (i64_w _).trans hji20
         by_cases c21 : 0 ≤ (ji20)
         ·
          rw [if_pos c21] at H
          have c21b0 : decide (0 ≤ (ji20)) = true := decide_eq_true c21
          clear c21
          by_cases c22 : (ji20) < (x5_2.length : Int)
          ·
           rw [if_pos c22] at H
           have c22b0 : decide ((ji20) < (x5_2.length : Int)) = true := decide_eq_true c22
           clear c22
           by_cases c23 : (ji20) ≤ (x5_2.length : Int)
           ·
            rw [if_pos c23] at H
            have c23b0 := eq_true c23
            have c23b1 : decide ((ji20) ≤ (x5_2.length : Int)) = true := decide_eq_true c23
            clear c23
            obtain ⟨y227, hy227⟩ : ∃ y_ : List Int, y_ = (x5_2.take ((ji20) : Int).toNat) := ⟨_, rfl⟩
            replace H : ((flow_Next.f k2 l0_0 l0_1 a0_2 a0_3 l0_4 (rd x5_2 (ji20))).bind fun t230 => (live_outs.l2 k2 x3_2 x4_2 y227 (rd x5_2 (ji20)) ([] : List Int) t230 (t230.length : Int) 0 l0_0 l0_1 a0_2 a0_3 l0_4)) = some r := by first | (rw [hy227]; with_reducible exact H) | (have H2_ := (Option.bind_some _ _).symm.trans H; rw [hy227]; with_reducible exact H2_) | (have H2_ := (Option.bind_some _ _).symm.trans H; with_reducible exact H2_) | with_reducible exact H | (rw [hy227]; exact H) | exact H
            have Ny227 := Aside0.mk hy227
            clear hy227
            replace H := Option.bind_eq_some_iff.mp H
            obtain ⟨t230, A240, H⟩ := H
            replace H : (live_outs.l2 k2 x3_2 x4_2 y227 (rd x5_2 (ji20)) ([] : List Int) t230 (t230.length : Int) 0 l0_0 l0_1 a0_2 a0_3 l0_4) = some r := H
            have A24 := Aside0.mk A240
            clear A240
            have H' := Aside0.mk H
            clear H
            obtain ⟨Ao25, co25, eo25⟩ := Kd.R_slice HO_5.out
            subst eo25
            have p226 : 0 ≤ ((ji20) : Int) := of_decide_eq_true (by assumption)
            have q226 : (ji20) < (x5_2.length : Int) := of_decide_eq_true (by assumption)
            obtain ⟨ad226, e226, hx226_0⟩ := Kd.at_int (Kd.R_reads' HO_5.out).2.2 (ji20) p226 q226
            cases e226
            replace p226 := eq_true p226
            replace q226 := eq_true q226
            have q26 : ((ji20) : Int) ≤ ((x5_2.length : Int) : Int) := of_decide_eq_true (by assumption)
            obtain ⟨i026, hi026, _, hsz26, _⟩ := info_parts info3
            have hcut26 := cut_to (P := Tryd.prog) 27 3 .i64 Tryd.underlying27 hi026 (some ad226) x5_2.length co25 (ji20) (of_decide_eq_true (by assumption)) q26 (Kd.R_reads' HO_5.out).2.1
            have hr26 := Kd.R_take (m := ((ji20) : Int).toNat) HO_5.out (by omega)
            have hy26 : y227.length = ((ji20) : Int).toNat := (by rw [Ny227.out, List.length_take]; omega)
            rw [← Ny227.out] at hr26
            rw [← hy26] at hr26 hcut26
            clear hy26 hi026 hsz26 HO_5
            have HO229 := Aside0.mk hr26
            clear hr26
            replace q26 := eq_true q26
            obtain ⟨hcz27_0, hcz27_1, hcz27_2, hcz27_3, hcz27_4⟩ := bk5 BK213.out
            have hfz27_0 := bf BK213.out
            go_wp2_with (first | ((with_reducible refine gate_callee (f := 60) rfl ?_); refine goesL_ (some 51) rfl rfl Tryd.func60 (by kernel_rfl) rfl #[.agg #[.slice A0_0 l0_0.length c0_0, .slice A0_1 l0_1.length c0_1, .int .i64 a0_2, .int .i64 a0_3, .slice A0_4 l0_4.length c0_4], .int .i64 (rd x5_2 (ji20))] rfl (by (try simp only [List.map_toArray, List.map_cons, List.map_nil]); first | done | (simp only [hji20]; rfl) | rfl | (simp only [List.length_drop, List.length_take]; rfl)) ?_; (with_reducible refine (flow_Next.calls k2 _ _ l0_0 _ _ l0_1 a0_2 a0_3 _ _ l0_4 (rd x5_2 (ji20)) t230 _ ?side1 ?side2 ?side3 ?side4 ?side5 ?side6 A24.out).mono ?_); (case side1 => exact Kd.Cx (Kd.C_below HR0_0.out HB.out)); (case side2 => exact HC0_0.out); (case side3 => exact Kd.Cx (Kd.C_below HR0_1.out HB.out)); (case side4 => exact HC0_1.out); (case side5 => exact Kd.Cx (Kd.C_below HR0_4.out HB.out)); (case side6 => exact HC0_4.out); rintro e w28 ⟨v231, rfl, ho0, hb⟩; refine ⟨_, rfl, ?_⟩; replace HO_3 := Aside0.mk (Kd.N_elder' (Kd.Nx HO_3.out) (Kd.R_base ho0) hb); replace HO_4 := Aside0.mk (Kd.N_elder' (Kd.Nx HO_4.out) (Kd.R_base ho0) hb); have HO232 := Aside0.mk (Kd.R_lower (Kd.R_new' (Kd.R_newM (M := fun k_ => (w.heap.size ≤ k_)) ho0 (below_size (bl HB)) (fun k_ h_ => h_)) (Kd.R_lt (Kd.Rx HO229.out))) (below_size (bl HB))); replace HO229 := Aside0.mk (Kd.R_elder' (Kd.Rx HO229.out) (Kd.R_base ho0) hb); replace BK213 := Aside0.mk (blk_below (bx BK213.out) hb); replace HB := Aside0.mk (below_step (bl HB) hb); (try clear hb); (try clear hb2); (try clear hk); (try clear hi); (try clear ho0); obtain ⟨Ao29, co29, eo29⟩ := Kd.R_slice HO232.out; subst eo29))
            go_loopg [8, 53] k2 (fun kq v8 v53 w' => ∃ (x8_3 : List Int) (x53_3 : Int), v53 = .int .i64 x53_3 ∧ Aside0 (live_outs.l2 kq x3_2 x4_2 y227 (rd x5_2 (ji20)) x8_3 t230 (t230.length : Int) x53_3 l0_0 l0_1 a0_2 a0_3 l0_4 = some r) ∧ Aside0 (kq ≤ k2) ∧ Aside0 (Kd.N (Kd.slice 67 (Kd.int .u64)) 31 w' w.heap.size (fun k_ => (w.heap.size ≤ k_) ∧ some k_ ≠ (v218 : Value).ownBlock ∧ some k_ ≠ ((.slice (some ad226) y227.length co25) : Value).ownBlock ∧ some k_ ≠ ((.slice Ao29 t230.length co29) : Value).ownBlock ∧ k_ ≠ gb213) v215 x3_2) ∧ Aside0 (Kd.N (Kd.slice 67 (Kd.int .u64)) 31 w' w.heap.size (fun k_ => (w.heap.size ≤ k_) ∧ some k_ ≠ (v215 : Value).ownBlock ∧ some k_ ≠ ((.slice (some ad226) y227.length co25) : Value).ownBlock ∧ some k_ ≠ ((.slice Ao29 t230.length co29) : Value).ownBlock ∧ k_ ≠ gb213) v218 x4_2) ∧ Aside0 (Kd.R (Kd.int .i64) 3 w' w.heap.size (fun k_ => (w.heap.size ≤ k_) ∧ some k_ ≠ ((.slice Ao29 t230.length co29) : Value).ownBlock) (.slice (some ad226) y227.length co25) y227) ∧ Aside0 (Kd.V (Kd.int .u64) 67 w' w.heap.size (fun k_ => (w.heap.size ≤ k_) ∧ some k_ ≠ (v215 : Value).ownBlock ∧ some k_ ≠ (v218 : Value).ownBlock ∧ some k_ ≠ ((.slice (some ad226) y227.length co25) : Value).ownBlock ∧ some k_ ≠ ((.slice Ao29 t230.length co29) : Value).ownBlock ∧ k_ ≠ gb213) v8 x8_3) ∧ Aside0 (Kd.R (Kd.int .i64) 3 w' w.heap.size (fun k_ => (w.heap.size ≤ k_) ∧ some k_ ≠ ((.slice (some ad226) y227.length co25) : Value).ownBlock) (.slice Ao29 t230.length co29) t230) ∧ Aside0 (w'.heap[gb213]? = some (.cells #[(.slice A0_0 l0_0.length c0_0), (.slice A0_1 l0_1.length c0_1), .int .i64 a0_2, .int .i64 a0_3, (.slice A0_4 l0_4.length c0_4)] 30 (0, 0))) ∧ Aside0 (Below w.heap.size w w'))
            case atStart => exact ⟨(([] : List Int)), (0), (by first | rfl | (simp; done) | (simp [*]; done)), H', ⟨Nat.le_refl _⟩, ⟨by (with_reducible repeat (first | apply Kd.N_alloc | apply Kd.N_drewN | apply Kd.N_drew)); exact Kd.N_mono HO_3.out (fun _ hk => ⟨hk.1.1, ⟨hk.1.2.1, ⟨hk.1.2.2.1, ⟨hk.2, hk.1.2.2.2⟩⟩⟩⟩)⟩, ⟨by (with_reducible repeat (first | apply Kd.N_alloc | apply Kd.N_drewN | apply Kd.N_drew)); exact Kd.N_mono HO_4.out (fun _ hk => ⟨hk.1.1, ⟨hk.1.2.1, ⟨hk.1.2.2.1, ⟨hk.2, hk.1.2.2.2⟩⟩⟩⟩)⟩, ⟨Kd.Rx HO229.out⟩, ⟨(Kd.V_nil _ _ _ _ _)⟩, ⟨by (with_reducible repeat (first | apply Kd.R_alloc | apply Kd.R_drewN | apply Kd.R_drew)); exact Kd.R_mono HO232.out (fun _ hk => ⟨hk.1.1, hk.2⟩)⟩, ⟨bx BK213.out⟩, ⟨bl HB⟩⟩
            case round =>
             clear H'
             try clear c1
             try clear c2
             try clear c2b0
             try clear c2b1
             try clear p2
             try clear q2
             try clear hx2
             try clear c3
             try clear c3b0
             try clear c3b1
             try clear c4
             try clear c4b0
             try clear c4b1
             try clear c6
             try clear p6
             try clear c16
             try clear c16b0
             try clear c17
             try clear c19
             try clear c19b0
             try clear c19b1
             try clear c21
             try clear c21b0
             try clear c22
             try clear c22b0
             try clear p22
             try clear q22
             try clear hx22
             try clear c23
             try clear c23b0
             try clear c23b1
             try clear q26
             try clear hcz12_0 hcz12_1 hcz12_2 hcz12_3 hcz12_4
             try clear hcz15_0 hcz15_1 hcz15_2 hcz15_3 hcz15_4
             try clear hcz27_0 hcz27_1 hcz27_2 hcz27_3 hcz27_4
             try clear hcz6_0 hcz6_1 hcz6_2 hcz6_3 hcz6_4
             try clear hcz9_0 hcz9_1 hcz9_2 hcz9_3 hcz9_4
             try clear hfz12_0
             try clear hfz15_0
             try clear hfz27_0
             try clear hfz6_0
             try clear hfz9_0
             try clear hx226_0
             try clear p2
             try clear p226
             try clear p6
             try clear q226
             try clear q26
             obtain ⟨x8_3, x53_3, rfl, HA, HK3, HO_3, HO_4, HO_5, HO_8, HO_51, BK213, HB⟩ := hrel
             cases gk with
             | zero => exact absurd HA.out (by simp [live_outs.l2])
             | succ k3 =>
              have H := HA.out
              clear HA
              simp only [live_outs.l2] at H
              by_cases c30 : x53_3 < (t230.length : Int)
              ·
               rw [if_pos c30] at H
               have c30b0 : decide (x53_3 < (t230.length : Int)) = true := decide_eq_true c30
               clear c30
               by_cases c31 : 0 ≤ x53_3
               ·
                rw [if_pos c31] at H
                have c31b0 : decide (0 ≤ x53_3) = true := decide_eq_true c31
                clear c31
                by_cases c32 : x53_3 < (t230.length : Int)
                ·
                 rw [if_pos c32] at H
                 have c32b0 : decide (x53_3 < (t230.length : Int)) = true := decide_eq_true c32
                 clear c32
                 by_cases c33 : 0 ≤ (rd t230 x53_3)
                 ·
                  rw [if_pos c33] at H
                  have c33b0 : decide (0 ≤ (rd t230 x53_3)) = true := decide_eq_true c33
                  clear c33
                  by_cases c34 : (rd t230 x53_3) < (x4_2.length : Int)
                  ·
                   rw [if_pos c34] at H
                   have c34b0 : decide ((rd t230 x53_3) < (x4_2.length : Int)) = true := decide_eq_true c34
                   clear c34
                   obtain ⟨y235, hy235⟩ : ∃ y_ : List (List Int), y_ = (([x8_3, rd_L1 x4_2 (rd t230 x53_3)] : List (List Int))) := ⟨_, rfl⟩
                   replace H : ((bitset_Join.f y235).bind fun t238 => (live_outs.l2 k3 x3_2 x4_2 y227 (rd x5_2 (ji20)) t238 t230 (t230.length : Int) (wrap64 (x53_3 + 1)) l0_0 l0_1 a0_2 a0_3 l0_4)) = some r := by first | (rw [hy235]; with_reducible exact H) | (have H2_ := (Option.bind_some _ _).symm.trans H; rw [hy235]; with_reducible exact H2_) | (have H2_ := (Option.bind_some _ _).symm.trans H; with_reducible exact H2_) | with_reducible exact H | (rw [hy235]; exact H) | exact H
                   have Ny235 := Aside0.mk hy235
                   clear hy235
                   replace H := Option.bind_eq_some_iff.mp H
                   obtain ⟨t238, A350, H⟩ := H
                   replace H : (live_outs.l2 k3 x3_2 x4_2 y227 (rd x5_2 (ji20)) t238 t230 (t230.length : Int) (wrap64 (x53_3 + 1)) l0_0 l0_1 a0_2 a0_3 l0_4) = some r := H
                   have A35 := Aside0.mk A350
                   clear A350
                   have H' := Aside0.mk H
                   clear H
                   have p233 : 0 ≤ (x53_3 : Int) := of_decide_eq_true (by assumption)
                   have q233 : x53_3 < (t230.length : Int) := of_decide_eq_true (by assumption)
                   obtain ⟨ad233, e233, hx233_0⟩ := Kd.at_int (Kd.R_reads' HO_51.out).2.2 x53_3 p233 q233
                   cases e233
                   replace p233 := eq_true p233
                   replace q233 := eq_true q233
                   obtain ⟨Ao36, co36, eo36⟩ := Kd.N_slice HO_4.out
                   subst eo36
                   have p234 : 0 ≤ ((rd t230 x53_3) : Int) := of_decide_eq_true (by assumption)
                   have q234 : (rd t230 x53_3) < (x4_2.length : Int) := of_decide_eq_true (by assumption)
                   obtain ⟨ad234, A234_0, c234_0, e234, hx234_0, hl234_0, hi234_0⟩ := at_L1 (Kd.N_reads' HO_4.out).2.2 (rd t230 x53_3) p234 q234
                   cases e234
                   obtain ⟨ce234, hce234, hMe234, hcc234⟩ := Kd.N_get HO_4.out [] (rd t230 x53_3) p234 (by first | exact q234 | exact of_decide_eq_true (by assumption) | (have e_ := (Kd.N_reads' HO_4.out).1; omega))
                   obtain ⟨ua234_0, uc234_0, rfl, ul234_0, ge234_0⟩ := Kd.FK_slice_open hMe234
                   have hv234_0 := hcc234 0 _ rfl
                   rw [Nat.add_zero, show ((Kd.slice 67 (Kd.int .u64))).sz = 1 from rfl, Nat.mul_one] at hv234_0
                   replace hv234_0 := Option.some.inj (hv234_0.symm.trans hx234_0)
                   injection hv234_0 with hva_ hvn_ hvc_
                   rw [hva_] at ge234_0
                   rw [hvc_] at ul234_0
                   have HL234_0 := Aside0.mk (show Kd.V (Kd.int .u64) 67 _ w.heap.size _ _ (rd_L1 x4_2 (rd t230 x53_3)) from Kd.V_mk ul234_0 ge234_0)
                   clear hva_ hvn_ hvc_ ge234_0 ul234_0
                   clear hcc234 hce234
                   have HR234_0 := Aside0.mk hi234_0
                   have HC234_0 := Aside0.mk hl234_0
                   clear hi234_0 hl234_0
                   replace p234 := eq_true p234
                   replace q234 := eq_true q234
                   obtain ⟨Ao37, co37, eo37⟩ := Kd.V_slice HO_8.out
                   subst eo37
                   go_wp2_with (first | ((with_reducible refine gate_dst (N := 62) rfl ?_); refine Kd.N_lit (Kd.slice 67 (Kd.int .u64)) _ 31 ?hg (N' := 62) ?hd (xs := ([x8_3, rd_L1 x4_2 (rd t230 x53_3)] : List (List Int))) (inner := [.slice Ao37 x8_3.length co37, .slice A234_0 (rd_L1 x4_2 (rd t230 x53_3)).length c234_0]) (ok := (fun k_ => (w.heap.size ≤ k_) ∧ some k_ ≠ (v215 : Value).ownBlock ∧ some k_ ≠ (.slice (some ad234) x4_2.length co36 : Value).ownBlock ∧ some k_ ≠ (.slice (some ad226) y227.length co25 : Value).ownBlock ∧ some k_ ≠ (.slice (some ad233) t230.length co29 : Value).ownBlock ∧ k_ ≠ gb213)) (okp := (fun k_ => (w.heap.size ≤ k_) ∧ some k_ ≠ (v215 : Value).ownBlock ∧ some k_ ≠ (.slice (some ad234) x4_2.length co36 : Value).ownBlock ∧ some k_ ≠ (.slice (some ad226) y227.length co25 : Value).ownBlock ∧ some k_ ≠ (.slice (some ad233) t230.length co29 : Value).ownBlock ∧ k_ ≠ gb213)) ?hr ?hp (fun _ hk => hk) ((show ∀ k_, wr.heap.size ≤ k_ → (fun k_ => (w.heap.size ≤ k_) ∧ some k_ ≠ (v215 : Value).ownBlock ∧ some k_ ≠ (.slice (some ad234) x4_2.length co36 : Value).ownBlock ∧ some k_ ≠ (.slice (some ad226) y227.length co25 : Value).ownBlock ∧ some k_ ≠ (.slice (some ad233) t230.length co29 : Value).ownBlock ∧ k_ ≠ gb213) k_ from fun k_ hk => ⟨(Nat.le_trans (below_size (bl HB)) hk), Kd.fresh' (Kd.N_lt (Kd.Nx HO_3.out)) k_ hk, Kd.fresh' (Kd.N_lt (Kd.Nx HO_4.out)) k_ hk, Kd.fresh' (Kd.R_lt (Kd.Rx HO_5.out)) k_ hk, Kd.fresh' (Kd.R_lt (Kd.Rx HO_51.out)) k_ hk, Kd.freshB (g := gb213) (o := .cells #[.slice A0_0 l0_0.length c0_0, .slice A0_1 l0_1.length c0_1, .int .i64 a0_2, .int .i64 a0_3, .slice A0_4 l0_4.length c0_4] 30 (0, 0)) (bx BK213.out) k_ hk⟩) _ (Nat.le_refl _)) (Below.refl _ _) (Nat.le_refl _) (by simp) ?_; (case hd => rfl); (case hg => rfl); (case hr => first | (go_simp; done) | (go_simp; rfl)); (case hp => exact (Reps.one (show Kd.FK (Kd.slice 67 (Kd.int .u64)) _ _ x8_3 [.slice Ao37 x8_3.length co37] from (Kd.FK_slice_mk (Kd.V_reads' (Kd.V_mono (ok' := (fun k_ => (w.heap.size ≤ k_) ∧ some k_ ≠ (v215 : Value).ownBlock ∧ some k_ ≠ (.slice (some ad234) x4_2.length co36 : Value).ownBlock ∧ some k_ ≠ (.slice (some ad226) y227.length co25 : Value).ownBlock ∧ some k_ ≠ (.slice (some ad233) t230.length co29 : Value).ownBlock ∧ k_ ≠ gb213)) (HO_8.out) (fun k_ hk => ⟨hk.1, ⟨hk.2.1, ⟨hk.2.2.1, ⟨hk.2.2.2.1, ⟨hk.2.2.2.2.1, hk.2.2.2.2.2⟩⟩⟩⟩⟩))).2.1 (Kd.V_F (Kd.V_mono (ok' := (fun k_ => (w.heap.size ≤ k_) ∧ some k_ ≠ (v215 : Value).ownBlock ∧ some k_ ≠ (.slice (some ad234) x4_2.length co36 : Value).ownBlock ∧ some k_ ≠ (.slice (some ad226) y227.length co25 : Value).ownBlock ∧ some k_ ≠ (.slice (some ad233) t230.length co29 : Value).ownBlock ∧ k_ ≠ gb213)) (HO_8.out) (fun k_ hk => ⟨hk.1, ⟨hk.2.1, ⟨hk.2.2.1, ⟨hk.2.2.2.1, ⟨hk.2.2.2.2.1, hk.2.2.2.2.2⟩⟩⟩⟩⟩))))) (Reps.one (show Kd.FK (Kd.slice 67 (Kd.int .u64)) _ _ (rd_L1 x4_2 (rd t230 x53_3)) [.slice A234_0 (rd_L1 x4_2 (rd t230 x53_3)).length c234_0] from (Kd.FK_slice_mk (Kd.V_reads' (Kd.V_mono (ok' := (fun k_ => (w.heap.size ≤ k_) ∧ some k_ ≠ (v215 : Value).ownBlock ∧ some k_ ≠ (.slice (some ad234) x4_2.length co36 : Value).ownBlock ∧ some k_ ≠ (.slice (some ad226) y227.length co25 : Value).ownBlock ∧ some k_ ≠ (.slice (some ad233) t230.length co29 : Value).ownBlock ∧ k_ ≠ gb213)) (HL234_0.out) (fun k_ hk => ⟨hk.1.1, ⟨hk.1.2.1, ⟨hk.2, ⟨hk.1.2.2.1, ⟨hk.1.2.2.2.1, hk.1.2.2.2.2⟩⟩⟩⟩⟩))).2.1 (Kd.V_F (Kd.V_mono (ok' := (fun k_ => (w.heap.size ≤ k_) ∧ some k_ ≠ (v215 : Value).ownBlock ∧ some k_ ≠ (.slice (some ad234) x4_2.length co36 : Value).ownBlock ∧ some k_ ≠ (.slice (some ad226) y227.length co25 : Value).ownBlock ∧ some k_ ≠ (.slice (some ad233) t230.length co29 : Value).ownBlock ∧ k_ ≠ gb213)) (HL234_0.out) (fun k_ hk => ⟨hk.1.1, ⟨hk.1.2.1, ⟨hk.2, ⟨hk.1.2.2.1, ⟨hk.1.2.2.2.1, hk.1.2.2.2.2⟩⟩⟩⟩⟩))))) (Reps.none _ _)))); intro v236 w38 ho39 hb hg_ hnew_; clear hg_ hnew_; (first | rw [← Ny235.out] at ho39 | (simp only [Int.reduceToNat] at ho39; rw [← Ny235.out] at ho39)); replace HO_3 := Aside0.mk (Kd.N_elder' (Kd.Nx HO_3.out) (Kd.N_base ho39) hb); replace HO_4 := Aside0.mk (Kd.N_elder' (Kd.Nx HO_4.out) (Kd.N_base ho39) hb); replace HO_5 := Aside0.mk (Kd.R_below (Kd.Rx HO_5.out) hb); replace HO_8 := Aside0.mk (Kd.V_elder' (Kd.Vx HO_8.out) (Kd.N_base ho39) hb); replace HO_51 := Aside0.mk (Kd.R_below (Kd.Rx HO_51.out) hb); replace HL234_0 := Aside0.mk (Kd.V_elder' (Kd.Vx HL234_0.out) (Kd.N_base ho39) hb); have HO237 := Aside0.mk (Kd.N_lower ho39 (below_size (bl HB))); replace BK213 := Aside0.mk (blk_below (bx BK213.out) hb); replace HR234_0 := Aside0.mk (Kd.C_below (by repeat (first | (with_reducible exact HR234_0.out) | (with_reducible refine Kd.C_alloc ?_ _) | (with_reducible refine Kd.C_drewN ?_ _) | (with_reducible refine Kd.C_drew ?_) | exact HR234_0.out)) hb); replace HB := Aside0.mk (below_step (bl HB) hb); clear hb ho39; obtain ⟨Ao40, co40, eo40⟩ := Kd.N_slice HO237.out; subst eo40) | ((with_reducible refine gate_callee (f := 61) rfl ?_); refine goesL_ (some 63) rfl rfl Tryd.func61 (by kernel_rfl) rfl #[.slice Ao40 y235.length co40] rfl (by (try simp only [List.map_toArray, List.map_cons, List.map_nil]); first | done | rfl) ?_; (with_reducible refine (bitset_Join.calls _ _ y235 t238 _ ?side1 ?side2 A35.out).mono ?_); (case side1 => exact Kd.Cx ((Kd.N_reads' HO237.out).2.2)); (case side2 => exact (Kd.N_reads' HO237.out).2.1); rintro e w41 ⟨v239, rfl, ho0, hb⟩; refine ⟨_, rfl, ?_⟩; replace HO_8 := Aside0.mk (Kd.V_below (Kd.Vx HO_8.out) hb); replace HL234_0 := Aside0.mk (Kd.V_below (Kd.Vx HL234_0.out) hb); have HO240 := Aside0.mk (Kd.V_lower (Kd.V_mono (ok' := fun k_ => (w.heap.size ≤ k_) ∧ some k_ ≠ (v215 : Value).ownBlock ∧ some k_ ≠ (.slice (some ad234) x4_2.length co36 : Value).ownBlock ∧ some k_ ≠ (.slice (some ad226) y227.length co25 : Value).ownBlock ∧ some k_ ≠ (.slice (some ad233) t230.length co29 : Value).ownBlock ∧ some k_ ≠ (.slice Ao40 y235.length co40 : Value).ownBlock ∧ k_ ≠ gb213) ho0 (fun k_ hk_ => ⟨(Nat.le_trans (below_size (bl HB)) hk_), (Kd.fresh' (Kd.N_lt (Kd.Nx HO_3.out)) k_ hk_), (Kd.fresh' (Kd.N_lt (Kd.Nx HO_4.out)) k_ hk_), (Kd.fresh' (Kd.R_lt (Kd.Rx HO_5.out)) k_ hk_), (Kd.fresh' (Kd.R_lt (Kd.Rx HO_51.out)) k_ hk_), (Kd.fresh' (Kd.N_lt (Kd.Nx HO237.out)) k_ hk_), (Kd.freshB (g := gb213) (o := .cells #[.slice A0_0 l0_0.length c0_0, .slice A0_1 l0_1.length c0_1, .int .i64 a0_2, .int .i64 a0_3, .slice A0_4 l0_4.length c0_4] 30 (0, 0)) (bx BK213.out) k_ hk_)⟩)) (below_size (bl HB))); replace HO_3 := Aside0.mk (Kd.N_below (Kd.Nx HO_3.out) hb); replace HO_4 := Aside0.mk (Kd.N_below (Kd.Nx HO_4.out) hb); replace HO_5 := Aside0.mk (Kd.R_below (Kd.Rx HO_5.out) hb); replace HO_51 := Aside0.mk (Kd.R_below (Kd.Rx HO_51.out) hb); replace HO237 := Aside0.mk (Kd.N_below (Kd.Nx HO237.out) hb); replace BK213 := Aside0.mk (blk_below (bx BK213.out) hb); replace HR234_0 := Aside0.mk (Kd.C_below (by repeat (first | (with_reducible exact HR234_0.out) | (with_reducible refine Kd.C_alloc ?_ _) | (with_reducible refine Kd.C_drewN ?_ _) | (with_reducible refine Kd.C_drew ?_) | exact HR234_0.out)) hb); replace HB := Aside0.mk (below_step (bl HB) hb); (try clear hb); (try clear hb2); (try clear hk); (try clear hi); (try clear ho0)))
                   go_roundg k3
                   case measure => have := HK1.out; have := HK2.out; have := HK3.out; omega
                   case rel => exact ⟨(t238), (wrap64 (x53_3 + 1)), (by first | rfl | (simp; done) | (simp [*]; done)), H', ⟨by have := HK1.out; have := HK2.out; have := HK3.out; omega⟩, ⟨by (with_reducible repeat (first | apply Kd.N_alloc | apply Kd.N_drewN | apply Kd.N_drew)); exact Kd.N_mono HO_3.out (fun _ hk => ⟨hk.1.1, ⟨hk.1.2.1, ⟨hk.1.2.2.1, ⟨hk.1.2.2.2.1, hk.1.2.2.2.2⟩⟩⟩⟩)⟩, ⟨by (with_reducible repeat (first | apply Kd.N_alloc | apply Kd.N_drewN | apply Kd.N_drew)); exact Kd.N_mono HO_4.out (fun _ hk => ⟨hk.1.1, ⟨hk.1.2.1, ⟨hk.1.2.2.1, ⟨hk.1.2.2.2.1, hk.1.2.2.2.2⟩⟩⟩⟩)⟩, ⟨Kd.Rx HO_5.out⟩, ⟨by (with_reducible repeat (first | apply Kd.V_alloc | apply Kd.V_drewN | apply Kd.V_drew)); exact Kd.V_mono HO240.out (fun _ hk => ⟨hk.1, ⟨hk.2.1, ⟨hk.2.2.1, ⟨hk.2.2.2.1, ⟨hk.2.2.2.2.1, hk.2.2.2.2.2.2⟩⟩⟩⟩⟩)⟩, ⟨Kd.Rx HO_51.out⟩, ⟨bx BK213.out⟩, ⟨bl HB⟩⟩
                  rw [if_neg c34] at H
                  exact absurd H (by simp)
                 rw [if_neg c33] at H
                 exact absurd H (by simp)
                rw [if_neg c32] at H
                exact absurd H (by simp)
               rw [if_neg c31] at H
               exact absurd H (by simp)
              rw [if_neg c30] at H
              have c30b0 : decide (x53_3 < (t230.length : Int)) = false := decide_eq_false c30
              clear c30
              by_cases c42 : 0 ≤ (rd x5_2 (ji20))
              ·
               rw [if_pos c42] at H
               have c42b0 : decide (0 ≤ (rd x5_2 (ji20))) = true := decide_eq_true c42
               clear c42
               by_cases c43 : (rd x5_2 (ji20)) < (x3_2.length : Int)
               ·
                rw [if_pos c43] at H
                have c43b0 : decide ((rd x5_2 (ji20)) < (x3_2.length : Int)) = true := decide_eq_true c43
                clear c43
                obtain ⟨y241, hy241⟩ : ∃ y_ : List (List Int), y_ = (x3_2.set ((rd x5_2 (ji20)) : Int).toNat x8_3) := ⟨_, rfl⟩
                replace H : ((live_through.f k3 l0_0 l0_1 a0_2 a0_3 l0_4 (rd x5_2 (ji20)) 0 x8_3).bind fun t242 => (if (rd x5_2 (ji20)) < (x4_2.length : Int) then ((bitset_Same.f k3 t242 (rd_L1 x4_2 (rd x5_2 (ji20)))).bind fun t246 => (if t246 = true then (live_outs.l1 k3 y241 x4_2 y227 l0_0 l0_1 a0_2 a0_3 l0_4) else ((flow_Prev.f k3 l0_0 l0_1 a0_2 a0_3 l0_4 (rd x5_2 (ji20))).bind fun t248 => (if y227.length + t248.length < 17592186044416 then (live_outs.l1 k3 y241 (x4_2.set ((rd x5_2 (ji20)) : Int).toNat t242) (y227 ++ t248) l0_0 l0_1 a0_2 a0_3 l0_4) else (none))))) else (none))) = some r := by first | (rw [hy241]; with_reducible exact H) | (have H2_ := (Option.bind_some _ _).symm.trans H; rw [hy241]; with_reducible exact H2_) | (have H2_ := (Option.bind_some _ _).symm.trans H; with_reducible exact H2_) | with_reducible exact H | (rw [hy241]; exact H) | exact H
                have Ny241 := Aside0.mk hy241
                clear hy241
                replace H := Option.bind_eq_some_iff.mp H
                obtain ⟨t242, A450, H⟩ := H
                replace H : (if (rd x5_2 (ji20)) < (x4_2.length : Int) then ((bitset_Same.f k3 t242 (rd_L1 x4_2 (rd x5_2 (ji20)))).bind fun t246 => (if t246 = true then (live_outs.l1 k3 y241 x4_2 y227 l0_0 l0_1 a0_2 a0_3 l0_4) else ((flow_Prev.f k3 l0_0 l0_1 a0_2 a0_3 l0_4 (rd x5_2 (ji20))).bind fun t248 => (if y227.length + t248.length < 17592186044416 then (live_outs.l1 k3 y241 (x4_2.set ((rd x5_2 (ji20)) : Int).toNat t242) (y227 ++ t248) l0_0 l0_1 a0_2 a0_3 l0_4) else (none))))) else (none)) = some r := H
                have A45 := Aside0.mk A450
                clear A450
                by_cases c46 : (rd x5_2 (ji20)) < (x4_2.length : Int)
                ·
                 rw [if_pos c46] at H
                 have c46b0 : decide ((rd x5_2 (ji20)) < (x4_2.length : Int)) = true := decide_eq_true c46
                 clear c46
                 replace H := Option.bind_eq_some_iff.mp H
                 obtain ⟨t246, A470, H⟩ := H
                 replace H : (if t246 = true then (live_outs.l1 k3 y241 x4_2 y227 l0_0 l0_1 a0_2 a0_3 l0_4) else ((flow_Prev.f k3 l0_0 l0_1 a0_2 a0_3 l0_4 (rd x5_2 (ji20))).bind fun t248 => (if y227.length + t248.length < 17592186044416 then (live_outs.l1 k3 y241 (x4_2.set ((rd x5_2 (ji20)) : Int).toNat t242) (y227 ++ t248) l0_0 l0_1 a0_2 a0_3 l0_4) else (none)))) = some r := H
                 have A47 := Aside0.mk A470
                 clear A470
                 by_cases c48 : t246 = true
                 ·
                  subst c48
                  have H1 : (live_outs.l1 k3 y241 x4_2 y227 l0_0 l0_1 a0_2 a0_3 l0_4) = some r := by rw [if_pos rfl] at H; exact H
                  clear H
                  have H := H1
                  clear H1
                  have H' := Aside0.mk H
                  clear H
                  have p44 : 0 ≤ ((rd x5_2 (ji20)) : Int) := of_decide_eq_true (by assumption)
                  have q44 : ((rd x5_2 (ji20)) : Int) < ((x3_2.length : Int) : Int) := of_decide_eq_true (by assumption)
                  obtain ⟨go44, co44, eo44, gb44, gl44, cl44, HG44⟩ := Kd.N_form HO_3.out (by omega)
                  (first | cases eo44 | (injection eo44 with ea_ en_ ec_; (first | subst ea_ | (injection ea_ with ea_; subst ea_)); subst ec_; clear en_))
                  have GB44 := Aside0.mk gb44
                  have GG44 := Aside0.mk HG44
                  clear gb44 gl44 HG44
                  obtain ⟨ce44, hcl44, hM44, hcc44, hfr44⟩ := Kd.N_elem HO_3.out [] ((rd x5_2 (ji20)) : Int) p44 q44
                  obtain ⟨ua44_0, uc44_0, rfl, ul44_0, ge44_0⟩ := Kd.FK_slice_open hM44
                  have hx44_0 := hcc44 0 _ rfl
                  have hf44_0 := hfr44 0
                  (try simp only [show ((Kd.slice 67 (Kd.int .u64))).sz = 1 from rfl, Nat.mul_one, Nat.add_zero] at hx44_0)
                  (try simp only [show ((Kd.slice 67 (Kd.int .u64))).sz = 1 from rfl, Nat.mul_one, Nat.add_zero] at hf44_0)
                  clear hcl44 hcc44 hfr44 hM44
                  replace p44 := eq_true p44
                  replace q44 := eq_true q44
                  obtain ⟨Ao49, co49, eo49⟩ := Kd.V_slice HO_8.out
                  subst eo49
                  have HX50 := Aside0.mk (show Kd.N (Kd.slice 67 (Kd.int .u64)) 31 wr w.heap.size (fun k_ => (w.heap.size ≤ k_) ∧ some k_ ≠ (v218 : Value).ownBlock ∧ some k_ ≠ (.slice (some ad226) y227.length co25 : Value).ownBlock ∧ some k_ ≠ (.slice Ao29 t230.length co29 : Value).ownBlock ∧ k_ ≠ gb213) (.slice (some ⟨go44, 0, none⟩) x3_2.length co44) x3_2 from (Kd.Nx HO_3.out))
                  obtain ⟨ce50, hcl50, hM50, hcc50, hfr50⟩ := Kd.N_elem HX50.out [] ((rd x5_2 (ji20)) : Int) (of_decide_eq_true (by assumption)) (by have h_ : ((rd x5_2 (ji20)) : Int) < ((x3_2.length : Int) : Int) := of_decide_eq_true (by assumption); first | exact h_ | (have e_ := (Kd.N_reads' HO_3.out).1; omega) | simpa using h_)
                  obtain ⟨ua50_0, uc50_0, rfl, ul50_0, ge50_0⟩ := Kd.FK_slice_open hM50
                  have HP50 := Kd.N_seg HX50.out ((rd x5_2 (ji20)) : Int) (of_decide_eq_true (by assumption)) (by have h_ : ((rd x5_2 (ji20)) : Int) < ((x3_2.length : Int) : Int) := of_decide_eq_true (by assumption); first | exact h_ | (have e_ := (Kd.N_reads' HO_3.out).1; omega) | simpa using h_) (seg := [.slice Ao49 x8_3.length co49]) (j := 0) hcl50 hcc50 (show 1 ≤ 1 from by decide) (x' := x8_3) (Kd.FK_slice_mk (Kd.V_reads' (Kd.V_mono (ok' := (fun k_ => ((fun k_ => (w.heap.size ≤ k_) ∧ some k_ ≠ (v218 : Value).ownBlock ∧ some k_ ≠ (.slice (some ad226) y227.length co25 : Value).ownBlock ∧ some k_ ≠ (.slice Ao29 t230.length co29 : Value).ownBlock ∧ k_ ≠ gb213)) k_ ∧ k_ ≠ go44)) (HO_8.out) (fun k_ hk => ⟨⟨hk.1, ⟨hk.2.2.1, ⟨hk.2.2.2.1, ⟨hk.2.2.2.2.1, hk.2.2.2.2.2⟩⟩⟩⟩, fun e_ => (hk.2.1) (by rw [e_]; rfl)⟩))).2.1 (Kd.V_F (Kd.V_mono (ok' := (fun k_ => ((fun k_ => (w.heap.size ≤ k_) ∧ some k_ ≠ (v218 : Value).ownBlock ∧ some k_ ≠ (.slice (some ad226) y227.length co25 : Value).ownBlock ∧ some k_ ≠ (.slice Ao29 t230.length co29 : Value).ownBlock ∧ k_ ≠ gb213)) k_ ∧ k_ ≠ go44)) (HO_8.out) (fun k_ hk => ⟨⟨hk.1, ⟨hk.2.2.1, ⟨hk.2.2.2.1, ⟨hk.2.2.2.2.1, hk.2.2.2.2.2⟩⟩⟩⟩, fun e_ => (hk.2.1) (by rw [e_]; rfl)⟩)))) (fun _ hk => hk)
                  have hx50_0 := hcc50 0 _ rfl
                  (try simp only [show ((Kd.slice 67 (Kd.int .u64))).sz = 1 from rfl, Nat.mul_one, Nat.add_zero] at hx50_0)
                  have hf50_0 := hfr50 0
                  (try simp only [show ((Kd.slice 67 (Kd.int .u64))).sz = 1 from rfl, Nat.mul_one, Nat.add_zero] at hf50_0)
                  clear hcl50 hcc50 hfr50 hM50
                  (try simp only [show ((Kd.slice 67 (Kd.int .u64))).sz = 1 from rfl, Nat.mul_one, Nat.add_zero] at HP50)
                  (try simp only [show ((Kd.slice 67 (Kd.int .u64))).sz = 1 from rfl, Nat.mul_one, Nat.add_zero] at HP50)
                  go_wp2_with (first | ((with_reducible refine gate_store (t := 31) (p := 68) rfl ?_); refine store_event (t := 31) (p := 68) (v := ?vo_w51) (w1 := (wr.setCell ⟨go44, ((rd x5_2 (ji20)) : Int).toNat, none⟩ (.slice Ao49 x8_3.length co49))) ?hg ?ho ?hn ?hr ?_; (case ho => rfl); (case hg => rfl); (case hn => rfl); (case hr => first | (go_simp; done) | (go_simp; rfl)); intro w51 hw; have hg : wr.grownBy w51 (some go44) := (by rw [hw]; exact HP50.2); have hp_ : Kd.N (Kd.slice 67 (Kd.int .u64)) 31 w51 w.heap.size (fun k_ => (w.heap.size ≤ k_) ∧ some k_ ≠ (v218 : Value).ownBlock ∧ some k_ ≠ (.slice (some ad226) y227.length co25 : Value).ownBlock ∧ some k_ ≠ (.slice Ao29 t230.length co29 : Value).ownBlock ∧ k_ ≠ gb213) (.slice (some ⟨go44, 0, none⟩) x3_2.length co44) y241 := (by rw [hw, Ny241.out]; exact HP50.1); clear HP50; replace HO_4 := Aside0.mk (Kd.N_afterv (v := (.slice (some ⟨go44, 0, none⟩) x3_2.length co44)) (v1 := (.slice (some ⟨go44, 0, none⟩) x3_2.length co44)) (ok := (fun k_ => (w.heap.size ≤ k_) ∧ some k_ ≠ (.slice (some ad226) y227.length co25 : Value).ownBlock ∧ some k_ ≠ (.slice Ao29 t230.length co29 : Value).ownBlock ∧ k_ ≠ gb213)) (Kd.Nx (Kd.N_mono HO_4.out (fun _ hk => ⟨⟨hk.1, ⟨hk.2.2.1, ⟨hk.2.2.2.1, hk.2.2.2.2⟩⟩⟩, hk.2.1⟩))) hg (.inl rfl)); replace HO_5 := Aside0.mk (Kd.R_over' (v := (.slice (some ⟨go44, 0, none⟩) x3_2.length co44)) (Kd.Rx HO_5.out) (Kd.N_typed HO_3.out) (by decide) hg); replace HO_8 := Aside0.mk (Kd.V_afterv (v := (.slice (some ⟨go44, 0, none⟩) x3_2.length co44)) (v1 := (.slice (some ⟨go44, 0, none⟩) x3_2.length co44)) (ok := (fun k_ => (w.heap.size ≤ k_) ∧ some k_ ≠ (v218 : Value).ownBlock ∧ some k_ ≠ (.slice (some ad226) y227.length co25 : Value).ownBlock ∧ some k_ ≠ (.slice Ao29 t230.length co29 : Value).ownBlock ∧ k_ ≠ gb213)) (Kd.Vx (Kd.V_mono HO_8.out (fun _ hk => ⟨⟨hk.1, ⟨hk.2.2.1, ⟨hk.2.2.2.1, ⟨hk.2.2.2.2.1, hk.2.2.2.2.2⟩⟩⟩⟩, hk.2.1⟩))) hg (.inl rfl)); replace HO_51 := Aside0.mk (Kd.R_over' (v := (.slice (some ⟨go44, 0, none⟩) x3_2.length co44)) (Kd.Rx HO_51.out) (Kd.N_typed HO_3.out) (by decide) hg); replace BK213 := Aside0.mk (blk_grown (g := gb213) (o := .cells #[.slice A0_0 l0_0.length c0_0, .slice A0_1 l0_1.length c0_1, .int .i64 a0_2, .int .i64 a0_3, .slice A0_4 l0_4.length c0_4] 30 (0, 0)) (bx BK213.out) hg (Kd.N_ne HO_3.out BK213.out (by decide))); replace HO_3 := Aside0.mk (hp_); replace HB := Aside0.mk ((by rw [hw]; exact below_set (HB.out) GB44.out : Below w.heap.size w w51)); clear hg hw hp_; obtain ⟨hcz52_0, hcz52_1, hcz52_2, hcz52_3, hcz52_4⟩ := bk5 BK213.out; have hfz52_0 := bf BK213.out) | ((with_reducible refine gate_callee (f := 42) rfl ?_); refine goesL_ (some 72) rfl rfl Tryd.func42 (by kernel_rfl) rfl #[.agg #[.slice A0_0 l0_0.length c0_0, .slice A0_1 l0_1.length c0_1, .int .i64 a0_2, .int .i64 a0_3, .slice A0_4 l0_4.length c0_4], .int .i64 (rd x5_2 (ji20)), .int .i64 0, .slice Ao49 x8_3.length co49] rfl (by (try simp only [List.map_toArray, List.map_cons, List.map_nil]); first | done | (simp only [hji20]; rfl) | rfl | (simp only [List.length_drop, List.length_take]; rfl)) ?_; (with_reducible refine (live_through.calls k3 _ _ l0_0 _ _ l0_1 a0_2 a0_3 _ _ l0_4 (rd x5_2 (ji20)) 0 (fun k_ => (((w.heap.size ≤ k_) ∧ (some k_ ≠ (v218 : Value).ownBlock ∧ (some k_ ≠ (.slice (some ad226) y227.length co25 : Value).ownBlock ∧ (some k_ ≠ (.slice Ao29 t230.length co29 : Value).ownBlock ∧ k_ ≠ gb213)))) ∧ some k_ ≠ (.slice (some ⟨go44, 0, none⟩) x3_2.length co44 : Value).ownBlock)) _ _ x8_3 t242 _ ?side8 ?side1 ?side2 ?side3 ?side4 ?side5 ?side6 ?side7 A45.out).mono ?_); (case side1 => exact Kd.Cx (Kd.C_below HR0_0.out HB.out)); (case side2 => exact HC0_0.out); (case side3 => exact Kd.Cx (Kd.C_below HR0_1.out HB.out)); (case side4 => exact HC0_1.out); (case side5 => exact Kd.Cx (Kd.C_below HR0_4.out HB.out)); (case side6 => exact HC0_4.out); (case side7 => exact HO_8.out); (case side8 => exact GG_below HGG.out (bl HB)); rintro e w53 ⟨v243, rfl, ho0, hb⟩; refine ⟨_, rfl, ?_⟩; replace HO_8 := Aside0.mk (Kd.V_below (Kd.Vx HO_8.out) hb); have HO244 := Aside0.mk (Kd.V_lower (Kd.V_mono (ok' := fun k_ => (w.heap.size ≤ k_) ∧ some k_ ≠ (.slice (some ⟨go44, 0, none⟩) x3_2.length co44 : Value).ownBlock ∧ some k_ ≠ (v218 : Value).ownBlock ∧ some k_ ≠ (.slice (some ad226) y227.length co25 : Value).ownBlock ∧ some k_ ≠ (.slice Ao29 t230.length co29 : Value).ownBlock ∧ k_ ≠ gb213) ho0 (fun k_ hk_ => ⟨Or.elim hk_ (fun hs_ => hs_.1.1) (fun hn_ => (Nat.le_trans (below_size (bl HB)) hn_)), Or.elim hk_ (fun hs_ => hs_.2) (fun hn_ => (Kd.fresh' (Kd.N_lt (Kd.Nx HO_3.out)) k_ hn_)), Or.elim hk_ (fun hs_ => hs_.1.2.1) (fun hn_ => (Kd.fresh' (Kd.N_lt (Kd.Nx HO_4.out)) k_ hn_)), Or.elim hk_ (fun hs_ => hs_.1.2.2.1) (fun hn_ => (Kd.fresh' (Kd.R_lt (Kd.Rx HO_5.out)) k_ hn_)), Or.elim hk_ (fun hs_ => hs_.1.2.2.2.1) (fun hn_ => (Kd.fresh' (Kd.R_lt (Kd.Rx HO_51.out)) k_ hn_)), Or.elim hk_ (fun hs_ => hs_.1.2.2.2.2) (fun hn_ => (Kd.freshB (g := gb213) (o := .cells #[.slice A0_0 l0_0.length c0_0, .slice A0_1 l0_1.length c0_1, .int .i64 a0_2, .int .i64 a0_3, .slice A0_4 l0_4.length c0_4] 30 (0, 0)) (bx BK213.out) k_ hn_))⟩)) (below_size (bl HB))); replace HO_3 := Aside0.mk (Kd.N_below (Kd.Nx HO_3.out) hb); replace HO_4 := Aside0.mk (Kd.N_below (Kd.Nx HO_4.out) hb); replace HO_5 := Aside0.mk (Kd.R_below (Kd.Rx HO_5.out) hb); replace HO_51 := Aside0.mk (Kd.R_below (Kd.Rx HO_51.out) hb); replace BK213 := Aside0.mk (blk_below (bx BK213.out) hb); replace HB := Aside0.mk (below_step (bl HB) hb); (try clear hb); (try clear hb2); (try clear hk); (try clear hi); (try clear ho0); obtain ⟨Ao54, co54, eo54⟩ := Kd.N_slice HO_4.out; subst eo54; have p245 : 0 ≤ ((rd x5_2 (ji20)) : Int) := of_decide_eq_true (by assumption); have q245 : (rd x5_2 (ji20)) < (x4_2.length : Int) := of_decide_eq_true (by assumption); obtain ⟨ad245, A245_0, c245_0, e245, hx245_0, hl245_0, hi245_0⟩ := at_L1 (Kd.N_reads' HO_4.out).2.2 (rd x5_2 (ji20)) p245 q245; cases e245; obtain ⟨ce245, hce245, hMe245, hcc245⟩ := Kd.N_get HO_4.out [] (rd x5_2 (ji20)) p245 (by first | exact q245 | exact of_decide_eq_true (by assumption) | (have e_ := (Kd.N_reads' HO_4.out).1; omega)); obtain ⟨ua245_0, uc245_0, rfl, ul245_0, ge245_0⟩ := Kd.FK_slice_open hMe245; have hv245_0 := hcc245 0 _ rfl; rw [Nat.add_zero, show ((Kd.slice 67 (Kd.int .u64))).sz = 1 from rfl, Nat.mul_one] at hv245_0; replace hv245_0 := Option.some.inj (hv245_0.symm.trans hx245_0); injection hv245_0 with hva_ hvn_ hvc_; rw [hva_] at ge245_0; rw [hvc_] at ul245_0; have HL245_0 := Aside0.mk (show Kd.V (Kd.int .u64) 67 _ w.heap.size _ _ (rd_L1 x4_2 (rd x5_2 (ji20))) from Kd.V_mk ul245_0 ge245_0); clear hva_ hvn_ hvc_ ge245_0 ul245_0; clear hcc245 hce245; have HR245_0 := Aside0.mk hi245_0; have HC245_0 := Aside0.mk hl245_0; clear hi245_0 hl245_0; replace p245 := eq_true p245; replace q245 := eq_true q245; obtain ⟨Ao55, co55, eo55⟩ := Kd.V_slice HO244.out; subst eo55) | ((with_reducible refine gate_callee (f := 62) rfl ?_); refine goesL_ (some 78) rfl rfl Tryd.func62 (by kernel_rfl) rfl #[.slice Ao55 t242.length co55, .slice A245_0 (rd_L1 x4_2 (rd x5_2 (ji20))).length c245_0] rfl (by (try simp only [List.map_toArray, List.map_cons, List.map_nil]); first | done | (simp only [hji20]; rfl) | rfl | (simp only [List.length_drop, List.length_take]; rfl)) ?_; (with_reducible refine (bitset_Same.calls k3 _ _ t242 _ _ (rd_L1 x4_2 (rd x5_2 (ji20))) true _ ?side1 ?side2 ?side3 ?side4 A47.out).mono ?_); (case side1 => exact Kd.Cx ((Kd.V_reads' HO244.out).2.2)); (case side2 => exact (Kd.V_reads' HO244.out).2.1); (case side3 => exact Kd.Cx (by repeat (first | (with_reducible exact HR245_0.out) | (with_reducible refine Kd.C_alloc ?_ _) | (with_reducible refine Kd.C_drewN ?_ _) | (with_reducible refine Kd.C_drew ?_) | exact HR245_0.out))); (case side4 => exact HC245_0.out); rintro e w56 ⟨rfl, hb⟩; refine ⟨_, rfl, ?_⟩; replace HO_3 := Aside0.mk (Kd.N_below (Kd.Nx HO_3.out) hb); replace HO_4 := Aside0.mk (Kd.N_below (Kd.Nx HO_4.out) hb); replace HO_5 := Aside0.mk (Kd.R_below (Kd.Rx HO_5.out) hb); replace HO_8 := Aside0.mk (Kd.V_below (Kd.Vx HO_8.out) hb); replace HO_51 := Aside0.mk (Kd.R_below (Kd.Rx HO_51.out) hb); replace HO244 := Aside0.mk (Kd.V_below (Kd.Vx HO244.out) hb); replace HL245_0 := Aside0.mk (Kd.V_below (Kd.Vx HL245_0.out) hb); replace BK213 := Aside0.mk (blk_below (bx BK213.out) hb); replace HR245_0 := Aside0.mk (Kd.C_below (by repeat (first | (with_reducible exact HR245_0.out) | (with_reducible refine Kd.C_alloc ?_ _) | (with_reducible refine Kd.C_drewN ?_ _) | (with_reducible refine Kd.C_drew ?_) | exact HR245_0.out)) hb); replace HB := Aside0.mk (below_step (bl HB) hb); (try clear hb); (try clear hb2); (try clear hk); (try clear hi)))
                  go_roundg k3
                  case measure => have := HK1.out; have := HK2.out; have := HK3.out; omega
                  case rel => exact ⟨(y241), (x4_2), (y227), H', ⟨by have := HK1.out; have := HK2.out; have := HK3.out; omega⟩, ⟨by (with_reducible repeat (first | apply Kd.N_alloc | apply Kd.N_drewN | apply Kd.N_drew)); exact Kd.N_mono HO_3.out (fun _ hk => ⟨hk.1, ⟨hk.2.1, ⟨hk.2.2.1, hk.2.2.2.2⟩⟩⟩)⟩, ⟨by (with_reducible repeat (first | apply Kd.N_alloc | apply Kd.N_drewN | apply Kd.N_drew)); exact Kd.N_mono HO_4.out (fun _ hk => ⟨hk.1.1, ⟨hk.2, ⟨hk.1.2.1, hk.1.2.2.2⟩⟩⟩)⟩, ⟨by (with_reducible repeat (first | apply Kd.R_alloc | apply Kd.R_drewN | apply Kd.R_drew)); exact Kd.R_mono HO_5.out (fun _ hk => hk.1)⟩, ⟨bx BK213.out⟩, ⟨bl HB⟩⟩
                 replace c48 := Bool.eq_false_iff.mpr c48
                 subst c48
                 have H1 : ((flow_Prev.f k3 l0_0 l0_1 a0_2 a0_3 l0_4 (rd x5_2 (ji20))).bind fun t248 => (if y227.length + t248.length < 17592186044416 then (live_outs.l1 k3 y241 (x4_2.set ((rd x5_2 (ji20)) : Int).toNat t242) (y227 ++ t248) l0_0 l0_1 a0_2 a0_3 l0_4) else (none))) = some r := by rw [if_neg (show ¬ (false = true) by decide)] at H; exact H
                 clear H
                 have H := H1
                 clear H1
                 obtain ⟨y247, hy247⟩ : ∃ y_ : List (List Int), y_ = (x4_2.set ((rd x5_2 (ji20)) : Int).toNat t242) := ⟨_, rfl⟩
                 replace H : ((flow_Prev.f k3 l0_0 l0_1 a0_2 a0_3 l0_4 (rd x5_2 (ji20))).bind fun t248 => (if y227.length + t248.length < 17592186044416 then (live_outs.l1 k3 y241 y247 (y227 ++ t248) l0_0 l0_1 a0_2 a0_3 l0_4) else (none))) = some r := by first | (rw [hy247]; with_reducible exact H) | (have H2_ := (Option.bind_some _ _).symm.trans H; rw [hy247]; with_reducible exact H2_) | (have H2_ := (Option.bind_some _ _).symm.trans H; with_reducible exact H2_) | with_reducible exact H | (rw [hy247]; exact H) | exact H
                 have Ny247 := Aside0.mk hy247
                 clear hy247
                 replace H := Option.bind_eq_some_iff.mp H
                 obtain ⟨t248, A580, H⟩ := H
                 replace H : (if y227.length + t248.length < 17592186044416 then (live_outs.l1 k3 y241 y247 (y227 ++ t248) l0_0 l0_1 a0_2 a0_3 l0_4) else (none)) = some r := H
                 have A58 := Aside0.mk A580
                 clear A580
                 by_cases c59 : y227.length + t248.length < 17592186044416
                 ·
                  rw [if_pos c59] at H
                  have LMc59 := Aside0.mk c59
                  clear c59
                  obtain ⟨y251, hy251⟩ : ∃ y_ : List Int, y_ = (y227 ++ t248) := ⟨_, rfl⟩
                  replace H : (live_outs.l1 k3 y241 y247 y251 l0_0 l0_1 a0_2 a0_3 l0_4) = some r := by first | (rw [hy251]; with_reducible exact H) | (have H2_ := (Option.bind_some _ _).symm.trans H; rw [hy251]; with_reducible exact H2_) | (have H2_ := (Option.bind_some _ _).symm.trans H; with_reducible exact H2_) | with_reducible exact H | (rw [hy251]; exact H) | exact H
                  have Ny251 := Aside0.mk hy251
                  clear hy251
                  have H' := Aside0.mk H
                  clear H
                  have p44 : 0 ≤ ((rd x5_2 (ji20)) : Int) := of_decide_eq_true (by assumption)
                  have q44 : ((rd x5_2 (ji20)) : Int) < ((x3_2.length : Int) : Int) := of_decide_eq_true (by assumption)
                  obtain ⟨go44, co44, eo44, gb44, gl44, cl44, HG44⟩ := Kd.N_form HO_3.out (by omega)
                  (first | cases eo44 | (injection eo44 with ea_ en_ ec_; (first | subst ea_ | (injection ea_ with ea_; subst ea_)); subst ec_; clear en_))
                  have GB44 := Aside0.mk gb44
                  have GG44 := Aside0.mk HG44
                  clear gb44 gl44 HG44
                  obtain ⟨ce44, hcl44, hM44, hcc44, hfr44⟩ := Kd.N_elem HO_3.out [] ((rd x5_2 (ji20)) : Int) p44 q44
                  obtain ⟨ua44_0, uc44_0, rfl, ul44_0, ge44_0⟩ := Kd.FK_slice_open hM44
                  have hx44_0 := hcc44 0 _ rfl
                  have hf44_0 := hfr44 0
                  (try simp only [show ((Kd.slice 67 (Kd.int .u64))).sz = 1 from rfl, Nat.mul_one, Nat.add_zero] at hx44_0)
                  (try simp only [show ((Kd.slice 67 (Kd.int .u64))).sz = 1 from rfl, Nat.mul_one, Nat.add_zero] at hf44_0)
                  clear hcl44 hcc44 hfr44 hM44
                  replace p44 := eq_true p44
                  replace q44 := eq_true q44
                  obtain ⟨Ao60, co60, eo60⟩ := Kd.V_slice HO_8.out
                  subst eo60
                  have HX61 := Aside0.mk (show Kd.N (Kd.slice 67 (Kd.int .u64)) 31 wr w.heap.size (fun k_ => (w.heap.size ≤ k_) ∧ some k_ ≠ (v218 : Value).ownBlock ∧ some k_ ≠ (.slice (some ad226) y227.length co25 : Value).ownBlock ∧ some k_ ≠ (.slice Ao29 t230.length co29 : Value).ownBlock ∧ k_ ≠ gb213) (.slice (some ⟨go44, 0, none⟩) x3_2.length co44) x3_2 from (Kd.Nx HO_3.out))
                  obtain ⟨ce61, hcl61, hM61, hcc61, hfr61⟩ := Kd.N_elem HX61.out [] ((rd x5_2 (ji20)) : Int) (of_decide_eq_true (by assumption)) (by have h_ : ((rd x5_2 (ji20)) : Int) < ((x3_2.length : Int) : Int) := of_decide_eq_true (by assumption); first | exact h_ | (have e_ := (Kd.N_reads' HO_3.out).1; omega) | simpa using h_)
                  obtain ⟨ua61_0, uc61_0, rfl, ul61_0, ge61_0⟩ := Kd.FK_slice_open hM61
                  have HP61 := Kd.N_seg HX61.out ((rd x5_2 (ji20)) : Int) (of_decide_eq_true (by assumption)) (by have h_ : ((rd x5_2 (ji20)) : Int) < ((x3_2.length : Int) : Int) := of_decide_eq_true (by assumption); first | exact h_ | (have e_ := (Kd.N_reads' HO_3.out).1; omega) | simpa using h_) (seg := [.slice Ao60 x8_3.length co60]) (j := 0) hcl61 hcc61 (show 1 ≤ 1 from by decide) (x' := x8_3) (Kd.FK_slice_mk (Kd.V_reads' (Kd.V_mono (ok' := (fun k_ => ((fun k_ => (w.heap.size ≤ k_) ∧ some k_ ≠ (v218 : Value).ownBlock ∧ some k_ ≠ (.slice (some ad226) y227.length co25 : Value).ownBlock ∧ some k_ ≠ (.slice Ao29 t230.length co29 : Value).ownBlock ∧ k_ ≠ gb213)) k_ ∧ k_ ≠ go44)) (HO_8.out) (fun k_ hk => ⟨⟨hk.1, ⟨hk.2.2.1, ⟨hk.2.2.2.1, ⟨hk.2.2.2.2.1, hk.2.2.2.2.2⟩⟩⟩⟩, fun e_ => (hk.2.1) (by rw [e_]; rfl)⟩))).2.1 (Kd.V_F (Kd.V_mono (ok' := (fun k_ => ((fun k_ => (w.heap.size ≤ k_) ∧ some k_ ≠ (v218 : Value).ownBlock ∧ some k_ ≠ (.slice (some ad226) y227.length co25 : Value).ownBlock ∧ some k_ ≠ (.slice Ao29 t230.length co29 : Value).ownBlock ∧ k_ ≠ gb213)) k_ ∧ k_ ≠ go44)) (HO_8.out) (fun k_ hk => ⟨⟨hk.1, ⟨hk.2.2.1, ⟨hk.2.2.2.1, ⟨hk.2.2.2.2.1, hk.2.2.2.2.2⟩⟩⟩⟩, fun e_ => (hk.2.1) (by rw [e_]; rfl)⟩)))) (fun _ hk => hk)
                  have hx61_0 := hcc61 0 _ rfl
                  (try simp only [show ((Kd.slice 67 (Kd.int .u64))).sz = 1 from rfl, Nat.mul_one, Nat.add_zero] at hx61_0)
                  have hf61_0 := hfr61 0
                  (try simp only [show ((Kd.slice 67 (Kd.int .u64))).sz = 1 from rfl, Nat.mul_one, Nat.add_zero] at hf61_0)
                  clear hcl61 hcc61 hfr61 hM61
                  (try simp only [show ((Kd.slice 67 (Kd.int .u64))).sz = 1 from rfl, Nat.mul_one, Nat.add_zero] at HP61)
                  (try simp only [show ((Kd.slice 67 (Kd.int .u64))).sz = 1 from rfl, Nat.mul_one, Nat.add_zero] at HP61)
                  go_wp2_with (first | ((with_reducible refine gate_store (t := 31) (p := 68) rfl ?_); refine store_event (t := 31) (p := 68) (v := ?vo_w62) (w1 := (wr.setCell ⟨go44, ((rd x5_2 (ji20)) : Int).toNat, none⟩ (.slice Ao60 x8_3.length co60))) ?hg ?ho ?hn ?hr ?_; (case ho => rfl); (case hg => rfl); (case hn => rfl); (case hr => first | (go_simp; done) | (go_simp; rfl)); intro w62 hw; have hg : wr.grownBy w62 (some go44) := (by rw [hw]; exact HP61.2); have hp_ : Kd.N (Kd.slice 67 (Kd.int .u64)) 31 w62 w.heap.size (fun k_ => (w.heap.size ≤ k_) ∧ some k_ ≠ (v218 : Value).ownBlock ∧ some k_ ≠ (.slice (some ad226) y227.length co25 : Value).ownBlock ∧ some k_ ≠ (.slice Ao29 t230.length co29 : Value).ownBlock ∧ k_ ≠ gb213) (.slice (some ⟨go44, 0, none⟩) x3_2.length co44) y241 := (by rw [hw, Ny241.out]; exact HP61.1); clear HP61; replace HO_4 := Aside0.mk (Kd.N_afterv (v := (.slice (some ⟨go44, 0, none⟩) x3_2.length co44)) (v1 := (.slice (some ⟨go44, 0, none⟩) x3_2.length co44)) (ok := (fun k_ => (w.heap.size ≤ k_) ∧ some k_ ≠ (.slice (some ad226) y227.length co25 : Value).ownBlock ∧ some k_ ≠ (.slice Ao29 t230.length co29 : Value).ownBlock ∧ k_ ≠ gb213)) (Kd.Nx (Kd.N_mono HO_4.out (fun _ hk => ⟨⟨hk.1, ⟨hk.2.2.1, ⟨hk.2.2.2.1, hk.2.2.2.2⟩⟩⟩, hk.2.1⟩))) hg (.inl rfl)); replace HO_5 := Aside0.mk (Kd.R_over' (v := (.slice (some ⟨go44, 0, none⟩) x3_2.length co44)) (Kd.Rx HO_5.out) (Kd.N_typed HO_3.out) (by decide) hg); replace HO_8 := Aside0.mk (Kd.V_afterv (v := (.slice (some ⟨go44, 0, none⟩) x3_2.length co44)) (v1 := (.slice (some ⟨go44, 0, none⟩) x3_2.length co44)) (ok := (fun k_ => (w.heap.size ≤ k_) ∧ some k_ ≠ (v218 : Value).ownBlock ∧ some k_ ≠ (.slice (some ad226) y227.length co25 : Value).ownBlock ∧ some k_ ≠ (.slice Ao29 t230.length co29 : Value).ownBlock ∧ k_ ≠ gb213)) (Kd.Vx (Kd.V_mono HO_8.out (fun _ hk => ⟨⟨hk.1, ⟨hk.2.2.1, ⟨hk.2.2.2.1, ⟨hk.2.2.2.2.1, hk.2.2.2.2.2⟩⟩⟩⟩, hk.2.1⟩))) hg (.inl rfl)); replace HO_51 := Aside0.mk (Kd.R_over' (v := (.slice (some ⟨go44, 0, none⟩) x3_2.length co44)) (Kd.Rx HO_51.out) (Kd.N_typed HO_3.out) (by decide) hg); replace BK213 := Aside0.mk (blk_grown (g := gb213) (o := .cells #[.slice A0_0 l0_0.length c0_0, .slice A0_1 l0_1.length c0_1, .int .i64 a0_2, .int .i64 a0_3, .slice A0_4 l0_4.length c0_4] 30 (0, 0)) (bx BK213.out) hg (Kd.N_ne HO_3.out BK213.out (by decide))); replace HO_3 := Aside0.mk (hp_); replace HB := Aside0.mk ((by rw [hw]; exact below_set (HB.out) GB44.out : Below w.heap.size w w62)); clear hg hw hp_; obtain ⟨hcz63_0, hcz63_1, hcz63_2, hcz63_3, hcz63_4⟩ := bk5 BK213.out; have hfz63_0 := bf BK213.out) | ((with_reducible refine gate_callee (f := 42) rfl ?_); refine goesL_ (some 72) rfl rfl Tryd.func42 (by kernel_rfl) rfl #[.agg #[.slice A0_0 l0_0.length c0_0, .slice A0_1 l0_1.length c0_1, .int .i64 a0_2, .int .i64 a0_3, .slice A0_4 l0_4.length c0_4], .int .i64 (rd x5_2 (ji20)), .int .i64 0, .slice Ao60 x8_3.length co60] rfl (by (try simp only [List.map_toArray, List.map_cons, List.map_nil]); first | done | (simp only [hji20]; rfl) | rfl | (simp only [List.length_drop, List.length_take]; rfl)) ?_; (with_reducible refine (live_through.calls k3 _ _ l0_0 _ _ l0_1 a0_2 a0_3 _ _ l0_4 (rd x5_2 (ji20)) 0 (fun k_ => (((w.heap.size ≤ k_) ∧ (some k_ ≠ (v218 : Value).ownBlock ∧ (some k_ ≠ (.slice (some ad226) y227.length co25 : Value).ownBlock ∧ (some k_ ≠ (.slice Ao29 t230.length co29 : Value).ownBlock ∧ k_ ≠ gb213)))) ∧ some k_ ≠ (.slice (some ⟨go44, 0, none⟩) x3_2.length co44 : Value).ownBlock)) _ _ x8_3 t242 _ ?side8 ?side1 ?side2 ?side3 ?side4 ?side5 ?side6 ?side7 A45.out).mono ?_); (case side1 => exact Kd.Cx (Kd.C_below HR0_0.out HB.out)); (case side2 => exact HC0_0.out); (case side3 => exact Kd.Cx (Kd.C_below HR0_1.out HB.out)); (case side4 => exact HC0_1.out); (case side5 => exact Kd.Cx (Kd.C_below HR0_4.out HB.out)); (case side6 => exact HC0_4.out); (case side7 => exact HO_8.out); (case side8 => exact GG_below HGG.out (bl HB)); rintro e w64 ⟨v243, rfl, ho0, hb⟩; refine ⟨_, rfl, ?_⟩; replace HO_8 := Aside0.mk (Kd.V_below (Kd.Vx HO_8.out) hb); have HO244 := Aside0.mk (Kd.V_lower (Kd.V_mono (ok' := fun k_ => (w.heap.size ≤ k_) ∧ some k_ ≠ (.slice (some ⟨go44, 0, none⟩) x3_2.length co44 : Value).ownBlock ∧ some k_ ≠ (v218 : Value).ownBlock ∧ some k_ ≠ (.slice (some ad226) y227.length co25 : Value).ownBlock ∧ some k_ ≠ (.slice Ao29 t230.length co29 : Value).ownBlock ∧ k_ ≠ gb213) ho0 (fun k_ hk_ => ⟨Or.elim hk_ (fun hs_ => hs_.1.1) (fun hn_ => (Nat.le_trans (below_size (bl HB)) hn_)), Or.elim hk_ (fun hs_ => hs_.2) (fun hn_ => (Kd.fresh' (Kd.N_lt (Kd.Nx HO_3.out)) k_ hn_)), Or.elim hk_ (fun hs_ => hs_.1.2.1) (fun hn_ => (Kd.fresh' (Kd.N_lt (Kd.Nx HO_4.out)) k_ hn_)), Or.elim hk_ (fun hs_ => hs_.1.2.2.1) (fun hn_ => (Kd.fresh' (Kd.R_lt (Kd.Rx HO_5.out)) k_ hn_)), Or.elim hk_ (fun hs_ => hs_.1.2.2.2.1) (fun hn_ => (Kd.fresh' (Kd.R_lt (Kd.Rx HO_51.out)) k_ hn_)), Or.elim hk_ (fun hs_ => hs_.1.2.2.2.2) (fun hn_ => (Kd.freshB (g := gb213) (o := .cells #[.slice A0_0 l0_0.length c0_0, .slice A0_1 l0_1.length c0_1, .int .i64 a0_2, .int .i64 a0_3, .slice A0_4 l0_4.length c0_4] 30 (0, 0)) (bx BK213.out) k_ hn_))⟩)) (below_size (bl HB))); replace HO_3 := Aside0.mk (Kd.N_below (Kd.Nx HO_3.out) hb); replace HO_4 := Aside0.mk (Kd.N_below (Kd.Nx HO_4.out) hb); replace HO_5 := Aside0.mk (Kd.R_below (Kd.Rx HO_5.out) hb); replace HO_51 := Aside0.mk (Kd.R_below (Kd.Rx HO_51.out) hb); replace BK213 := Aside0.mk (blk_below (bx BK213.out) hb); replace HB := Aside0.mk (below_step (bl HB) hb); (try clear hb); (try clear hb2); (try clear hk); (try clear hi); (try clear ho0); obtain ⟨Ao65, co65, eo65⟩ := Kd.N_slice HO_4.out; subst eo65; have p245 : 0 ≤ ((rd x5_2 (ji20)) : Int) := of_decide_eq_true (by assumption); have q245 : (rd x5_2 (ji20)) < (x4_2.length : Int) := of_decide_eq_true (by assumption); obtain ⟨ad245, A245_0, c245_0, e245, hx245_0, hl245_0, hi245_0⟩ := at_L1 (Kd.N_reads' HO_4.out).2.2 (rd x5_2 (ji20)) p245 q245; cases e245; obtain ⟨ce245, hce245, hMe245, hcc245⟩ := Kd.N_get HO_4.out [] (rd x5_2 (ji20)) p245 (by first | exact q245 | exact of_decide_eq_true (by assumption) | (have e_ := (Kd.N_reads' HO_4.out).1; omega)); obtain ⟨ua245_0, uc245_0, rfl, ul245_0, ge245_0⟩ := Kd.FK_slice_open hMe245; have hv245_0 := hcc245 0 _ rfl; rw [Nat.add_zero, show ((Kd.slice 67 (Kd.int .u64))).sz = 1 from rfl, Nat.mul_one] at hv245_0; replace hv245_0 := Option.some.inj (hv245_0.symm.trans hx245_0); injection hv245_0 with hva_ hvn_ hvc_; rw [hva_] at ge245_0; rw [hvc_] at ul245_0; have HL245_0 := Aside0.mk (show Kd.V (Kd.int .u64) 67 _ w.heap.size _ _ (rd_L1 x4_2 (rd x5_2 (ji20))) from Kd.V_mk ul245_0 ge245_0); clear hva_ hvn_ hvc_ ge245_0 ul245_0; clear hcc245 hce245; have HR245_0 := Aside0.mk hi245_0; have HC245_0 := Aside0.mk hl245_0; clear hi245_0 hl245_0; replace p245 := eq_true p245; replace q245 := eq_true q245; obtain ⟨Ao66, co66, eo66⟩ := Kd.V_slice HO244.out; subst eo66) | ((with_reducible refine gate_callee (f := 62) rfl ?_); refine goesL_ (some 78) rfl rfl Tryd.func62 (by kernel_rfl) rfl #[.slice Ao66 t242.length co66, .slice A245_0 (rd_L1 x4_2 (rd x5_2 (ji20))).length c245_0] rfl (by (try simp only [List.map_toArray, List.map_cons, List.map_nil]); first | done | (simp only [hji20]; rfl) | rfl | (simp only [List.length_drop, List.length_take]; rfl)) ?_; (with_reducible refine (bitset_Same.calls k3 _ _ t242 _ _ (rd_L1 x4_2 (rd x5_2 (ji20))) false _ ?side1 ?side2 ?side3 ?side4 A47.out).mono ?_); (case side1 => exact Kd.Cx ((Kd.V_reads' HO244.out).2.2)); (case side2 => exact (Kd.V_reads' HO244.out).2.1); (case side3 => exact Kd.Cx (by repeat (first | (with_reducible exact HR245_0.out) | (with_reducible refine Kd.C_alloc ?_ _) | (with_reducible refine Kd.C_drewN ?_ _) | (with_reducible refine Kd.C_drew ?_) | exact HR245_0.out))); (case side4 => exact HC245_0.out); rintro e w67 ⟨rfl, hb⟩; refine ⟨_, rfl, ?_⟩; replace HO_3 := Aside0.mk (Kd.N_below (Kd.Nx HO_3.out) hb); replace HO_4 := Aside0.mk (Kd.N_below (Kd.Nx HO_4.out) hb); replace HO_5 := Aside0.mk (Kd.R_below (Kd.Rx HO_5.out) hb); replace HO_8 := Aside0.mk (Kd.V_below (Kd.Vx HO_8.out) hb); replace HO_51 := Aside0.mk (Kd.R_below (Kd.Rx HO_51.out) hb); replace HO244 := Aside0.mk (Kd.V_below (Kd.Vx HO244.out) hb); replace HL245_0 := Aside0.mk (Kd.V_below (Kd.Vx HL245_0.out) hb); replace BK213 := Aside0.mk (blk_below (bx BK213.out) hb); replace HR245_0 := Aside0.mk (Kd.C_below (by repeat (first | (with_reducible exact HR245_0.out) | (with_reducible refine Kd.C_alloc ?_ _) | (with_reducible refine Kd.C_drewN ?_ _) | (with_reducible refine Kd.C_drew ?_) | exact HR245_0.out)) hb); replace HB := Aside0.mk (below_step (bl HB) hb); (try clear hb); (try clear hb2); (try clear hk); (try clear hi); have p57 : 0 ≤ ((rd x5_2 (ji20)) : Int) := of_decide_eq_true (by assumption); have q57 : ((rd x5_2 (ji20)) : Int) < ((x4_2.length : Int) : Int) := of_decide_eq_true (by assumption); obtain ⟨go57, co57, eo57, gb57, gl57, cl57, HG57⟩ := Kd.N_form HO_4.out (by omega); (first | cases eo57 | (injection eo57 with ea_ en_ ec_; (first | subst ea_ | (injection ea_ with ea_; subst ea_)); subst ec_; clear en_)); have GB57 := Aside0.mk gb57; have GG57 := Aside0.mk HG57; clear gb57 gl57 HG57; (first | simp only [add_plain] at hx245_0 | skip); obtain ⟨ce57, hcl57, hM57, hcc57, hfr57⟩ := Kd.N_elem HO_4.out [] ((rd x5_2 (ji20)) : Int) p57 q57; obtain ⟨ua57_0, uc57_0, rfl, ul57_0, ge57_0⟩ := Kd.FK_slice_open hM57; have hx57_0 := hcc57 0 _ rfl; have hf57_0 := hfr57 0; (try simp only [show ((Kd.slice 67 (Kd.int .u64))).sz = 1 from rfl, Nat.mul_one, Nat.add_zero] at hx57_0); (try simp only [show ((Kd.slice 67 (Kd.int .u64))).sz = 1 from rfl, Nat.mul_one, Nat.add_zero] at hf57_0); clear hcl57 hcc57 hfr57 hM57; replace p57 := eq_true p57; replace q57 := eq_true q57; have n_ := Aside0.mk (Kd.N_mono (ok' := (fun k_ => (w.heap.size ≤ k_) ∧ some k_ ≠ (.slice (some ⟨go44, 0, none⟩) x3_2.length co44 : Value).ownBlock ∧ some k_ ≠ (.slice (some ad226) y227.length co25 : Value).ownBlock ∧ some k_ ≠ (.slice Ao29 t230.length co29 : Value).ownBlock ∧ k_ ≠ gb213)) HO_4.out (fun k_ hk => ⟨hk.1.1, ⟨hk.2, ⟨hk.1.2.1, ⟨hk.1.2.2.1, hk.1.2.2.2⟩⟩⟩⟩)); clear HO_4; have HO_4 := n_; clear n_; have HX68 := Aside0.mk (show Kd.N (Kd.slice 67 (Kd.int .u64)) 31 w67 w.heap.size (fun k_ => (w.heap.size ≤ k_) ∧ some k_ ≠ (.slice (some ⟨go44, 0, none⟩) x3_2.length co44 : Value).ownBlock ∧ some k_ ≠ (.slice (some ad226) y227.length co25 : Value).ownBlock ∧ some k_ ≠ (.slice Ao29 t230.length co29 : Value).ownBlock ∧ k_ ≠ gb213) (.slice (some ⟨go57, 0, none⟩) x4_2.length co65) x4_2 from (Kd.Nx HO_4.out)); obtain ⟨ce68, hcl68, hM68, hcc68, hfr68⟩ := Kd.N_elem HX68.out [] ((rd x5_2 (ji20)) : Int) (of_decide_eq_true (by assumption)) (by have h_ : ((rd x5_2 (ji20)) : Int) < ((x4_2.length : Int) : Int) := of_decide_eq_true (by assumption); first | exact h_ | (have e_ := (Kd.N_reads' HO_4.out).1; omega) | simpa using h_); obtain ⟨ua68_0, uc68_0, rfl, ul68_0, ge68_0⟩ := Kd.FK_slice_open hM68; have HP68 := Kd.N_seg HX68.out ((rd x5_2 (ji20)) : Int) (of_decide_eq_true (by assumption)) (by have h_ : ((rd x5_2 (ji20)) : Int) < ((x4_2.length : Int) : Int) := of_decide_eq_true (by assumption); first | exact h_ | (have e_ := (Kd.N_reads' HO_4.out).1; omega) | simpa using h_) (seg := [.slice Ao66 t242.length co66]) (j := 0) hcl68 hcc68 (show 1 ≤ 1 from by decide) (x' := t242) (Kd.FK_slice_mk (Kd.V_reads' (Kd.V_mono (ok' := (fun k_ => ((fun k_ => (w.heap.size ≤ k_) ∧ some k_ ≠ (.slice (some ⟨go44, 0, none⟩) x3_2.length co44 : Value).ownBlock ∧ some k_ ≠ (.slice (some ad226) y227.length co25 : Value).ownBlock ∧ some k_ ≠ (.slice Ao29 t230.length co29 : Value).ownBlock ∧ k_ ≠ gb213)) k_ ∧ k_ ≠ go57)) (HO244.out) (fun k_ hk => ⟨⟨hk.1, ⟨hk.2.1, ⟨hk.2.2.2.1, ⟨hk.2.2.2.2.1, hk.2.2.2.2.2⟩⟩⟩⟩, fun e_ => (hk.2.2.1) (by rw [e_]; rfl)⟩))).2.1 (Kd.V_F (Kd.V_mono (ok' := (fun k_ => ((fun k_ => (w.heap.size ≤ k_) ∧ some k_ ≠ (.slice (some ⟨go44, 0, none⟩) x3_2.length co44 : Value).ownBlock ∧ some k_ ≠ (.slice (some ad226) y227.length co25 : Value).ownBlock ∧ some k_ ≠ (.slice Ao29 t230.length co29 : Value).ownBlock ∧ k_ ≠ gb213)) k_ ∧ k_ ≠ go57)) (HO244.out) (fun k_ hk => ⟨⟨hk.1, ⟨hk.2.1, ⟨hk.2.2.2.1, ⟨hk.2.2.2.2.1, hk.2.2.2.2.2⟩⟩⟩⟩, fun e_ => (hk.2.2.1) (by rw [e_]; rfl)⟩)))) (fun _ hk => hk); have hx68_0 := hcc68 0 _ rfl; (try simp only [show ((Kd.slice 67 (Kd.int .u64))).sz = 1 from rfl, Nat.mul_one, Nat.add_zero] at hx68_0); have hf68_0 := hfr68 0; (try simp only [show ((Kd.slice 67 (Kd.int .u64))).sz = 1 from rfl, Nat.mul_one, Nat.add_zero] at hf68_0); clear hcl68 hcc68 hfr68 hM68; (try simp only [show ((Kd.slice 67 (Kd.int .u64))).sz = 1 from rfl, Nat.mul_one, Nat.add_zero] at HP68); (try simp only [show ((Kd.slice 67 (Kd.int .u64))).sz = 1 from rfl, Nat.mul_one, Nat.add_zero] at HP68)) | ((with_reducible refine gate_store (t := 31) (p := 83) rfl ?_); refine store_event (t := 31) (p := 83) (v := ?vo_w69) (w1 := (w67.setCell ⟨go57, ((rd x5_2 (ji20)) : Int).toNat, none⟩ (.slice Ao66 t242.length co66))) ?hg ?ho ?hn ?hr ?_; (case ho => rfl); (case hg => rfl); (case hn => rfl); (case hr => first | (go_simp; done) | (go_simp; rfl)); intro w69 hw; have hg : w67.grownBy w69 (some go57) := (by rw [hw]; exact HP68.2); have hp_ : Kd.N (Kd.slice 67 (Kd.int .u64)) 31 w69 w.heap.size (fun k_ => (w.heap.size ≤ k_) ∧ some k_ ≠ (.slice (some ⟨go44, 0, none⟩) x3_2.length co44 : Value).ownBlock ∧ some k_ ≠ (.slice (some ad226) y227.length co25 : Value).ownBlock ∧ some k_ ≠ (.slice Ao29 t230.length co29 : Value).ownBlock ∧ k_ ≠ gb213) (.slice (some ⟨go57, 0, none⟩) x4_2.length co65) y247 := (by rw [hw, Ny247.out]; exact HP68.1); clear HP68; replace HO_3 := Aside0.mk (Kd.N_afterv (v := (.slice (some ⟨go57, 0, none⟩) x4_2.length co65)) (v1 := (.slice (some ⟨go57, 0, none⟩) x4_2.length co65)) (ok := (fun k_ => (w.heap.size ≤ k_) ∧ some k_ ≠ (.slice (some ad226) y227.length co25 : Value).ownBlock ∧ some k_ ≠ (.slice Ao29 t230.length co29 : Value).ownBlock ∧ k_ ≠ gb213)) (Kd.Nx (Kd.N_mono HO_3.out (fun _ hk => ⟨⟨hk.1, ⟨hk.2.2.1, ⟨hk.2.2.2.1, hk.2.2.2.2⟩⟩⟩, hk.2.1⟩))) hg (.inl rfl)); replace HO_5 := Aside0.mk (Kd.R_over' (v := (.slice (some ⟨go57, 0, none⟩) x4_2.length co65)) (Kd.Rx HO_5.out) (Kd.N_typed HO_4.out) (by decide) hg); replace HO_8 := Aside0.mk (Kd.V_afterv (v := (.slice (some ⟨go57, 0, none⟩) x4_2.length co65)) (v1 := (.slice (some ⟨go57, 0, none⟩) x4_2.length co65)) (ok := (fun k_ => (w.heap.size ≤ k_) ∧ some k_ ≠ (.slice (some ⟨go44, 0, none⟩) x3_2.length co44 : Value).ownBlock ∧ some k_ ≠ (.slice (some ad226) y227.length co25 : Value).ownBlock ∧ some k_ ≠ (.slice Ao29 t230.length co29 : Value).ownBlock ∧ k_ ≠ gb213)) (Kd.Vx (Kd.V_mono HO_8.out (fun _ hk => ⟨⟨hk.1.1, ⟨hk.2, ⟨hk.1.2.2.1, ⟨hk.1.2.2.2.1, hk.1.2.2.2.2⟩⟩⟩⟩, hk.1.2.1⟩))) hg (.inl rfl)); replace HO_51 := Aside0.mk (Kd.R_over' (v := (.slice (some ⟨go57, 0, none⟩) x4_2.length co65)) (Kd.Rx HO_51.out) (Kd.N_typed HO_4.out) (by decide) hg); replace BK213 := Aside0.mk (blk_grown (g := gb213) (o := .cells #[.slice A0_0 l0_0.length c0_0, .slice A0_1 l0_1.length c0_1, .int .i64 a0_2, .int .i64 a0_3, .slice A0_4 l0_4.length c0_4] 30 (0, 0)) (bx BK213.out) hg (Kd.N_ne HO_4.out BK213.out (by decide))); replace HO_4 := Aside0.mk (hp_); replace HO244 := Aside0.mk (Kd.V_afterv (v := (.slice (some ⟨go57, 0, none⟩) x4_2.length co65)) (v1 := (.slice (some ⟨go57, 0, none⟩) x4_2.length co65)) (ok := (fun k_ => (w.heap.size ≤ k_) ∧ some k_ ≠ (.slice (some ⟨go44, 0, none⟩) x3_2.length co44 : Value).ownBlock ∧ some k_ ≠ (.slice (some ad226) y227.length co25 : Value).ownBlock ∧ some k_ ≠ (.slice Ao29 t230.length co29 : Value).ownBlock ∧ k_ ≠ gb213)) (Kd.Vx (Kd.V_mono HO244.out (fun _ hk => ⟨⟨hk.1, ⟨hk.2.1, ⟨hk.2.2.2.1, ⟨hk.2.2.2.2.1, hk.2.2.2.2.2⟩⟩⟩⟩, hk.2.2.1⟩))) hg (.inl rfl)); replace HL245_0 := Aside0.mk (Kd.V_afterv (v := (.slice (some ⟨go57, 0, none⟩) x4_2.length co65)) (v1 := (.slice (some ⟨go57, 0, none⟩) x4_2.length co65)) (ok := (fun k_ => (w.heap.size ≤ k_) ∧ some k_ ≠ (.slice (some ⟨go44, 0, none⟩) x3_2.length co44 : Value).ownBlock ∧ some k_ ≠ (.slice (some ad226) y227.length co25 : Value).ownBlock ∧ some k_ ≠ (.slice Ao29 t230.length co29 : Value).ownBlock ∧ k_ ≠ gb213)) (Kd.Vx (Kd.V_mono HL245_0.out (fun _ hk => ⟨⟨hk.1.1.1, ⟨hk.1.2, ⟨hk.1.1.2.1, ⟨hk.1.1.2.2.1, hk.1.1.2.2.2⟩⟩⟩⟩, hk.2⟩))) hg (.inl rfl)); replace HB := Aside0.mk ((by rw [hw]; exact below_set (HB.out) GB57.out : Below w.heap.size w w69)); clear hg hw hp_; obtain ⟨hcz70_0, hcz70_1, hcz70_2, hcz70_3, hcz70_4⟩ := bk5 BK213.out; have hfz70_0 := bf BK213.out) | ((with_reducible refine gate_callee (f := 63) rfl ?_); refine goesL_ (some 87) rfl rfl Tryd.func63 (by kernel_rfl) rfl #[.agg #[.slice A0_0 l0_0.length c0_0, .slice A0_1 l0_1.length c0_1, .int .i64 a0_2, .int .i64 a0_3, .slice A0_4 l0_4.length c0_4], .int .i64 (rd x5_2 (ji20))] rfl (by (try simp only [List.map_toArray, List.map_cons, List.map_nil]); first | done | (simp only [hji20]; rfl) | rfl | (simp only [List.length_drop, List.length_take]; rfl)) ?_; (with_reducible refine (flow_Prev.calls k3 _ _ l0_0 _ _ l0_1 a0_2 a0_3 _ _ l0_4 (rd x5_2 (ji20)) t248 _ ?side1 ?side2 ?side3 ?side4 ?side5 ?side6 A58.out).mono ?_); (case side1 => exact Kd.Cx (Kd.C_below HR0_0.out HB.out)); (case side2 => exact HC0_0.out); (case side3 => exact Kd.Cx (Kd.C_below HR0_1.out HB.out)); (case side4 => exact HC0_1.out); (case side5 => exact Kd.Cx (Kd.C_below HR0_4.out HB.out)); (case side6 => exact HC0_4.out); rintro e w71 ⟨v249, rfl, ho0, hb⟩; refine ⟨_, rfl, ?_⟩; replace HO_3 := Aside0.mk (Kd.N_elder' (Kd.Nx HO_3.out) (Kd.R_base ho0) hb); replace HO_4 := Aside0.mk (Kd.N_elder' (Kd.Nx HO_4.out) (Kd.R_base ho0) hb); replace HO_8 := Aside0.mk (Kd.V_elder' (Kd.Vx HO_8.out) (Kd.R_base ho0) hb); replace HO244 := Aside0.mk (Kd.V_elder' (Kd.Vx HO244.out) (Kd.R_base ho0) hb); replace HL245_0 := Aside0.mk (Kd.V_elder' (Kd.Vx HL245_0.out) (Kd.R_base ho0) hb); have HO250 := Aside0.mk (Kd.R_lower (Kd.R_new' (Kd.R_new' (Kd.R_newM (M := fun k_ => (w.heap.size ≤ k_)) ho0 (below_size (bl HB)) (fun k_ h_ => h_)) (Kd.R_lt (Kd.Rx HO_5.out))) (Kd.R_lt (Kd.Rx HO_51.out))) (below_size (bl HB))); replace HO_5 := Aside0.mk (Kd.R_elder' (Kd.Rx HO_5.out) (Kd.R_base ho0) hb); replace HO_51 := Aside0.mk (Kd.R_elder' (Kd.Rx HO_51.out) (Kd.R_base ho0) hb); replace BK213 := Aside0.mk (blk_below (bx BK213.out) hb); replace HB := Aside0.mk (below_step (bl HB) hb); (try clear hb); (try clear hb2); (try clear hk); (try clear hi); (try clear ho0); obtain ⟨Ao73, co73, eo73⟩ := Kd.R_slice HO250.out; subst eo73) | ((with_reducible refine gate_builtin (b := .append) (xs := #[.tmp 84, .tmp 87]) rfl ?_); at_builtin; refine Kd.R_append_rows (Kd.int .i64) (w0 := w) w.heap.size rfl (.tmp 84) (.tmp 87) 27 3 (.int .i64 0) 8 rfl Tryd.underlying27 info3 rfl (by decide) (by omega) (.slice (some ad226) y227.length co25) y227 t248 _ _ _ (fun k_ => (w.heap.size ≤ k_) ∧ some k_ ≠ (.slice Ao29 t230.length co29 : Value).ownBlock ∧ some k_ ≠ (.slice Ao73 t248.length co73 : Value).ownBlock) (fun _ => False) rfl rfl ?aO ?aR (fun _ _ h => h) (fun _ h => h.elim) ?aF ?aB ?aS ?aL ?_; (case aR => exact Kd.Cx ((Kd.R_reads' HO250.out).2.2)); (case aB => exact (bl HB)); (case aF => exact (fun k_ hk => ⟨(Nat.le_trans (below_size (bl HB)) hk), Kd.fresh' (Kd.R_lt (Kd.Rx HO_51.out)) k_ hk, Kd.fresh' (Kd.R_lt (Kd.Rx HO250.out)) k_ hk⟩)); (case aO => exact (Kd.Rx (Kd.R_mono HO_5.out (fun _ hk => ⟨hk.1.1, ⟨hk.1.2, hk.2⟩⟩)))); (case aS => exact (below_size (bl HB))); (case aL => have := LMc59.out; omega); intro v252 w72 ho hb hg hat; rw [← Ny251.out] at ho; replace HO_3 := Aside0.mk (Kd.N_afterv (ok := (fun k_ => (w.heap.size ≤ k_) ∧ some k_ ≠ (.slice (some ⟨go57, 0, none⟩) x4_2.length co65 : Value).ownBlock ∧ some k_ ≠ (.slice Ao29 t230.length co29 : Value).ownBlock ∧ some k_ ≠ (.slice Ao73 t248.length co73 : Value).ownBlock ∧ k_ ≠ gb213)) (Kd.Nx (Kd.N_mono HO_3.out (fun _ hk => ⟨⟨hk.1.1.1, ⟨hk.1.2, ⟨hk.1.1.2.2.1, ⟨hk.2, hk.1.1.2.2.2⟩⟩⟩⟩, hk.1.1.2.1⟩))) hg hat); replace HO_4 := Aside0.mk (Kd.N_afterv (ok := (fun k_ => (w.heap.size ≤ k_) ∧ some k_ ≠ (.slice (some ⟨go44, 0, none⟩) x3_2.length co44 : Value).ownBlock ∧ some k_ ≠ (.slice Ao29 t230.length co29 : Value).ownBlock ∧ some k_ ≠ (.slice Ao73 t248.length co73 : Value).ownBlock ∧ k_ ≠ gb213)) (Kd.Nx (Kd.N_mono HO_4.out (fun _ hk => ⟨⟨hk.1.1, ⟨hk.1.2.1, ⟨hk.1.2.2.2.1, ⟨hk.2, hk.1.2.2.2.2⟩⟩⟩⟩, hk.1.2.2.1⟩))) hg hat); replace HO_8 := Aside0.mk (Kd.V_afterv (ok := (fun k_ => (w.heap.size ≤ k_) ∧ some k_ ≠ (.slice (some ⟨go44, 0, none⟩) x3_2.length co44 : Value).ownBlock ∧ some k_ ≠ (.slice (some ⟨go57, 0, none⟩) x4_2.length co65 : Value).ownBlock ∧ some k_ ≠ (.slice Ao29 t230.length co29 : Value).ownBlock ∧ some k_ ≠ (.slice Ao73 t248.length co73 : Value).ownBlock ∧ k_ ≠ gb213)) (Kd.Vx (Kd.V_mono HO_8.out (fun _ hk => ⟨⟨hk.1.1.1, ⟨hk.1.1.2.1, ⟨hk.1.2, ⟨hk.1.1.2.2.2.1, ⟨hk.2, hk.1.1.2.2.2.2⟩⟩⟩⟩⟩, hk.1.1.2.2.1⟩))) hg hat); replace HO_51 := Aside0.mk (Kd.R_after (ok := (fun k_ => (w.heap.size ≤ k_) ∧ some k_ ≠ (.slice Ao73 t248.length co73 : Value).ownBlock)) (Kd.Rx (Kd.R_mono HO_51.out (fun _ hk => ⟨⟨hk.1.1, hk.2⟩, hk.1.2⟩))) hg hat); replace BK213 := Aside0.mk (blk_grown (g := gb213) (o := .cells #[.slice A0_0 l0_0.length c0_0, .slice A0_1 l0_1.length c0_1, .int .i64 a0_2, .int .i64 a0_3, .slice A0_4 l0_4.length c0_4] 30 (0, 0)) (bx BK213.out) hg (Kd.R_ne HO_5.out BK213.out (by decide))); replace HO244 := Aside0.mk (Kd.V_afterv (ok := (fun k_ => (w.heap.size ≤ k_) ∧ some k_ ≠ (.slice (some ⟨go44, 0, none⟩) x3_2.length co44 : Value).ownBlock ∧ some k_ ≠ (.slice (some ⟨go57, 0, none⟩) x4_2.length co65 : Value).ownBlock ∧ some k_ ≠ (.slice Ao29 t230.length co29 : Value).ownBlock ∧ some k_ ≠ (.slice Ao73 t248.length co73 : Value).ownBlock ∧ k_ ≠ gb213)) (Kd.Vx (Kd.V_mono HO244.out (fun _ hk => ⟨⟨hk.1.1.1, ⟨hk.1.1.2.1, ⟨hk.1.2, ⟨hk.1.1.2.2.2.1, ⟨hk.2, hk.1.1.2.2.2.2⟩⟩⟩⟩⟩, hk.1.1.2.2.1⟩))) hg hat); replace HL245_0 := Aside0.mk (Kd.V_afterv (ok := (fun k_ => (w.heap.size ≤ k_) ∧ some k_ ≠ (.slice (some ⟨go44, 0, none⟩) x3_2.length co44 : Value).ownBlock ∧ some k_ ≠ (.slice (some ⟨go57, 0, none⟩) x4_2.length co65 : Value).ownBlock ∧ some k_ ≠ (.slice Ao29 t230.length co29 : Value).ownBlock ∧ some k_ ≠ (.slice Ao73 t248.length co73 : Value).ownBlock ∧ k_ ≠ gb213)) (Kd.Vx (Kd.V_mono HL245_0.out (fun _ hk => ⟨⟨hk.1.1.1, ⟨hk.1.1.2.1, ⟨hk.1.2, ⟨hk.1.1.2.2.2.1, ⟨hk.2, hk.1.1.2.2.2.2⟩⟩⟩⟩⟩, hk.1.1.2.2.1⟩))) hg hat); replace HO250 := Aside0.mk (Kd.R_after (ok := (fun k_ => (w.heap.size ≤ k_) ∧ some k_ ≠ (.slice Ao29 t230.length co29 : Value).ownBlock)) (Kd.Rx (Kd.R_mono HO250.out (fun _ hk => ⟨⟨hk.1.1.1, hk.2⟩, hk.1.2⟩))) hg hat); replace HB := Aside0.mk (hb); have HO253 := Aside0.mk (ho); clear HO_5; clear ho hb hg hat))
                  go_roundg k3
                  case measure => have := HK1.out; have := HK2.out; have := HK3.out; omega
                  case rel => exact ⟨(y241), (y247), (y251), H', ⟨by have := HK1.out; have := HK2.out; have := HK3.out; omega⟩, ⟨by (with_reducible repeat (first | apply Kd.N_alloc | apply Kd.N_drewN | apply Kd.N_drew)); exact Kd.N_mono HO_3.out (fun _ hk => ⟨hk.1.1, ⟨hk.1.2.1, ⟨hk.2, hk.1.2.2.2.2⟩⟩⟩)⟩, ⟨by (with_reducible repeat (first | apply Kd.N_alloc | apply Kd.N_drewN | apply Kd.N_drew)); exact Kd.N_mono HO_4.out (fun _ hk => ⟨hk.1.1, ⟨hk.1.2.1, ⟨hk.2, hk.1.2.2.2.2⟩⟩⟩)⟩, ⟨by (with_reducible repeat (first | apply Kd.R_alloc | apply Kd.R_drewN | apply Kd.R_drew)); exact Kd.R_mono HO253.out (fun _ hk => hk.1)⟩, ⟨bx BK213.out⟩, ⟨bl HB⟩⟩
                 rw [if_neg c59] at H
                 exact absurd H (by simp)
                rw [if_neg c46] at H
                exact absurd H (by simp)
               rw [if_neg c43] at H
               exact absurd H (by simp)
              rw [if_neg c42] at H
              exact absurd H (by simp)
           rw [if_neg c23] at H
           exact absurd H (by simp)
          rw [if_neg c22] at H
          exact absurd H (by simp)
         rw [if_neg c21] at H
         exact absurd H (by simp)
        rw [if_neg c19] at H
        have c19b0 : decide (0 < (x5_2.length : Int)) = false := decide_eq_false c19
        have c19b1 : decide (0 < x5_2.length) = false := decide_eq_false (by omega)
        clear c19
        obtain rfl := Option.some.inj H
        obtain ⟨Ao74, co74, eo74⟩ := Kd.R_slice HO_5.out
        subst eo74
        go_wp2
        go_ret
        exact ⟨_, by first | rfl | (simp [errW_none, errW_some] <;> rfl) | (simp [*, errW_none, errW_some] <;> rfl), by (with_reducible repeat (first | apply Kd.N_alloc | apply Kd.N_drewN | apply Kd.N_drew)); exact Kd.N_mono HO_3.out (fun _ hk => hk.1), bl HB⟩
   rw [if_neg c4] at H
   exact absurd H (by simp)
  rw [if_neg c3] at H
  exact absurd H (by simp)
 rw [if_neg c2] at H
 exact absurd H (by simp)
def live_there.f (l0_0 : List Int) (l0_1 : List Int) (a0_2 : Int) (a0_3 : Int) (l0_4 : List (S40)) (a1 : Int) (a2 : Int) : Option (Bool) := if a1 ≥ 0 then (if a1 < (l0_4.length : Int) then (if a2 ≥ 0 then (if 0 ≤ a1 then (some (decide (a2 < (((rd_T40 l0_4 a1).f0).length : Int)))) else (none)) else (some false)) else (some false)) else (some false)
set_option maxHeartbeats 8000000 in
set_option maxRecDepth 100000 in
theorem live_there.calls (A0_0 : Option Addr) (c0_0 : Nat) (l0_0 : List Int) (A0_1 : Option Addr) (c0_1 : Nat) (l0_1 : List Int) (a0_2 : Int) (a0_3 : Int) (A0_4 : Option Addr) (c0_4 : Nat) (l0_4 : List (S40)) (a1 : Int) (a2 : Int) (r : Bool) (w : World) (hr0_0 : Kd.C (Kd.int .i64) w A0_0 l0_0.length l0_0) (hc0_0 : l0_0.length ≤ c0_0) (hr0_1 : Kd.C (Kd.int .i64) w A0_1 l0_1.length l0_1) (hc0_1 : l0_1.length ≤ c0_1) (hr0_4 : Kd.C k40 w A0_4 l0_4.length l0_4) (hc0_4 : l0_4.length ≤ c0_4) (h : live_there.f l0_0 l0_1 a0_2 a0_3 l0_4 a1 a2 = some r) :
 Calls Tryd.prog 41 #[.agg #[.slice A0_0 l0_0.length c0_0, .slice A0_1 l0_1.length c0_1, .int .i64 a0_2, .int .i64 a0_3, .slice A0_4 l0_4.length c0_4], .int .i64 a1, .int .i64 a2] w fun e w' => e = .returned (.bool r) ∧ Below w.heap.size w w' := by
 have hu30 := Tryd.underlying30
 have HR0_0 := Aside0.mk hr0_0
 have HC0_0 := Aside0.mk hc0_0
 clear hr0_0 hc0_0
 have HR0_1 := Aside0.mk hr0_1
 have HC0_1 := Aside0.mk hc0_1
 clear hr0_1 hc0_1
 have HR0_4 := Aside0.mk hr0_4
 have HC0_4 := Aside0.mk hc0_4
 clear hr0_4 hc0_4
 have HB := Aside0.mk (Below.refl w.heap.size w)
 have H : (if a1 ≥ 0 then (if a1 < (l0_4.length : Int) then (if a2 ≥ 0 then (if 0 ≤ a1 then (some (decide (a2 < (((rd_T40 l0_4 a1).f0).length : Int)))) else (none)) else (some false)) else (some false)) else (some false)) = some r := h
 clear h
 by_cases c4 : a1 ≥ 0
 ·
  rw [if_pos c4] at H
  have c4b0 : decide (0 ≤ a1) = true := decide_eq_true c4
  clear c4
  by_cases c5 : a1 < (l0_4.length : Int)
  ·
   rw [if_pos c5] at H
   have c5b0 : decide (a1 < (l0_4.length : Int)) = true := decide_eq_true c5
   clear c5
   by_cases c6 : a2 ≥ 0
   ·
    rw [if_pos c6] at H
    have c6b0 : decide (0 ≤ a2) = true := decide_eq_true c6
    clear c6
    by_cases c7 : 0 ≤ a1
    ·
     rw [if_pos c7] at H
     have c7b0 : decide (0 ≤ a1) = true := decide_eq_true c7
     clear c7
     obtain rfl := Option.some.inj H
     go_enter Tryd.func41, Tryd.ntmps41
     go_wp2_with (first | ((with_reducible refine gate_dst (N := 3) rfl ?_); (try (refine gate_guard (by rfl) ?_; dsimp only)); refine box_event ?hg (N := 3) ?hd (cs := #[.slice A0_0 l0_0.length c0_0, .slice A0_1 l0_1.length c0_1, .int .i64 a0_2, .int .i64 a0_3, .slice A0_4 l0_4.length c0_4]) (t := 30) ?hr ?_; (case hd => rfl); (case hg => rfl); (case hr => first | (go_simp; done) | (go_simp; rfl)); intro gb254 hg w8 hbox hb; have BK254 := Aside0.mk (hbox); have GW254 := ge hg (bl HB); have GE254 := ge hg (bl HB); replace HB := Aside0.mk (below_step (bl HB) hb); clear hb hbox hg; obtain ⟨hcz9_0, hcz9_1, hcz9_2, hcz9_3, hcz9_4⟩ := bk5 BK254.out; have hfz9_0 := bf BK254.out; have p255 : 0 ≤ (a1 : Int) := of_decide_eq_true (by assumption); have q255 : a1 < (l0_4.length : Int) := of_decide_eq_true (by assumption); obtain ⟨ad255, A255_0, c255_0, e255, hx255_0, hl255_0, hi255_0⟩ := at_T40 HR0_4.out a1 p255 q255; cases e255; replace hx255_0 := (HB.out.cell (World.block_lt_of_cell? w _ hx255_0)).trans hx255_0; have HR255_0 := Aside0.mk hi255_0; have HC255_0 := Aside0.mk hl255_0; clear hi255_0 hl255_0; replace p255 := eq_true p255; replace q255 := eq_true q255))
     go_ret
     exact ⟨by first | rfl | (simp [errW_none, errW_some] <;> rfl) | (simp [*, errW_none, errW_some] <;> rfl), bl HB⟩
    rw [if_neg c7] at H
    exact absurd H (by simp)
   rw [if_neg c6] at H
   have c6b0 : decide (0 ≤ a2) = false := decide_eq_false c6
   clear c6
   obtain rfl := Option.some.inj H
   go_enter Tryd.func41, Tryd.ntmps41
   go_wp2_with (first | ((with_reducible refine gate_dst (N := 3) rfl ?_); (try (refine gate_guard (by rfl) ?_; dsimp only)); refine box_event ?hg (N := 3) ?hd (cs := #[.slice A0_0 l0_0.length c0_0, .slice A0_1 l0_1.length c0_1, .int .i64 a0_2, .int .i64 a0_3, .slice A0_4 l0_4.length c0_4]) (t := 30) ?hr ?_; (case hd => rfl); (case hg => rfl); (case hr => first | (go_simp; done) | (go_simp; rfl)); intro gb254 hg w10 hbox hb; have BK254 := Aside0.mk (hbox); have GW254 := ge hg (bl HB); have GE254 := ge hg (bl HB); replace HB := Aside0.mk (below_step (bl HB) hb); clear hb hbox hg; obtain ⟨hcz11_0, hcz11_1, hcz11_2, hcz11_3, hcz11_4⟩ := bk5 BK254.out; have hfz11_0 := bf BK254.out))
   go_ret
   exact ⟨by first | rfl | (simp [errW_none, errW_some] <;> rfl) | (simp [*, errW_none, errW_some] <;> rfl), bl HB⟩
  rw [if_neg c5] at H
  have c5b0 : decide (a1 < (l0_4.length : Int)) = false := decide_eq_false c5
  clear c5
  obtain rfl := Option.some.inj H
  go_enter Tryd.func41, Tryd.ntmps41
  go_wp2_with (first | ((with_reducible refine gate_dst (N := 3) rfl ?_); (try (refine gate_guard (by rfl) ?_; dsimp only)); refine box_event ?hg (N := 3) ?hd (cs := #[.slice A0_0 l0_0.length c0_0, .slice A0_1 l0_1.length c0_1, .int .i64 a0_2, .int .i64 a0_3, .slice A0_4 l0_4.length c0_4]) (t := 30) ?hr ?_; (case hd => rfl); (case hg => rfl); (case hr => first | (go_simp; done) | (go_simp; rfl)); intro gb254 hg w12 hbox hb; have BK254 := Aside0.mk (hbox); have GW254 := ge hg (bl HB); have GE254 := ge hg (bl HB); replace HB := Aside0.mk (below_step (bl HB) hb); clear hb hbox hg; obtain ⟨hcz13_0, hcz13_1, hcz13_2, hcz13_3, hcz13_4⟩ := bk5 BK254.out; have hfz13_0 := bf BK254.out))
  go_ret
  exact ⟨by first | rfl | (simp [errW_none, errW_some] <;> rfl) | (simp [*, errW_none, errW_some] <;> rfl), bl HB⟩
 rw [if_neg c4] at H
 have c4b0 : decide (0 ≤ a1) = false := decide_eq_false c4
 clear c4
 obtain rfl := Option.some.inj H
 go_enter Tryd.func41, Tryd.ntmps41
 go_wp2_with (first | ((with_reducible refine gate_dst (N := 3) rfl ?_); (try (refine gate_guard (by rfl) ?_; dsimp only)); refine box_event ?hg (N := 3) ?hd (cs := #[.slice A0_0 l0_0.length c0_0, .slice A0_1 l0_1.length c0_1, .int .i64 a0_2, .int .i64 a0_3, .slice A0_4 l0_4.length c0_4]) (t := 30) ?hr ?_; (case hd => rfl); (case hg => rfl); (case hr => first | (go_simp; done) | (go_simp; rfl)); intro gb254 hg w14 hbox hb; have BK254 := Aside0.mk (hbox); have GW254 := ge hg (bl HB); have GE254 := ge hg (bl HB); replace HB := Aside0.mk (below_step (bl HB) hb); clear hb hbox hg))
 go_ret
 exact ⟨by first | rfl | (simp [errW_none, errW_some] <;> rfl) | (simp [*, errW_none, errW_some] <;> rfl), bl HB⟩
end Go.Proofs.YtdmimhjmbdkhmaaDoor.X
