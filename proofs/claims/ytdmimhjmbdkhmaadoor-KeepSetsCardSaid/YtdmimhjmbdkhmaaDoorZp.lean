/- The program as data, the laid table, and the pure statement: the printed functions answer true. -/
import Derived.Test.YtdmimhjmbdkhmaaDoorXx0
import Derived.Test.YtdmimhjmbdkhmaaDoorXx1
import Derived.Test.YtdmimhjmbdkhmaaDoorXx2
import Derived.Test.YtdmimhjmbdkhmaaDoorXx3
import Derived.Test.YtdmimhjmbdkhmaaDoorXx4
import Derived.Test.YtdmimhjmbdkhmaaDoorXx5
import Derived.Test.YtdmimhjmbdkhmaaDoorXx6
import Derived.Test.YtdmimhjmbdkhmaaDoorXx7
import Derived.Test.YtdmimhjmbdkhmaaDoorXx8
import Derived.Test.YtdmimhjmbdkhmaaDoorXx9
import Derived.Test.YtdmimhjmbdkhmaaDoorXx10
import Derived.Test.YtdmimhjmbdkhmaaDoorXx11
import Derived.Test.YtdmimhjmbdkhmaaDoorXx12
import Derived.Test.YtdmimhjmbdkhmaaDoorXx13
import Derived.Test.YtdmimhjmbdkhmaaDoorXx14
import Derived.Test.YtdmimhjmbdkhmaaDoorXx15
import Derived.ChangeShapes
import Derived.ChangeSlices
import Derived.ChangeArms
import Derived.ChangeSame
import Derived.SizedLaws
import Derived.ProofKit
import Derived.Test.YtdmimhjmbdkhmaaDoorRows
import Derived.Test.YtdmimhjmbdkhmaaDoorZg
import Derived.ChangeVars
import Derived.JoinedOf
import Derived.RowKit
import Derived.Test.YtdmimhjmbdkhmaaDoorZk
import Derived.LaidSub
set_option linter.unusedVariables false
set_option linter.unusedSimpArgs false
section

end
section
set_option linter.unusedVariables false
namespace Go.Proofs.YtdmimhjmbdkhmaaDoor.X
open Go.RowKit Go.Proofs.YtdmimhjmbdkhmaaDoorW.PrintWords
def Opens {α : Type} (P : Program) (W : World) (d : Kd α) (G : α → Prop) (t : TypeId) : Prop :=
  ∀ {H : Type} (enc : TypeId × Value → H) (base : Nat) (spare : Nat → Bool) (held : Bool) (fuel : Nat) (cs : List Value) (y : DataW H) (ps : List MemPlace), DataW.trod enc P W base spare held fuel t cs = some (y, ps) → (y.weights P t).all (· ≤ reachBytes) = true → ∃ x, d.K W x cs ∧ G x
theorem opens_int {P : Program} {W : World} {t : TypeId} {k : IntKind} (ht : P.underlying t = some (.int k)) : Opens P W (Kd.int k) (fun n => (Lit.int k n).wf = true) t := by
  intro H enc base spare held fuel cs y ps h _
  obtain ⟨m, rfl, _, hw⟩ := DataW.trod_int ht h
  exact ⟨m, rfl, hw⟩
theorem weights_all {H : Type} {P : Program} {e : TypeId} : ∀ {l : List (DataW H)} {y : DataW H}, y ∈ l → (DataW.weightsAll P e l).all (· ≤ reachBytes) = true → (y.weights P e).all (· ≤ reachBytes) = true
  | [], _, h, _ => by cases h
  | d :: r, y, h, hw => by
    simp only [DataW.weightsAll, List.all_append, Bool.and_eq_true] at hw
    rcases List.mem_cons.mp h with rfl | h
    · exact hw.1
    · exact weights_all h hw.2
theorem list_of_each {α : Type} {Q : Nat → α → Prop} : ∀ n, (∀ i, i < n → ∃ x, Q i x) → ∃ xs : List α, xs.length = n ∧ ∀ i x, xs[i]? = some x → Q i x
  | 0, _ => ⟨[], rfl, fun i x h => by simp at h⟩
  | n + 1, h => by
    obtain ⟨xs, hl, hx⟩ := list_of_each n (fun i hi => h i (by omega))
    obtain ⟨x, hq⟩ := h n (by omega)
    refine ⟨xs ++ [x], by simp [hl], fun i y hy => ?_⟩
    by_cases hi : i < n
    · rw [List.getElem?_append_left (by omega)] at hy
      exact hx i y hy
    · have hi2 : i = n := by
        have := (List.getElem?_eq_some_iff.mp hy).1
        simp [hl] at this
        omega
      subst hi2
      rw [List.getElem?_append_right (by omega), hl] at hy
      simp at hy
      rw [← hy]
      exact hq
theorem opens_slice {P : Program} {W : World} {t e : TypeId} {α : Type} {d : Kd α} {G : α → Prop} {B : Nat} (ht : P.underlying t = some (.slice e)) (hc : P.cellsOf e = d.sz) (hB : P.bytesOf e = B) (hd : Opens P W d G e) :
    Opens P W (Kd.slice e d) (fun l => l.length * B ≤ 140737488351232 ∧ l.length ≤ maxLen ∧ ∀ x ∈ l, G x) t := by
  intro H enc base spare held fuel cs y ps h hw
  rcases DataW.trod_slice ht h with ⟨rfl, _⟩ | ⟨a, len, cap, elems, rest, n, _, rfl, hx, hb, hl, hm, hlen, hel, hsp, hns⟩
  · exact ⟨[], ⟨none, 0, rfl, Nat.le_refl _, ⟨rfl, Nat.zero_le _, fun h => absurd h (Nat.lt_irrefl _)⟩⟩, by simp, by simp, fun x hx => by cases hx⟩
  · obtain ⟨rfl, rfl⟩ := Prod.mk.inj hx
    simp only [DataW.weights, ht, List.all_cons, List.all_append, Bool.and_eq_true, List.length_map, decide_eq_true_eq] at hw
    obtain ⟨hw0, hw1, _⟩ := hw
    have each : ∀ i, i < len → ∃ x, ∃ c, c.length = d.sz ∧ d.K W x c ∧ G x ∧ ∀ j u, c[j]? = some u → W.cell? (a.add (i * d.sz + j)) = some u := by
      intro i hi
      have h1 := hel i hi
      rw [List.getElem?_eq_getElem (by omega), Option.bind_eq_some_iff] at h1
      obtain ⟨c, hc1, hc2⟩ := h1
      obtain ⟨x, hK, hG⟩ := hd enc base spare held n c _ _ hc2 (weights_all (List.mem_map_of_mem (List.getElem_mem (by omega))) hw1)
      refine ⟨x, c, d.K_len hK, hK, hG, fun j u hu => ?_⟩
      obtain ⟨_, hcl, hcell⟩ := World.cells?_some hc1
      have hj := (List.getElem?_eq_some_iff.mp hu).1
      have := hcell j (by omega)
      rw [Addr.add_add, hc] at this
      rw [this, hu]
    obtain ⟨xs, hxl, hxs⟩ := list_of_each len each
    refine ⟨xs, ⟨some a, cap, by rw [hxl], by omega, ⟨rfl, ?_, fun _ => ⟨a, rfl, fun j p hp => ?_⟩⟩⟩, ?_, ?_, ?_⟩
    · have : maxLen = 9223372036854775807 := by decide
      omega
    · obtain ⟨c, h1, h2, _, h3⟩ := hxs j p hp
      exact ⟨c, h1, h2, h3⟩
    · rw [hB, hlen] at hw0
      have hr : reachBytes = 140737488351232 := by decide
      rw [hr] at hw0
      rw [hxl]
      exact Nat.le_trans (Nat.mul_le_mul_right _ (Nat.le_add_right _ _)) hw0
    · omega
    · intro x hx
      obtain ⟨i, hi⟩ := List.getElem?_of_mem hx
      obtain ⟨_, _, _, hG, _⟩ := hxs i x hi
      exact hG
theorem len1 {α : Type} : ∀ (l : List α), l.length = 1 → ∃ c0, l = [c0]
  | [c0], _ => ⟨c0, rfl⟩
theorem len5 {α : Type} : ∀ (l : List α), l.length = 5 → ∃ c0 c1 c2 c3 c4, l = [c0, c1, c2, c3, c4]
  | [c0, c1, c2, c3, c4], _ => ⟨c0, c1, c2, c3, c4, rfl⟩
theorem len7 {α : Type} : ∀ (l : List α), l.length = 7 → ∃ c0 c1 c2 c3 c4 c5 c6, l = [c0, c1, c2, c3, c4, c5, c6]
  | [c0, c1, c2, c3, c4, c5, c6], _ => ⟨c0, c1, c2, c3, c4, c5, c6, rfl⟩
def GIns (x : S44) : Prop := x.f6.length * 8 ≤ 140737488351232
def GBlk (x : S40) : Prop := x.f0.length ≤ maxLen ∧ ∀ y ∈ x.f0, GIns y
def GFn (x : S30) : Prop := x.f0.length ≤ maxLen ∧ x.f1.length ≤ maxLen ∧ x.f4.length ≤ maxLen ∧ ∀ y ∈ x.f4, GBlk y
theorem cI : Tryd.prog.cellsOf 3 = 1 := by kernel_rfl
theorem cLI : Tryd.prog.cellsOf 27 = 1 := by kernel_rfl
theorem cLIns : Tryd.prog.cellsOf 38 = 1 := by kernel_rfl
theorem cLBlk : Tryd.prog.cellsOf 28 = 1 := by kernel_rfl
theorem cLFn : Tryd.prog.cellsOf 22 = 1 := by kernel_rfl
theorem cIns : Tryd.prog.cellsOf 44 = 7 := by kernel_rfl
theorem cBlk : Tryd.prog.cellsOf 40 = 1 := by kernel_rfl
theorem cFn : Tryd.prog.cellsOf 30 = 5 := by kernel_rfl
theorem cPr : Tryd.prog.cellsOf 24 = 1 := by kernel_rfl
theorem opens_ints (W : World) : Opens Tryd.prog W (Kd.slice 3 (Kd.int .i64)) (fun l => l.length * 8 ≤ 140737488351232 ∧ l.length ≤ maxLen ∧ ∀ x ∈ l, (Lit.int .i64 x).wf = true) 27 :=
  opens_slice Tryd.underlying27 cI (by kernel_rfl) (opens_int Tryd.underlying3)
theorem opens_ins (W : World) : Opens Tryd.prog W k44 GIns 44 := by
  intro H enc base spare held fuel cs y ps h hw
  obtain ⟨xs, n, _, hx, hl, hlen, hf⟩ := DataW.trod_struct Tryd.underlying44 h
  rw [cIns] at hl
  obtain ⟨c0, c1, c2, c3, c4, c5, c6, rfl⟩ := len7 cs hl
  obtain ⟨y0, y1, y2, y3, y4, y5, y6, rfl⟩ := len7 xs (hlen.trans rfl)
  have h0 : DataW.trod enc Tryd.prog W base spare held n 3 (([c0, c1, c2, c3, c4, c5, c6].drop 0).take (Tryd.prog.cellsOf 3)) = some y0 := hf 0 _ rfl
  rw [cI] at h0
  replace h0 : DataW.trod enc Tryd.prog W base spare held n 3 [c0] = some y0 := h0
  have h1 : DataW.trod enc Tryd.prog W base spare held n 3 (([c0, c1, c2, c3, c4, c5, c6].drop 1).take (Tryd.prog.cellsOf 3)) = some y1 := hf 1 _ rfl
  rw [cI] at h1
  replace h1 : DataW.trod enc Tryd.prog W base spare held n 3 [c1] = some y1 := h1
  have h2 : DataW.trod enc Tryd.prog W base spare held n 3 (([c0, c1, c2, c3, c4, c5, c6].drop 2).take (Tryd.prog.cellsOf 3)) = some y2 := hf 2 _ rfl
  rw [cI] at h2
  replace h2 : DataW.trod enc Tryd.prog W base spare held n 3 [c2] = some y2 := h2
  have h3 : DataW.trod enc Tryd.prog W base spare held n 3 (([c0, c1, c2, c3, c4, c5, c6].drop 3).take (Tryd.prog.cellsOf 3)) = some y3 := hf 3 _ rfl
  rw [cI] at h3
  replace h3 : DataW.trod enc Tryd.prog W base spare held n 3 [c3] = some y3 := h3
  have h4 : DataW.trod enc Tryd.prog W base spare held n 3 (([c0, c1, c2, c3, c4, c5, c6].drop 4).take (Tryd.prog.cellsOf 3)) = some y4 := hf 4 _ rfl
  rw [cI] at h4
  replace h4 : DataW.trod enc Tryd.prog W base spare held n 3 [c4] = some y4 := h4
  have h5 : DataW.trod enc Tryd.prog W base spare held n 3 (([c0, c1, c2, c3, c4, c5, c6].drop 5).take (Tryd.prog.cellsOf 3)) = some y5 := hf 5 _ rfl
  rw [cI] at h5
  replace h5 : DataW.trod enc Tryd.prog W base spare held n 3 [c5] = some y5 := h5
  have h6 : DataW.trod enc Tryd.prog W base spare held n 27 (([c0, c1, c2, c3, c4, c5, c6].drop 6).take (Tryd.prog.cellsOf 27)) = some y6 := hf 6 _ rfl
  rw [cLI] at h6
  replace h6 : DataW.trod enc Tryd.prog W base spare held n 27 [c6] = some y6 := h6
  obtain ⟨rfl, rfl⟩ := Prod.mk.inj hx
  simp only [DataW.weights, Tryd.underlying44, List.map_cons, List.map_nil, DataW.weightsEach, List.all_append, Bool.and_eq_true] at hw
  obtain ⟨w0, w1, w2, w3, w4, w5, w6, _⟩ := hw
  obtain ⟨x0, k0, _⟩ := opens_int (W := W) Tryd.underlying3 enc base spare held n _ y0.1 y0.2 h0 w0
  obtain ⟨x1, k1, _⟩ := opens_int (W := W) Tryd.underlying3 enc base spare held n _ y1.1 y1.2 h1 w1
  obtain ⟨x2, k2, _⟩ := opens_int (W := W) Tryd.underlying3 enc base spare held n _ y2.1 y2.2 h2 w2
  obtain ⟨x3, k3, _⟩ := opens_int (W := W) Tryd.underlying3 enc base spare held n _ y3.1 y3.2 h3 w3
  obtain ⟨x4, k4, _⟩ := opens_int (W := W) Tryd.underlying3 enc base spare held n _ y4.1 y4.2 h4 w4
  obtain ⟨x5, k5, _⟩ := opens_int (W := W) Tryd.underlying3 enc base spare held n _ y5.1 y5.2 h5 w5
  obtain ⟨x6, k6, g6, _⟩ := opens_ints W enc base spare held n _ y6.1 y6.2 h6 w6
  obtain ⟨A6, q6, e6_, l6, m6⟩ := k6
  obtain rfl := List.head_eq_of_cons_eq e6_
  obtain rfl := List.head_eq_of_cons_eq k0
  obtain rfl := List.head_eq_of_cons_eq k1
  obtain rfl := List.head_eq_of_cons_eq k2
  obtain rfl := List.head_eq_of_cons_eq k3
  obtain rfl := List.head_eq_of_cons_eq k4
  obtain rfl := List.head_eq_of_cons_eq k5
  exact ⟨⟨x0, x1, x2, x3, x4, x5, x6⟩, k44_mk W ⟨x0, x1, x2, x3, x4, x5, x6⟩ l6 m6, g6⟩
theorem opens_lins (W : World) : Opens Tryd.prog W (Kd.slice 44 k44) (fun l => l.length * 72 ≤ 140737488351232 ∧ l.length ≤ maxLen ∧ ∀ x ∈ l, GIns x) 38 :=
  opens_slice Tryd.underlying38 cIns (by kernel_rfl) (opens_ins W)
theorem opens_blk (W : World) : Opens Tryd.prog W k40 GBlk 40 := by
  intro H enc base spare held fuel cs y ps h hw
  obtain ⟨xs, n, _, hx, hl, hlen, hf⟩ := DataW.trod_struct Tryd.underlying40 h
  rw [cBlk] at hl
  obtain ⟨c0, rfl⟩ := len1 cs hl
  obtain ⟨y0, rfl⟩ := len1 xs (hlen.trans rfl)
  have h0 : DataW.trod enc Tryd.prog W base spare held n 38 (([c0].drop 0).take (Tryd.prog.cellsOf 38)) = some y0 := hf 0 _ rfl
  rw [cLIns] at h0
  replace h0 : DataW.trod enc Tryd.prog W base spare held n 38 [c0] = some y0 := h0
  obtain ⟨rfl, rfl⟩ := Prod.mk.inj hx
  simp only [DataW.weights, Tryd.underlying40, List.map_cons, List.map_nil, DataW.weightsEach, List.all_append, Bool.and_eq_true] at hw
  obtain ⟨w0, _⟩ := hw
  obtain ⟨x0, k0, _, g0, e0⟩ := opens_lins W enc base spare held n _ y0.1 y0.2 h0 w0
  obtain ⟨A0, q0, e0_, l0, m0⟩ := k0
  obtain rfl := List.head_eq_of_cons_eq e0_
  exact ⟨⟨x0⟩, k40_mk W ⟨x0⟩ l0 m0, g0, e0⟩
theorem opens_lblk (W : World) : Opens Tryd.prog W (Kd.slice 40 k40) (fun l => l.length * 24 ≤ 140737488351232 ∧ l.length ≤ maxLen ∧ ∀ x ∈ l, GBlk x) 28 :=
  opens_slice Tryd.underlying28 cBlk (by kernel_rfl) (opens_blk W)
theorem opens_fn (W : World) : Opens Tryd.prog W k30 GFn 30 := by
  intro H enc base spare held fuel cs y ps h hw
  obtain ⟨xs, n, _, hx, hl, hlen, hf⟩ := DataW.trod_struct Tryd.underlying30 h
  rw [cFn] at hl
  obtain ⟨c0, c1, c2, c3, c4, rfl⟩ := len5 cs hl
  obtain ⟨y0, y1, y2, y3, y4, rfl⟩ := len5 xs (hlen.trans rfl)
  have h0 : DataW.trod enc Tryd.prog W base spare held n 27 (([c0, c1, c2, c3, c4].drop 0).take (Tryd.prog.cellsOf 27)) = some y0 := hf 0 _ rfl
  rw [cLI] at h0
  replace h0 : DataW.trod enc Tryd.prog W base spare held n 27 [c0] = some y0 := h0
  have h1 : DataW.trod enc Tryd.prog W base spare held n 27 (([c0, c1, c2, c3, c4].drop 1).take (Tryd.prog.cellsOf 27)) = some y1 := hf 1 _ rfl
  rw [cLI] at h1
  replace h1 : DataW.trod enc Tryd.prog W base spare held n 27 [c1] = some y1 := h1
  have h2 : DataW.trod enc Tryd.prog W base spare held n 3 (([c0, c1, c2, c3, c4].drop 2).take (Tryd.prog.cellsOf 3)) = some y2 := hf 2 _ rfl
  rw [cI] at h2
  replace h2 : DataW.trod enc Tryd.prog W base spare held n 3 [c2] = some y2 := h2
  have h3 : DataW.trod enc Tryd.prog W base spare held n 3 (([c0, c1, c2, c3, c4].drop 3).take (Tryd.prog.cellsOf 3)) = some y3 := hf 3 _ rfl
  rw [cI] at h3
  replace h3 : DataW.trod enc Tryd.prog W base spare held n 3 [c3] = some y3 := h3
  have h4 : DataW.trod enc Tryd.prog W base spare held n 28 (([c0, c1, c2, c3, c4].drop 4).take (Tryd.prog.cellsOf 28)) = some y4 := hf 4 _ rfl
  rw [cLBlk] at h4
  replace h4 : DataW.trod enc Tryd.prog W base spare held n 28 [c4] = some y4 := h4
  obtain ⟨rfl, rfl⟩ := Prod.mk.inj hx
  simp only [DataW.weights, Tryd.underlying30, List.map_cons, List.map_nil, DataW.weightsEach, List.all_append, Bool.and_eq_true] at hw
  obtain ⟨w0, w1, w2, w3, w4, _⟩ := hw
  obtain ⟨x0, k0, _, g0, _⟩ := opens_ints W enc base spare held n _ y0.1 y0.2 h0 w0
  obtain ⟨x1, k1, _, g1, _⟩ := opens_ints W enc base spare held n _ y1.1 y1.2 h1 w1
  obtain ⟨x2, k2, _⟩ := opens_int (W := W) Tryd.underlying3 enc base spare held n _ y2.1 y2.2 h2 w2
  obtain ⟨x3, k3, _⟩ := opens_int (W := W) Tryd.underlying3 enc base spare held n _ y3.1 y3.2 h3 w3
  obtain ⟨x4, k4, _, g4, e4⟩ := opens_lblk W enc base spare held n _ y4.1 y4.2 h4 w4
  obtain ⟨A0, q0, e0_, l0, m0⟩ := k0
  obtain rfl := List.head_eq_of_cons_eq e0_
  obtain ⟨A1, q1, e1_, l1, m1⟩ := k1
  obtain rfl := List.head_eq_of_cons_eq e1_
  obtain ⟨A4, q4, e4_, l4, m4⟩ := k4
  obtain rfl := List.head_eq_of_cons_eq e4_
  obtain rfl := List.head_eq_of_cons_eq k2
  obtain rfl := List.head_eq_of_cons_eq k3
  exact ⟨⟨x0, x1, x2, x3, x4⟩, k30_mk W ⟨x0, x1, x2, x3, x4⟩ l0 m0 l1 m1 l4 m4, g0, g1, g4, e4⟩
theorem opens_lfn (W : World) : Opens Tryd.prog W (Kd.slice 30 k30) (fun l => l.length * 88 ≤ 140737488351232 ∧ l.length ≤ maxLen ∧ ∀ x ∈ l, GFn x) 22 :=
  opens_slice Tryd.underlying22 cFn (by kernel_rfl) (opens_fn W)
set_option maxRecDepth 100000 in
theorem open_prog {H : Type} {enc : TypeId × Value → H} {W : World} {base : Nat} {r : Reach} {b0 : Nat} {spare : Nat → Bool} {held : Bool} {v : Value} {y : DataW H} {ps : List MemPlace} (hv : Value.okWide Tryd.prog W r b0 24 v) (h : DataW.Trod enc Tryd.prog W base spare held 24 v y ps) (hw : (y.weights Tryd.prog 24).all (· ≤ reachBytes) = true) :
    ∃ A c l, v = .agg #[.slice A l.length c] ∧ l.length ≤ c ∧ k30.C W A l.length l ∧ l.length ≤ maxLen ∧ ∀ x ∈ l, GFn x := by
  obtain ⟨cs, rfl, hs⟩ := Go.WideShapes.okWide_struct Tryd.underlying24 hv
  obtain ⟨fuel, hf⟩ := h
  obtain ⟨xs, n, _, hx, hl, hlen, hf⟩ := DataW.trod_struct Tryd.underlying24 hf
  rw [cPr] at hl
  obtain ⟨c0, hc⟩ := len1 _ hl
  have hcs : cs = #[c0] := by
    cases cs
    simpa [Value.cells] using hc
  subst hcs
  obtain ⟨y0, rfl⟩ := len1 xs (hlen.trans rfl)
  have h0 : DataW.trod enc Tryd.prog W base spare held n 22 (([c0].drop 0).take (Tryd.prog.cellsOf 22)) = some y0 := hf 0 _ rfl
  rw [cLFn] at h0
  replace h0 : DataW.trod enc Tryd.prog W base spare held n 22 [c0] = some y0 := h0
  obtain ⟨rfl, rfl⟩ := Prod.mk.inj hx
  simp only [DataW.weights, Tryd.underlying24, List.map_cons, List.map_nil, DataW.weightsEach, List.all_append, Bool.and_eq_true] at hw
  obtain ⟨l, k0, _, g0, e0⟩ := opens_lfn W enc base spare held n _ y0.1 y0.2 h0 hw.1
  obtain ⟨A, c, e_, l0, m0⟩ := k0
  obtain rfl := List.head_eq_of_cons_eq e_
  exact ⟨A, c, l, rfl, l0, m0, g0, e0⟩
end Go.Proofs.YtdmimhjmbdkhmaaDoor.X
end
section
set_option linter.unusedVariables false
namespace Go.Proofs.YtdmimhjmbdkhmaaDoor.X
open Go.ChangeShapes Go.WideShapes Go.RowKit
theorem own : ownKnob Tryd.prog.godebug = none := by kernel_rfl
theorem partsG : Tryd.prog.globalNamed "portolan/code.parts" = some 1 := by kernel_rfl
theorem partsT : (Tryd.prog.globals[1]?).map (·.type) = some 105 := by kernel_rfl
theorem cells24 : Tryd.prog.cellsOf 105 = 24 := by kernel_rfl
theorem cells9 : Tryd.prog.cellsOf 9 = 1 := by kernel_rfl
def partsCells : Array Value := (partsB.map Value.string).toArray
theorem array_trod {H : Type} {enc : TypeId × Value → H} {P : Program} {w : World} {base : Nat} {spare : Nat → Bool} {held : Bool} {fuel : Nat} {t e : TypeId} {n : Nat} {cs : List Value} {y : DataW H × List MemPlace} (ht : P.underlying t = some (.array n e)) (h : DataW.trod enc P w base spare held fuel t cs = some y) :
    ∃ m xs, cs.length = P.cellsOf t ∧ (List.range n).mapM (fun i => DataW.trod enc P w base spare held m e ((cs.drop (i * P.cellsOf e)).take (P.cellsOf e))) = some xs ∧ y.1 = .agg (xs.map (·.1)) := by
  cases fuel with
  | zero => simp [DataW.trod] at h
  | succ m =>
    unfold DataW.trod at h
    rw [ht] at h
    split at h <;> simp_all
    obtain ⟨hl, xs, hx, rfl⟩ := h
    exact ⟨m, xs, hx, rfl⟩
theorem mapM_get {α β : Type} {f : α → Option β} : ∀ {l : List α} {xs : List β}, l.mapM f = some xs → ∀ (i : Nat) (a : α), l[i]? = some a → ∃ x, xs[i]? = some x ∧ f a = some x
  | [], _, _, i, a, h => by simp at h
  | b :: l, xs, hm, i, a, h => by
    simp only [List.mapM_cons, Option.bind_eq_bind, Option.bind_eq_some_iff, Option.pure_def, Option.some.injEq] at hm
    obtain ⟨y, hy, ys, hys, rfl⟩ := hm
    cases i with
    | zero =>
      simp at h
      subst h
      exact ⟨y, rfl, hy⟩
    | succ i =>
      simp at h
      obtain ⟨x, h1, h2⟩ := mapM_get hys i a h
      exact ⟨x, by simpa using h1, h2⟩
theorem GG_of_laid {l : List (String × DataW Unit)} {W : World} (h : laidMet Tryd.prog (("portolan/code.parts", Rows.laid_portolan_code_parts) :: l) W) : GG W := by
  obtain ⟨ps, ⟨g, t, cs, fuel, p, q, hg, ht, hvar, hd, _, _⟩, _⟩ := h
  obtain rfl := Option.some.inj (partsG.symm.trans hg)
  obtain rfl := Option.some.inj (partsT.symm.trans ht)
  refine ⟨fun j hj => ?_⟩
  rw [World.var?_cell hg hvar j]
  obtain ⟨m, xs, hl, hm, hx⟩ := array_trod Tryd.underlying105 hd
  rw [cells9] at hm
  rw [cells24] at hl
  obtain ⟨x, hx1, hx2⟩ := mapM_get hm j j (by simp [hj])
  have hc : (cs.toList.drop (j * 1)).take 1 = [cs.toList[j]'(by omega)] := by
    rw [Nat.mul_one, List.drop_eq_getElem_cons (by omega)]
    rfl
  rw [hc] at hx2
  obtain ⟨s, hs, rfl, _⟩ := DataW.trod_string Tryd.underlying9 hx2
  have hs' : cs.toList[j]'(by omega) = .string s := List.head_eq_of_cons_eq hs
  have he : (xs.map (·.1))[j]? = some (.lit (.string s.data.toList)) := by rw [List.getElem?_map, hx1]; rfl
  have hlaid : (Rows.laid_portolan_code_parts : DataW Unit) = .agg (partsB.map fun b => .lit (.string b.data.toList)) := by kernel_rfl
  rw [hlaid] at hx
  injection hx with hx
  rw [← hx, List.getElem?_map] at he
  rw [← Array.getElem?_toList, List.getElem?_eq_getElem (by omega), hs']
  congr 1
  congr 1
  cases hp : partsB[j]? with
  | none => rw [hp] at he; cases he
  | some b =>
    rw [hp] at he
    rw [List.getD_eq_getElem?_getD, hp]
    simp at he
    cases s
    cases b
    simp at he
    rw [he]
    rfl
noncomputable def laidWorld (os : Os) : World :=
  { World.holding Tryd.prog os ⟨#[], #[], []⟩ with heap := (World.holding Tryd.prog os ⟨#[], #[], []⟩).heap.modify 1 fun
      | .cells _ t frozen => .cells partsCells t frozen
      | o => o }
end Go.Proofs.YtdmimhjmbdkhmaaDoor.X
end
section
set_option linter.unusedVariables false
namespace Go.Proofs.YtdmimhjmbdkhmaaDoor.X
open Go.ChangeShapes Go.WideShapes Go.RowKit Go.Proofs.YtdmimhjmbdkhmaaDoorW.PrintWords
theorem tabG : Tryd.prog.globalNamed "math/bits.deBruijn64tab" = some 0 := by kernel_rfl
theorem tabT : (Tryd.prog.globals[0]?).map (·.type) = some 91 := by kernel_rfl
theorem cells64 : Tryd.prog.cellsOf 91 = 64 := by kernel_rfl
theorem cells5 : Tryd.prog.cellsOf 5 = 1 := by kernel_rfl
def tabCells : Array Value := (Lib.deBruijn64tab.map fun n : Nat => Value.int .u8 (n : Int)).toArray
abbrev twoLaid : List (String × DataW Unit) := [("math/bits.deBruijn64tab", Rows.laid_math_bits_deBruijn64tab), ("portolan/code.parts", Rows.laid_portolan_code_parts)]
theorem GB_of_laid {l : List (String × DataW Unit)} {W : World} (h : laidMet Tryd.prog (("math/bits.deBruijn64tab", Rows.laid_math_bits_deBruijn64tab) :: l) W) : GB W := by
  obtain ⟨ps, ⟨g, t, cs, fuel, p, q, hg, ht, hvar, hd, _, _⟩, _⟩ := h
  obtain rfl := Option.some.inj (tabG.symm.trans hg)
  obtain rfl := Option.some.inj (tabT.symm.trans ht)
  refine ⟨fun j hj => ?_⟩
  have hj : j < 64 := hj
  rw [World.var?_cell tabG hvar j]
  obtain ⟨m, xs, hl, hm, hx⟩ := array_trod Tryd.underlying91 hd
  rw [cells5] at hm
  rw [cells64] at hl
  obtain ⟨x, hx1, hx2⟩ := mapM_get hm j j (by simp [hj])
  have hc : (cs.toList.drop (j * 1)).take 1 = [cs.toList[j]'(by omega)] := by
    rw [Nat.mul_one, List.drop_eq_getElem_cons (by omega)]
    rfl
  rw [hc] at hx2
  obtain ⟨v, hv, hy, _⟩ := DataW.trod_int Tryd.underlying5 hx2
  have hs' : cs.toList[j]'(by omega) = .int .u8 v := List.head_eq_of_cons_eq hv
  have he : (xs.map (·.1))[j]? = some (.lit (.int .u8 v)) := by rw [List.getElem?_map, hx1, hy]; rfl
  have hlaid : (Rows.laid_math_bits_deBruijn64tab : DataW Unit) = .agg (Lib.deBruijn64tab.map fun n : Nat => .lit (.int .u8 (n : Int))) := by kernel_rfl
  rw [hlaid] at hx
  injection hx with hx
  rw [← hx, List.getElem?_map] at he
  rw [← Array.getElem?_toList, List.getElem?_eq_getElem (by omega), hs']
  have hlen : Lib.deBruijn64tab.length = 64 := by decide
  rw [List.getElem?_eq_getElem (by omega)] at he
  rw [List.getD_eq_getElem?_getD, List.getElem?_eq_getElem (by omega)]
  simp at he
  rw [← he]
  rfl
theorem GG_of_two {W : World} (h : laidMet Tryd.prog twoLaid W) : GG W :=
  GG_of_laid (l := []) (by simpa [twoLaid] using laidMet.filter (fun x => x.1 == "portolan/code.parts") h)
def layO (cs : Array Value) : Obj → Obj
  | .cells _ t frozen => .cells cs t frozen
  | o => o
noncomputable def laidWorld2 (os : Os) : World :=
  { World.holding Tryd.prog os ⟨#[], #[], []⟩ with heap := ((World.holding Tryd.prog os ⟨#[], #[], []⟩).heap.modify 1 (layO partsCells)).modify 0 (layO tabCells) }
theorem laid_row2 (os : Os) (args : Array Value) : ((laidWorld2 os).forCall (fun _ _ => 0) ⟨#[], args, []⟩).memory.heap[1]? = some (.cells partsCells 105 (0, 0)) := by kernel_rfl
theorem laid_row3 (os : Os) (args : Array Value) : ((laidWorld2 os).forCall (fun _ _ => 0) ⟨#[], args, []⟩).memory.heap[0]? = some (.cells tabCells 91 (0, 0)) := by kernel_rfl
theorem laid_met2 (os : Os) (args : Array Value) : laidMet Tryd.prog twoLaid ((laidWorld2 os).forCall (fun _ _ => 0) ⟨#[], args, []⟩).memory := by
  have hv : ((laidWorld2 os).forCall (fun _ _ => 0) ⟨#[], args, []⟩).memory.var? Tryd.prog "portolan/code.parts" = some partsCells := by kernel_rfl
  have hv0 : ((laidWorld2 os).forCall (fun _ _ => 0) ⟨#[], args, []⟩).memory.var? Tryd.prog "math/bits.deBruijn64tab" = some tabCells := by kernel_rfl
  refine ⟨_, ⟨0, 91, tabCells, 8, [], _, by kernel_rfl, by kernel_rfl, hv0, by kernel_rfl, ⟨1, 105, partsCells, 8, [], [], by kernel_rfl, by kernel_rfl, hv, by kernel_rfl, rfl, rfl⟩, rfl⟩, of_decide_eq_true (by kernel_rfl), fun b off h => ?_⟩
  have hb : (b = 0 ∧ off < 64) ∨ (b = 1 ∧ off < 24) := by
    have hs : partsCells.size = 24 := rfl
    have hs0 : tabCells.size = 64 := rfl
    rw [hs, hs0] at h
    unfold MemPlace.row at h
    simp at h
    omega
  rcases hb with ⟨rfl, ho⟩ | ⟨rfl, ho⟩
  · refine ⟨⟨_, _, laid_row3 os args⟩, fun u v hc => ?_⟩
    rw [World.var?_cell tabG hv0 off] at hc
    have hm := Array.mem_of_getElem? hc
    simp [tabCells] at hm
  · refine ⟨⟨_, _, laid_row2 os args⟩, fun u v hc => ?_⟩
    rw [World.var?_cell partsG hv off] at hc
    have hm := Array.mem_of_getElem? hc
    simp [partsCells] at hm
end Go.Proofs.YtdmimhjmbdkhmaaDoor.X
end
section
namespace Go.Proofs.YtdmimhjmbdkhmaaDoor.X
open Go.RowKit Go.Proofs.YtdmimhjmbdkhmaaDoorW.PrintWords
def Ev {α : Type} (f : Nat → Option α) (r : α) : Prop := ∃ k0, ∀ k, k0 ≤ k → f k = some r
theorem Ev.const {α : Type} (r : α) : Ev (fun _ => some r) r := ⟨0, fun _ _ => rfl⟩
theorem Ev.bind {α β : Type} {f : Nat → Option α} {g : Nat → α → Option β} {a : α} {r : β} (hf : Ev f a) (hg : Ev (fun k => g k a) r) : Ev (fun k => (f k).bind (g k)) r := by
  obtain ⟨k1, h1⟩ := hf
  obtain ⟨k2, h2⟩ := hg
  exact ⟨max k1 k2, fun k hk => by show (f k).bind (g k) = some r; rw [h1 k (by omega)]; exact h2 k (by omega)⟩
theorem Ev.step {α : Type} {f g : Nat → Option α} {r : α} (hg : Ev g r) (h : ∀ k, f (k + 1) = g k) : Ev f r := by
  obtain ⟨k1, h1⟩ := hg
  refine ⟨k1 + 1, fun k hk => ?_⟩
  cases k with
  | zero => omega
  | succ k => rw [h k]; exact h1 k (by omega)
theorem Ev.congr {α : Type} {f g : Nat → Option α} {r : α} (hg : Ev g r) (h : ∀ k, f k = g k) : Ev f r := by
  obtain ⟨k1, h1⟩ := hg
  exact ⟨k1, fun k hk => by rw [h k]; exact h1 k hk⟩
theorem Ev.of_mono {α : Type} {f : Nat → Option α} {r : α} (hm : ∀ k, LeO (f k) (f (k + 1))) (k0 : Nat) (h : f k0 = some r) : Ev f r := by
  refine ⟨k0, fun k hk => ?_⟩
  obtain ⟨d, rfl⟩ := Nat.le.dest hk
  induction d with
  | zero => exact h
  | succ d ih => exact hm _ _ (ih (by omega))
theorem Ev.get {α : Type} {f : Nat → Option α} {r : α} (h : Ev f r) : ∃ k, f k = some r := ⟨h.choose, h.choose_spec _ (Nat.le_refl _)⟩
def enc (n : Nat) : List Int := if n = 0 then [] else [(n : Int)]
theorem enc_length (n : Nat) : (enc n).length ≤ 1 := by unfold enc; split <;> simp
theorem neatL_one (n : Nat) : neatL [(n : Int)] = enc n := by
  unfold enc
  split
  · rename_i h
    subst h
    rfl
  · rename_i h
    exact neatL_ne [] (n : Int) (by omega)
theorem u64_wrap (n : Nat) (h : n < 2 ^ 64) : IntKind.u64.wrap (n : Int) = (n : Int) := by
  have : (IntKind.u64.wrap (n : Int)) = (n : Int) % 18446744073709551616 := by
    simp [IntKind.wrap, IntKind.signed, IntKind.bits]
  rw [this]
  omega
theorem ofInt_nat (n : Nat) : BitVec.ofInt 64 (n : Int) = BitVec.ofNat 64 n := by
  apply BitVec.eq_of_toNat_eq
  simp
theorem or_nat (a b : Nat) (ha : a < 2 ^ 64) (hb : b < 2 ^ 64) : Go.bits .or .u64 (a : Int) (b : Int) = ((a ||| b : Nat) : Int) := by
  change IntKind.u64.wrap (((BitVec.ofInt 64 (a : Int) ||| BitVec.ofInt 64 (b : Int) : BitVec 64).toNat : Nat) : Int) = _
  rw [ofInt_nat, ofInt_nat]
  rw [BitVec.toNat_or, BitVec.toNat_ofNat, BitVec.toNat_ofNat, Nat.mod_eq_of_lt ha, Nat.mod_eq_of_lt hb]
  exact u64_wrap _ (Nat.or_lt_two_pow ha hb)
theorem and_nat (a b : Nat) (ha : a < 2 ^ 64) (hb : b < 2 ^ 64) : Go.bits .and .u64 (a : Int) (b : Int) = ((a &&& b : Nat) : Int) := by
  change IntKind.u64.wrap (((BitVec.ofInt 64 (a : Int) &&& BitVec.ofInt 64 (b : Int) : BitVec 64).toNat : Nat) : Int) = _
  rw [ofInt_nat, ofInt_nat]
  rw [BitVec.toNat_and, BitVec.toNat_ofNat, BitVec.toNat_ofNat, Nat.mod_eq_of_lt ha, Nat.mod_eq_of_lt hb]
  exact u64_wrap _ (Nat.lt_of_le_of_lt Nat.and_le_left ha)
theorem wrap64_id {n : Int} (h1 : -9223372036854775808 ≤ n) (h2 : n < 9223372036854775808) : wrap64 n = n := by
  unfold wrap64
  omega
theorem shl_one (v : Nat) (h : v < 64) : shl .u64 1 (v : Int) = ((2 ^ v : Nat) : Int) := by
  unfold shl
  have : min ((v : Int)).toNat IntKind.u64.bits = v := by simp [IntKind.bits]; omega
  rw [this]
  have h2 : (1 : Int) * 2 ^ v = ((2 ^ v : Nat) : Int) := by simp
  rw [h2]
  exact u64_wrap _ (Nat.pow_lt_pow_right (by decide) h)
def Sub (a b : Nat) : Prop := ∀ i, a.testBit i = true → b.testBit i = true
theorem Sub.zero (a : Nat) : Sub 0 a := fun i h => by simp at h
end Go.Proofs.YtdmimhjmbdkhmaaDoor.X
end
section
namespace Go.Proofs.YtdmimhjmbdkhmaaDoor.X
open Go.RowKit Go.Proofs.YtdmimhjmbdkhmaaDoorW.PrintWords
def addl (a : Nat) (l : List Int) : Nat := l.foldl (fun a v => a ||| 2 ^ v.toNat) a
def Small (l : List Int) : Prop := ∀ v ∈ l, 0 ≤ v ∧ v < 48
theorem addl_lt : ∀ {l : List Int} {a : Nat}, a < 2 ^ 48 → Small l → addl a l < 2 ^ 48
  | [], a, h, _ => h
  | v :: l, a, h, hs => by
    have hv := hs v List.mem_cons_self
    exact addl_lt (l := l) (a := a ||| 2 ^ v.toNat) (Nat.or_lt_two_pow h (Nat.pow_lt_pow_right (by decide) (by omega))) (fun x hx => hs x (List.mem_cons_of_mem _ hx))
def St (x : List Int) (a : Nat) : Prop := (x = [] ∧ a = 0) ∨ x = [(a : Int)]
theorem St.enc (a : Nat) : St (enc a) a := by
  unfold X.enc
  split
  · rename_i h
    exact .inl ⟨rfl, h⟩
  · exact .inr rfl
theorem St.neat {x : List Int} {a : Nat} (h : St x a) : neatL x = X.enc a := by
  rcases h with ⟨rfl, rfl⟩ | rfl
  · rfl
  · exact neatL_one a
theorem rd_of (l : List Int) (i : Nat) (h : i < l.length) : rd l (i : Int) = l[i] := by
  unfold rd
  rw [Int.toNat_natCast, List.getD_eq_getElem?_getD, List.getElem?_eq_getElem h]
  rfl
theorem tdiv64 {v : Int} (h0 : 0 ≤ v) (h1 : v < 48) : wrap64 (Int.tdiv v 64) = 0 := by
  rw [Int.tdiv_eq_ediv_of_nonneg h0, show v / 64 = 0 by omega]
  decide +kernel
theorem tmod64 {v : Int} (h0 : 0 ≤ v) (h1 : v < 48) : Int.tmod v 64 = v := by
  rw [Int.tmod_eq_emod_of_nonneg h0]
  omega
theorem maxLen_eq : maxLen = 9223372036854775807 := by decide
theorem next_i {i n : Nat} (h : i < n) (hn : n ≤ maxLen) : wrap64 ((i : Int) + 1) = ((i + 1 : Nat) : Int) := by
  rw [maxLen_eq] at hn
  rw [wrap64_id (by omega) (by omega)]
  omega
theorem With_loop (l : List Int) (hl : l.length ≤ maxLen) (hs : Small l) : ∀ (m i : Nat) (x : List Int) (a : Nat), i + m = l.length → St x a → a < 2 ^ 48 → Ev (fun k => bitset_With.l0 k x l (l.length : Int) (i : Int)) (enc (addl a (l.drop i)))
  | 0, i, x, a, hi, hx, ha => by
    have : l.drop i = [] := List.drop_eq_nil_of_le (by omega)
    rw [this]
    refine Ev.step (g := fun _ => some (enc a)) (Ev.const _) fun k => ?_
    simp only [bitset_With.l0]
    rw [if_neg (by omega)]
    unfold bitset_neat.f
    rw [hx.neat]
    rfl
  | m + 1, i, x, a, hi, hx, ha => by
    have hil : i < l.length := by omega
    rw [List.drop_eq_getElem_cons hil]
    obtain ⟨h0, h1⟩ := hs l[i] (List.getElem_mem hil)
    have hr := rd_of l i hil
    generalize hv : l[i] = v at *
    have e1 := tdiv64 h0 h1
    have e2 := tmod64 h0 h1
    have e3 : shl .u64 1 v = ((2 ^ v.toNat : Nat) : Int) := by
      have := shl_one v.toNat (by omega)
      rwa [Int.toNat_of_nonneg h0] at this
    have hp : 2 ^ v.toNat < 2 ^ 48 := Nat.pow_lt_pow_right (by decide) (by omega)
    have hb : (a ||| 2 ^ v.toNat) < 2 ^ 48 := Nat.or_lt_two_pow ha hp
    refine Ev.step (g := fun k => bitset_With.j1 k x v l (l.length : Int) (i : Int) false) ?_ fun k => ?_
    · refine Ev.step (g := fun k => bitset_With.l0 k [((a ||| 2 ^ v.toNat : Nat) : Int)] l (l.length : Int) ((i + 1 : Nat) : Int)) ?_ fun k => ?_
      · exact With_loop l hl hs m (i + 1) _ _ (by omega) (.inr rfl) hb
      · simp only [bitset_With.j1]
        rw [if_neg (by decide), e1, e2, e3, next_i hil hl]
        rcases hx with ⟨rfl, rfl⟩ | rfl
        · have w1 : wrap64 (wrap64 (0 + 1) - (([] : List Int).length : Int)) = 1 := by decide +kernel
          rw [w1, if_pos (by decide), if_pos (by decide), if_pos (by decide), Option.bind_some, if_pos (by decide), if_pos (by decide), if_pos h0]
          congr 1
          have : Go.bits .or .u64 (rd ([] ++ List.replicate (1 : Int).toNat 0) 0) ((2 ^ v.toNat : Nat) : Int) = ((0 ||| 2 ^ v.toNat : Nat) : Int) := or_nat 0 _ (by omega) (by omega)
          rw [this]
          rfl
        · have w1 : wrap64 (wrap64 (0 + 1) - (([(a : Int)] : List Int).length : Int)) = 0 := by
            show wrap64 (wrap64 (0 + 1) - 1) = 0
            decide +kernel
          rw [w1, if_neg (by decide), if_pos (by decide), if_pos (by simp), if_pos h0]
          congr 1
          have : Go.bits .or .u64 (rd [(a : Int)] 0) ((2 ^ v.toNat : Nat) : Int) = ((a ||| 2 ^ v.toNat : Nat) : Int) := or_nat a _ (by omega) (by omega)
          rw [this]
          rfl
    · simp only [bitset_With.l0]
      rw [if_pos (by omega), if_pos (by omega), if_pos (by omega), hr, if_neg (by omega)]
      congr 1
      exact decide_eq_false (by omega)
theorem With_ev (a : Nat) (ha : a < 2 ^ 48) (l : List Int) (hl : l.length ≤ maxLen) (hs : Small l) : Ev (fun k => bitset_With.f k (enc a) l) (enc (addl a l)) := by
  refine Ev.congr (With_loop l hl hs l.length 0 (enc a) a (by omega) (St.enc a) ha) fun k => ?_
  unfold bitset_With.f slices_Clone_uint64_uint64.f
  rw [if_pos (Nat.lt_of_le_of_lt (enc_length a) (by decide))]
  rfl
def del (a : Nat) (v : Int) : Nat := a &&& (2 ^ 64 - 1 - 2 ^ v.toNat)
end Go.Proofs.YtdmimhjmbdkhmaaDoor.X
end
section
namespace Go.Proofs.YtdmimhjmbdkhmaaDoor.X
open Go.RowKit Go.Proofs.YtdmimhjmbdkhmaaDoorW.PrintWords
theorem w1 : wrap64 1 = 1 := by decide +kernel
theorem enc_ne {a : Nat} (h : a ≠ 0) : enc a = [(a : Int)] := by unfold enc; rw [if_neg h]
end Go.Proofs.YtdmimhjmbdkhmaaDoor.X
end
section
namespace Go.Proofs.YtdmimhjmbdkhmaaDoor.X
open Go.RowKit Go.Proofs.YtdmimhjmbdkhmaaDoorW.PrintWords
theorem Words_ev (a : Nat) : Ev (fun k => portolanref02_Words.f k (enc a) (enc a)) true := by
  by_cases h0 : a = 0
  · subst h0
    exact Ev.of_mono (fun k => portolanref02_Words.mono _ _ k) 5 (by decide +kernel)
  · rw [enc_ne h0]
    refine ⟨3, fun k hk => ?_⟩
    obtain ⟨d, rfl⟩ := Nat.le.dest hk
    rw [Nat.add_comm]
    show portolanref02_Words.f (d + 3) [(a : Int)] [(a : Int)] = _
    unfold portolanref02_Words.f portolanref02_Same.f
    simp [portolanref02_Same.l0, portolanref02_at.f, mx, rd, w1]
end Go.Proofs.YtdmimhjmbdkhmaaDoor.X
end
section
namespace Go.Proofs.YtdmimhjmbdkhmaaDoor.X
open Go.RowKit Go.Proofs.YtdmimhjmbdkhmaaDoorW.PrintWords
theorem u64_v {v : Int} (h0 : 0 ≤ v) (h1 : v < 48) : IntKind.u64.wrap v = v := by
  have := u64_wrap v.toNat (by omega)
  rwa [Int.toNat_of_nonneg h0] at this
theorem RNeat_St {x : List Int} {b : Nat} (h : St x b) : portolanref02_Neat.f x = some (enc b) := by
  unfold portolanref02_Neat.f
  rw [if_pos (by rcases h with ⟨rfl, _⟩ | rfl <;> simp), h.neat]
theorem Rput_ev {x : List Int} {a : Nat} (ha : a < 2 ^ 48) (hx : St x a) {v : Int} (h0 : 0 ≤ v) (h1 : v < 48) : Ev (fun k => portolanref02_put.f k x v) [((a ||| 2 ^ v.toNat : Nat) : Int)] := by
  have e1 := tdiv64 h0 h1
  have e2 := tmod64 h0 h1
  have e4 := u64_v h0 h1
  have e3 : shl .u64 1 v = ((2 ^ v.toNat : Nat) : Int) := by
    have := shl_one v.toNat (by omega)
    rwa [Int.toNat_of_nonneg h0] at this
  have hp : 2 ^ v.toNat < 2 ^ 48 := Nat.pow_lt_pow_right (by decide) (by omega)
  have one : Ev (fun k => portolanref02_put.l0 k v [(a : Int)]) [((a ||| 2 ^ v.toNat : Nat) : Int)] := by
    refine Ev.step (g := fun _ => some _) (Ev.const _) fun k => ?_
    simp only [portolanref02_put.l0]
    rw [e1, e2, e4, e3, if_neg (by simp), if_pos (by decide), if_pos (by simp), if_pos h0]
    have : Go.bits .or .u64 (rd [(a : Int)] 0) ((2 ^ v.toNat : Nat) : Int) = ((a ||| 2 ^ v.toNat : Nat) : Int) := or_nat a _ (by omega) (by omega)
    rw [this]
    rfl
  rcases hx with ⟨rfl, rfl⟩ | rfl
  · refine Ev.congr (Ev.step (f := fun k => portolanref02_put.l0 k v []) one fun k => ?_) fun k => ?_
    · simp only [portolanref02_put.l0]
      rw [e1, if_pos (by decide), if_pos (by decide)]
      rfl
    · unfold portolanref02_put.f
      rw [Option.bind_some, if_pos (by decide)]
      rfl
  · refine Ev.congr one fun k => ?_
    unfold portolanref02_put.f
    rw [Option.bind_some, if_pos (by simp)]
    rfl
theorem RWith_loop (l : List Int) (hl : l.length ≤ maxLen) (hs : Small l) : ∀ (m i : Nat) (x : List Int) (a : Nat), i + m = l.length → St x a → a < 2 ^ 48 → Ev (fun k => portolanref02_With.l0 k l x (i : Int)) (enc (addl a (l.drop i)))
  | 0, i, x, a, hi, hx, ha => by
    have : l.drop i = [] := List.drop_eq_nil_of_le (by omega)
    rw [this]
    refine Ev.step (g := fun _ => some (enc a)) (Ev.const _) fun k => ?_
    simp only [portolanref02_With.l0]
    rw [if_neg (by omega), RNeat_St hx]
    rfl
  | m + 1, i, x, a, hi, hx, ha => by
    have hil : i < l.length := by omega
    rw [List.drop_eq_getElem_cons hil]
    obtain ⟨h0, h1⟩ := hs l[i] (List.getElem_mem hil)
    have hr := rd_of l i hil
    generalize hv : l[i] = v at *
    have hp : 2 ^ v.toNat < 2 ^ 48 := Nat.pow_lt_pow_right (by decide) (by omega)
    have hb : (a ||| 2 ^ v.toNat) < 2 ^ 48 := Nat.or_lt_two_pow ha hp
    refine Ev.step (g := fun k => (portolanref02_put.f k x v).bind fun t445 => portolanref02_With.l0 k l t445 ((i + 1 : Nat) : Int)) (Ev.bind (g := fun k t445 => portolanref02_With.l0 k l t445 ((i + 1 : Nat) : Int)) (Rput_ev ha hx h0 h1) (RWith_loop l hl hs m (i + 1) _ _ (by omega) (.inr rfl) hb)) fun k => ?_
    simp only [portolanref02_With.l0]
    have hsm : portolanref02_small.f v = some true := by
      unfold portolanref02_small.f
      rw [if_pos h0]
      congr 1
      exact decide_eq_true (by omega)
    rw [if_pos (by omega), if_pos (by omega), hr, hsm, Option.bind_some, if_pos rfl, next_i hil hl]
theorem RWith_ev (a : Nat) (ha : a < 2 ^ 48) (l : List Int) (hl : l.length ≤ maxLen) (hs : Small l) : Ev (fun k => portolanref02_With.f k (enc a) l) (enc (addl a l)) :=
  Ev.congr (RWith_loop l hl hs l.length 0 (enc a) a (by omega) (St.enc a) ha) fun k => rfl
end Go.Proofs.YtdmimhjmbdkhmaaDoor.X
end
section
namespace Go.Proofs.YtdmimhjmbdkhmaaDoor.X
open Go.RowKit Go.Proofs.YtdmimhjmbdkhmaaDoorW.PrintWords
def usesL (x : S44) : List Int := (if hasF x.f0 65 then [x.f2] else []) ++ ((if hasF x.f0 66 then [x.f3] else []) ++ (if hasF x.f0 76 then x.f6 else []))
def setsL (x : S44) : Int × Bool := if hasF x.f0 68 = true then (x.f1, true) else (0, false)
theorem RSets_eq (x : S44) : portolanref04_Sets.f x.f0 x.f1 x.f2 x.f3 x.f4 x.f5 x.f6 = some (setsL x) := by
  unfold portolanref04_Sets.f portolanref04_has.f
  rw [Option.bind_some]
  unfold setsL
  split <;> rfl
theorem RUses_ev (x : S44) (hx : x.f6.length + 2 < 17592186044416) : Ev (fun k => portolanref04_Uses.f k x.f0 x.f1 x.f2 x.f3 x.f4 x.f5 x.f6) (usesL x) := by
  have j : ∀ l : List Int, l.length ≤ 1 → Ev (fun k => portolanref04_Uses.j0 k l x.f0 x.f1 x.f2 x.f3 x.f4 x.f5 x.f6) (l ++ ((if hasF x.f0 66 then [x.f3] else []) ++ (if hasF x.f0 76 then x.f6 else []))) := by
    intro l hl
    refine Ev.step (g := fun _ => some _) (Ev.const _) fun k => ?_
    simp only [portolanref04_Uses.j0, portolanref04_has.f, Option.bind_some]
    cases h1 : hasF x.f0 66 <;> cases h2 : hasF x.f0 76 <;> simp
    · omega
    · omega
    · exact ⟨by omega, by omega⟩
  unfold usesL
  cases h0 : hasF x.f0 65
  · refine Ev.congr (j [] (by simp)) fun k => ?_
    unfold portolanref04_Uses.f portolanref04_has.f
    rw [h0]
    rfl
  · refine Ev.congr (j [x.f2] (by simp)) fun k => ?_
    unfold portolanref04_Uses.f portolanref04_has.f
    rw [h0]
    rfl
structure OkIns (x : S44) : Prop where
  args : x.f6.length + 2 < 17592186044416
  uses : Small (usesL x)
  sets : hasF x.f0 68 = true → 0 ≤ x.f1 ∧ x.f1 < 48
def backN (x : S44) (a : Nat) : Nat := addl (if hasF x.f0 68 = true then del a x.f1 else a) (usesL x)
def thrN (l : List S44) (a : Nat) : Nat := l.foldr backN a
theorem rd_T44_of (l : List S44) (i : Nat) (h : i < l.length) : rd_T44 l (i : Int) = l[i] := by
  unfold rd_T44
  rw [Int.toNat_natCast, List.getD_eq_getElem?_getD, List.getElem?_eq_getElem h]
  rfl
end Go.Proofs.YtdmimhjmbdkhmaaDoor.X
end
section
namespace Go.Proofs.YtdmimhjmbdkhmaaDoor.X
open Go.RowKit Go.Proofs.YtdmimhjmbdkhmaaDoorW.PrintWords
def lastI (b : S40) : S44 := rd_T44 b.f0 ((b.f0.length : Int) - 1)
def nextB (b : S40) : List Int := nextL (lastI b).f0 (lastI b).f4 (lastI b).f5
theorem nextL_length (op N M : Int) : (nextL op N M).length ≤ 2 := by
  unfold nextL
  split
  · split
    · simp
    · split <;> simp
  · split <;> simp
structure OkFn (f : S30) : Prop where
  nb : f.f4.length ≤ 40
  code : ∀ b ∈ f.f4, 1 ≤ b.f0.length ∧ b.f0.length ≤ 40 ∧ ∀ x ∈ b.f0, OkIns x
  next : ∀ b ∈ f.f4, ∀ t ∈ nextB b, 0 ≤ t ∧ t < (f.f4.length : Int)
theorem rd_T40_of (l : List S40) (i : Nat) (h : i < l.length) : rd_T40 l (i : Int) = l[i] := by
  unfold rd_T40
  rw [Int.toNat_natCast, List.getD_eq_getElem?_getD, List.getElem?_eq_getElem h]
  rfl
def prevL (f : S30) (b : Int) (n : Nat) : List Int := ((List.range n).filter fun i : Nat => decide (b ∈ nextB (rd_T40 f.f4 (i : Int)))).map Int.ofNat
end Go.Proofs.YtdmimhjmbdkhmaaDoor.X
end
section
namespace Go.Proofs.YtdmimhjmbdkhmaaDoor.X
open Go.RowKit Go.Proofs.YtdmimhjmbdkhmaaDoorW.PrintWords
def pc (a : Nat) : Nat := ((List.range 48).filter fun i => a.testBit i).length
def tot (l : List Nat) : Nat := (l.map pc).sum
def joinN (ins : List Nat) (nx : List Int) : Nat := nx.foldl (fun a t => a ||| ins.getD t.toNat 0) 0
def codeB (f : S30) (b : Nat) : List S44 := (rd_T40 f.f4 (b : Int)).f0
def nxB (f : S30) (b : Nat) : List Int := nextB (rd_T40 f.f4 (b : Int))
structure Inv (f : S30) (out ins : List Nat) (q : List Int) : Prop where
  lo : out.length = f.f4.length
  li : ins.length = f.f4.length
  bo : ∀ x ∈ out, x < 2 ^ 48
  bi : ∀ x ∈ ins, x < 2 ^ 48
  hq : ∀ t ∈ q, 0 ≤ t ∧ t < (f.f4.length : Int)
  grow : ∀ b, b < f.f4.length → Sub (ins.getD b 0) (thrN (codeB f b) (joinN ins (nxB f b)))
  fix : ∀ b, b < f.f4.length → (b : Int) ∉ q → out.getD b 0 = joinN ins (nxB f b) ∧ ins.getD b 0 = thrN (codeB f b) (out.getD b 0)
end Go.Proofs.YtdmimhjmbdkhmaaDoor.X
end
section
namespace Go.Proofs.YtdmimhjmbdkhmaaDoor.X
open Go.RowKit Go.Proofs.YtdmimhjmbdkhmaaDoorW.PrintWords
end Go.Proofs.YtdmimhjmbdkhmaaDoor.X
end
section
namespace Go.Proofs.YtdmimhjmbdkhmaaDoor.X
open Go.RowKit Go.Proofs.YtdmimhjmbdkhmaaDoorW.PrintWords
structure Fin (f : S30) (out ins : List Nat) : Prop where
  lo : out.length = f.f4.length
  li : ins.length = f.f4.length
  bo : ∀ x ∈ out, x < 2 ^ 48
  bi : ∀ x ∈ ins, x < 2 ^ 48
  fix : ∀ b, b < f.f4.length → out.getD b 0 = joinN ins (nxB f b) ∧ ins.getD b 0 = thrN (codeB f b) (out.getD b 0)
def allQ (n : Nat) : List Int := (List.range n).map Int.ofNat
end Go.Proofs.YtdmimhjmbdkhmaaDoor.X
end
section
namespace Go.Proofs.YtdmimhjmbdkhmaaDoor.X
open Go.RowKit Go.Proofs.YtdmimhjmbdkhmaaDoorW.PrintWords
end Go.Proofs.YtdmimhjmbdkhmaaDoor.X
end
section
namespace Go.Proofs.YtdmimhjmbdkhmaaDoor.X
open Go.RowKit Go.Proofs.YtdmimhjmbdkhmaaDoorW.PrintWords
theorem rd_T30_of (l : List S30) (i : Nat) (h : i < l.length) : rd_T30 l (i : Int) = l[i] := by
  unfold rd_T30
  rw [Int.toNat_natCast, List.getD_eq_getElem?_getD, List.getElem?_eq_getElem h]
  rfl
theorem great_l2 (p : List S30) (f : S30) (x4 : Int) (x6 : Nat) (h6 : x6 < f.f4.length) (hb : f.f4.length ≤ maxLen) (hc : f.f4[x6].f0.length ≤ maxLen)
    (H : ∀ x3 : Int, ∃ r, Ev (fun k => portolanref03_Great.l1 k x3 x4 ((x6 + 1 : Nat) : Int) p f.f0 f.f1 f.f2 f.f3 f.f4) r) :
    ∀ (m x7 : Nat) (x3 : Int), x7 + m = f.f4[x6].f0.length → ∃ r, Ev (fun k => portolanref03_Great.l2 k x3 x4 (x6 : Int) (x7 : Int) p f.f0 f.f1 f.f2 f.f3 f.f4) r := by
  have hr := rd_T40_of f.f4 x6 h6
  have hn : wrap64 ((x6 : Int) + 1) = ((x6 + 1 : Nat) : Int) := next_i h6 hb
  intro m
  induction m with
  | zero =>
    intro x7 x3 hm
    obtain ⟨r, hE⟩ := H x3
    refine ⟨r, Ev.step hE fun k => ?_⟩
    simp only [portolanref03_Great.l2]
    rw [if_pos (by omega), if_pos (by omega), hr, if_neg (by omega), hn]
  | succ m ih =>
    intro x7 x3 hm
    have h7 : x7 < f.f4[x6].f0.length := by omega
    by_cases h3 : x3 ≤ 3000
    · obtain ⟨r, hE⟩ := ih (x7 + 1) (wrap64 (x3 + (((rd_T44 (f.f4[x6].f0) (x7 : Int)).f6).length : Int))) (by omega)
      refine ⟨r, Ev.step hE fun k => ?_⟩
      simp only [portolanref03_Great.l2]
      rw [if_pos (by omega), if_pos (by omega), hr, if_pos (by omega), if_pos h3, if_pos (by omega), next_i h7 hc]
    · obtain ⟨r, hE⟩ := H x3
      refine ⟨r, Ev.step hE fun k => ?_⟩
      simp only [portolanref03_Great.l2]
      rw [if_pos (by omega), if_pos (by omega), hr, if_pos (by omega), if_neg h3, hn]
theorem great_l1 (p : List S30) (f : S30) (x4 : Nat) (h4 : x4 < p.length) (hp : p.length ≤ maxLen) (hb : f.f4.length ≤ maxLen) (hc : ∀ b ∈ f.f4, b.f0.length ≤ maxLen)
    (H : ∀ x3 : Int, ∃ r, Ev (fun k => portolanref03_Great.l0 k x3 ((x4 + 1 : Nat) : Int) p) r) :
    ∀ (m x6 : Nat) (x3 : Int), x6 + m = f.f4.length → ∃ r, Ev (fun k => portolanref03_Great.l1 k x3 (x4 : Int) (x6 : Int) p f.f0 f.f1 f.f2 f.f3 f.f4) r := by
  have hn : wrap64 ((x4 : Int) + 1) = ((x4 + 1 : Nat) : Int) := next_i h4 hp
  have out : ∀ (x6 : Nat) (x3 : Int), ∃ r, Ev (fun k => portolanref03_Great.j3 k x3 (x4 : Int) (x6 : Int) false p f.f0 f.f1 f.f2 f.f3 f.f4) r := fun x6 x3 => by
    obtain ⟨r, hE⟩ := H x3
    refine ⟨r, Ev.step hE fun k => ?_⟩
    simp only [portolanref03_Great.j3]
    rw [if_neg (by decide), hn]
  intro m
  induction m with
  | zero =>
    intro x6 x3 hm
    obtain ⟨r, hE⟩ := out x6 x3
    refine ⟨r, Ev.step hE fun k => ?_⟩
    simp only [portolanref03_Great.l1]
    rw [if_neg (by omega)]
  | succ m ih =>
    intro x6 x3 hm
    have h6 : x6 < f.f4.length := by omega
    have hr := rd_T40_of f.f4 x6 h6
    by_cases h3 : x3 ≤ 3000
    · obtain ⟨r, hE⟩ := great_l2 p f (x4 : Int) x6 h6 hb (hc _ (List.getElem_mem h6)) (fun x3 => ih (x6 + 1) x3 (by omega)) f.f4[x6].f0.length 0 (wrap64 (x3 + ((f.f4[x6].f0).length : Int))) (by omega)
      refine ⟨r, Ev.step (g := fun k => portolanref03_Great.j3 k x3 (x4 : Int) (x6 : Int) true p f.f0 f.f1 f.f2 f.f3 f.f4) (Ev.step hE fun k => ?_) fun k => ?_⟩
      · simp only [portolanref03_Great.j3]
        rw [if_pos trivial, if_pos (by omega), if_pos (by omega), hr]
        rfl
      · simp only [portolanref03_Great.l1]
        rw [if_pos (by omega), decide_eq_true h3]
    · obtain ⟨r, hE⟩ := out x6 x3
      refine ⟨r, Ev.step hE fun k => ?_⟩
      simp only [portolanref03_Great.l1]
      rw [if_pos (by omega), decide_eq_false h3]
theorem great_ev (p : List S30) (hp : p.length ≤ maxLen) (hG : ∀ x ∈ p, GFn x) : ∃ r, Ev (fun k => portolanref03_Great.f k p) r := by
  have stop : ∀ (x4 : Nat) (x3 : Int), ∃ r, Ev (fun k => portolanref03_Great.j1 k x3 (x4 : Int) false p) r := fun x4 x3 =>
    ⟨_, Ev.step (g := fun _ => some (decide (x3 > 3000))) (Ev.const _) fun k => by simp only [portolanref03_Great.j1]; rw [if_neg (by decide)]⟩
  have loop : ∀ (m x4 : Nat) (x3 : Int), x4 + m = p.length → ∃ r, Ev (fun k => portolanref03_Great.l0 k x3 (x4 : Int) p) r := by
    intro m
    induction m with
    | zero =>
      intro x4 x3 hm
      obtain ⟨r, hE⟩ := stop x4 x3
      refine ⟨r, Ev.step hE fun k => ?_⟩
      simp only [portolanref03_Great.l0]
      rw [if_neg (by omega)]
    | succ m ih =>
      intro x4 x3 hm
      have h4 : x4 < p.length := by omega
      have hr := rd_T30_of p x4 h4
      obtain ⟨g0, g1, g4, gb⟩ := hG _ (List.getElem_mem h4)
      by_cases h3 : x3 ≤ 3000
      · obtain ⟨r, hE⟩ := great_l1 p p[x4] x4 h4 hp g4 (fun b hb => (gb b hb).1) (fun x3 => ih (x4 + 1) x3 (by omega)) p[x4].f4.length 0 (wrap64 ((wrap64 ((wrap64 (x3 + ((p[x4].f0).length : Int))) + ((p[x4].f1).length : Int))) + ((p[x4].f4).length : Int))) (by omega)
        refine ⟨r, Ev.step (g := fun k => portolanref03_Great.j1 k x3 (x4 : Int) true p) (Ev.step hE fun k => ?_) fun k => ?_⟩
        · simp only [portolanref03_Great.j1]
          rw [if_pos trivial, if_pos (by omega), if_pos (by omega), hr]
          rfl
        · simp only [portolanref03_Great.l0]
          rw [if_pos (by omega), decide_eq_true h3]
      · obtain ⟨r, hE⟩ := stop x4 x3
        refine ⟨r, Ev.step hE fun k => ?_⟩
        simp only [portolanref03_Great.l0]
        rw [if_pos (by omega), decide_eq_false h3]
  obtain ⟨r, hE⟩ := loop p.length 0 (p.length : Int) (by omega)
  exact ⟨r, Ev.congr hE fun k => rfl⟩
end Go.Proofs.YtdmimhjmbdkhmaaDoor.X
end
section
namespace Go.Proofs.YtdmimhjmbdkhmaaDoor.X
open Go.RowKit Go.Proofs.YtdmimhjmbdkhmaaDoorW.PrintWords
theorem within_eq (a b c : Int) : portolanref04_within.f a b c = some (decide (b ≤ a ∧ a ≤ c)) := by
  unfold portolanref04_within.f
  by_cases h : a ≥ b
  · rw [if_pos h]
    congr 1
    exact decide_eq_decide.mpr ⟨fun h2 => ⟨h, h2⟩, fun h2 => h2.2⟩
  · rw [if_neg h]
    congr 1
    exact (decide_eq_false (fun h2 => h h2.1)).symm
theorem Last_ev (op : Int) : ∃ r, portolanref04_Last.f op = some r := by
  unfold portolanref04_Last.f
  split
  · exact ⟨_, rfl⟩
  · split <;> exact ⟨_, rfl⟩
def CodeOk (f : S30) (n : Nat) : Prop := ∀ j, n ≤ j → ∀ h : j < f.f4.length, 1 ≤ f.f4[j].f0.length ∧ f.f4[j].f0.length ≤ 40
theorem func_l2 (f : S30) (x5 : Nat) (h5 : x5 < f.f4.length) (hb : f.f4.length ≤ maxLen) (hc : f.f4[x5].f0.length ≤ 40) (H : ∃ r, Ev (fun k => portolanref04_Func.l1 k ((x5 + 1 : Nat) : Int) f.f0 f.f1 f.f2 f.f3 f.f4) r ∧ (r = true → CodeOk f (x5 + 1))) :
    ∀ (m x7 : Nat), x7 + m = f.f4[x5].f0.length → ∃ r, Ev (fun k => portolanref04_Func.l2 k (x5 : Int) f.f4[x5].f0 (x7 : Int) f.f0 f.f1 f.f2 f.f3 f.f4) r ∧ (r = true → CodeOk f (x5 + 1)) := by
  have hn : wrap64 ((x5 : Int) + 1) = ((x5 + 1 : Nat) : Int) := next_i h5 hb
  intro m
  induction m with
  | zero =>
    intro x7 hm
    obtain ⟨r, hE, hr⟩ := H
    refine ⟨r, Ev.step hE fun k => ?_, hr⟩
    simp only [portolanref04_Func.l2]
    rw [if_neg (by omega), hn]
  | succ m ih =>
    intro x7 hm
    have h7 : x7 < f.f4[x5].f0.length := by omega
    obtain ⟨t, ht⟩ := Last_ev (rd_T44 f.f4[x5].f0 (x7 : Int)).f0
    by_cases hq : (t != ((x7 : Int) == (wrap64 ((f.f4[x5].f0.length : Int) - 1)))) = true
    · refine ⟨false, Ev.step (g := fun _ => some false) (Ev.const _) fun k => ?_, fun h => by cases h⟩
      simp only [portolanref04_Func.l2]
      rw [if_pos (by omega), if_pos (by omega), ht, Option.bind_some, if_pos hq]
    · obtain ⟨r, hE, hr⟩ := ih (x7 + 1) (by omega)
      refine ⟨r, Ev.step hE fun k => ?_, hr⟩
      simp only [portolanref04_Func.l2]
      rw [if_pos (by omega), if_pos (by omega), ht, Option.bind_some, if_neg hq, next_i h7 (by rw [maxLen_eq]; omega)]
theorem func_l1 (f : S30) (hb : f.f4.length ≤ maxLen) : ∀ (m x5 : Nat), x5 + m = f.f4.length → ∃ r, Ev (fun k => portolanref04_Func.l1 k (x5 : Int) f.f0 f.f1 f.f2 f.f3 f.f4) r ∧ (r = true → CodeOk f x5) := by
  intro m
  induction m with
  | zero =>
    intro x5 hm
    refine ⟨true, Ev.step (g := fun _ => some true) (Ev.const _) fun k => ?_, fun _ j hj h => by omega⟩
    simp only [portolanref04_Func.l1]
    rw [if_neg (by omega)]
  | succ m ih =>
    intro x5 hm
    have h5 : x5 < f.f4.length := by omega
    have hr := rd_T40_of f.f4 x5 h5
    by_cases hw : (1 : Int) ≤ (f.f4[x5].f0.length : Int) ∧ (f.f4[x5].f0.length : Int) ≤ 40
    · obtain ⟨r, hE, hq⟩ := func_l2 f x5 h5 hb (by omega) (ih (x5 + 1) (by omega)) f.f4[x5].f0.length 0 (by omega)
      refine ⟨r, Ev.step hE fun k => ?_, fun h j hj h2 => ?_⟩
      · simp only [portolanref04_Func.l1]
        rw [if_pos (by omega), if_pos (by omega), hr, within_eq, Option.bind_some, decide_eq_true hw, if_pos rfl]
        rfl
      · by_cases hj2 : j = x5
        · subst hj2
          omega
        · exact hq h j (by omega) h2
    · refine ⟨false, Ev.step (g := fun _ => some false) (Ev.const _) fun k => ?_, fun h => by cases h⟩
      simp only [portolanref04_Func.l1]
      rw [if_pos (by omega), if_pos (by omega), hr, within_eq, Option.bind_some, decide_eq_false hw, if_neg (by decide)]
def KD (f : S30) (u : Nat) : Prop := rd f.f0 (u : Int) = 2 → 0 ≤ rd f.f1 (u : Int) ∧ rd f.f1 (u : Int) < (f.f0.length : Int) ∧ rd f.f0 (rd f.f1 (u : Int)) = 1
def KF (f : S30) (n : Nat) : Prop := ∀ u, n ≤ u → u < f.f0.length → KD f u
theorem kf_step {f : S30} {n : Nat} (h : KD f n) (k : KF f (n + 1)) : KF f n := fun u h1 h2 => by
  rcases Nat.eq_or_lt_of_le h1 with e | e
  · exact e ▸ h
  · exact k u e h2
def FK (f : S30) : Prop := f.f0.length ≤ 48 ∧ f.f1.length = f.f0.length ∧ KF f 0
theorem func_l0 (f : S30) (hb : f.f4.length ≤ maxLen) (hk : f.f0.length ≤ 48) (he : f.f1.length = f.f0.length) : ∀ (m x4 : Nat), x4 + m = f.f0.length → ∃ r, Ev (fun k => portolanref04_Func.l0 k (f.f0.length : Int) (x4 : Int) f.f0 f.f1 f.f2 f.f3 f.f4) r ∧ (r = true → CodeOk f 0 ∧ KF f x4) := by
  intro m
  induction m with
  | zero =>
    intro x4 hm
    obtain ⟨r, hE, hq⟩ := func_l1 f hb f.f4.length 0 (by omega)
    refine ⟨r, Ev.step hE fun k => ?_, fun h => ⟨hq h, fun u h1 h2 => absurd h2 (by omega)⟩⟩
    simp only [portolanref04_Func.l0]
    rw [if_neg (by omega)]
    rfl
  | succ m ih =>
    intro x4 hm
    have h4 : x4 < f.f0.length := by omega
    obtain ⟨r0, hE0, hq0⟩ := ih (x4 + 1) (by omega)
    have hni : wrap64 ((x4 : Int) + 1) = ((x4 + 1 : Nat) : Int) := next_i h4 (by rw [maxLen_eq]; omega)
    have hw : wrap64 ((f.f0.length : Int) - 1) = (f.f0.length : Int) - 1 := wrap64_id (by omega) (by omega)
    have j2 : ∀ x66 : Bool, ∃ r, Ev (fun k => portolanref04_Func.j2 k (f.f0.length : Int) (x4 : Int) x66 f.f0 f.f1 f.f2 f.f3 f.f4) r ∧ (r = true → CodeOk f 0 ∧ KF f x4) := by
      have no : ∀ {g : Nat → Option Bool}, (∀ k, g (k + 1) = some false) → ∃ r, Ev g r ∧ (r = true → CodeOk f 0 ∧ KF f x4) := fun h => ⟨false, Ev.step (g := fun _ => some false) (Ev.const _) h, fun h => by cases h⟩
      have yes : ∀ {g : Nat → Option Bool}, KD f x4 → (∀ k, g (k + 1) = portolanref04_Func.l0 k (f.f0.length : Int) ((x4 + 1 : Nat) : Int) f.f0 f.f1 f.f2 f.f3 f.f4) → ∃ r, Ev g r ∧ (r = true → CodeOk f 0 ∧ KF f x4) := fun hd h => ⟨r0, Ev.step hE0 h, fun h2 => ⟨(hq0 h2).1, kf_step hd (hq0 h2).2⟩⟩
      intro x66
      cases x66 with
      | true => exact no fun k => by simp only [portolanref04_Func.j2]; rw [if_pos trivial]
      | false =>
        by_cases c1 : rd f.f0 (x4 : Int) = 2
        · by_cases c2 : 0 ≤ rd f.f1 (x4 : Int) ∧ rd f.f1 (x4 : Int) ≤ (f.f0.length : Int) - 1
          · by_cases c3 : rd f.f0 (rd f.f1 (x4 : Int)) = 1
            · exact yes (fun _ => ⟨c2.1, by have := c2.2; omega, c3⟩) fun k => by
                simp only [portolanref04_Func.j2]
                rw [if_neg (by decide), if_pos (by omega), if_pos (by omega), if_pos c1, if_pos (by omega), hw, within_eq, Option.bind_some, decide_eq_true c2, if_pos rfl, if_pos c2.1, if_pos (by omega), if_pos c3, hni]
            · exact no fun k => by
                simp only [portolanref04_Func.j2]
                rw [if_neg (by decide), if_pos (by omega), if_pos (by omega), if_pos c1, if_pos (by omega), hw, within_eq, Option.bind_some, decide_eq_true c2, if_pos rfl, if_pos c2.1, if_pos (by omega), if_neg c3]
          · exact no fun k => by
              simp only [portolanref04_Func.j2]
              rw [if_neg (by decide), if_pos (by omega), if_pos (by omega), if_pos c1, if_pos (by omega), hw, within_eq, Option.bind_some, decide_eq_false c2, if_neg (by decide)]
        · by_cases c2 : rd f.f1 (x4 : Int) = -1
          · exact yes (fun h => absurd h c1) fun k => by
              simp only [portolanref04_Func.j2]
              rw [if_neg (by decide), if_pos (by omega), if_pos (by omega), if_neg c1, if_pos (by omega), if_pos c2, hni]
          · exact no fun k => by
              simp only [portolanref04_Func.j2]
              rw [if_neg (by decide), if_pos (by omega), if_pos (by omega), if_neg c1, if_pos (by omega), if_neg c2]
    by_cases c1 : 0 ≤ rd f.f0 (x4 : Int) ∧ rd f.f0 (x4 : Int) ≤ 2
    · by_cases c2 : (x4 : Int) < f.f2
      · obtain ⟨r, hE, hq⟩ := j2 ((rd f.f0 (x4 : Int)) == 2)
        refine ⟨r, Ev.step hE fun k => ?_, hq⟩
        simp only [portolanref04_Func.l0]
        rw [if_pos (by omega), if_pos (by omega), if_pos (by omega), within_eq, Option.bind_some, decide_eq_true c1, if_pos rfl, if_pos c2]
      · obtain ⟨r, hE, hq⟩ := j2 false
        refine ⟨r, Ev.step hE fun k => ?_, hq⟩
        simp only [portolanref04_Func.l0]
        rw [if_pos (by omega), if_pos (by omega), if_pos (by omega), within_eq, Option.bind_some, decide_eq_true c1, if_pos rfl, if_neg c2]
    · obtain ⟨r, hE, hq⟩ := j2 true
      refine ⟨r, Ev.step hE fun k => ?_, hq⟩
      simp only [portolanref04_Func.l0]
      rw [if_pos (by omega), if_pos (by omega), if_pos (by omega), within_eq, Option.bind_some, decide_eq_false c1, if_neg (by decide)]
end Go.Proofs.YtdmimhjmbdkhmaaDoor.X
end
section
namespace Go.Proofs.YtdmimhjmbdkhmaaDoor.X
open Go.RowKit Go.Proofs.YtdmimhjmbdkhmaaDoorW.PrintWords
theorem func_ev (f : S30) (hG : GFn f) : ∃ r, Ev (fun k => portolanref04_Func.f k f.f0 f.f1 f.f2 f.f3 f.f4) r ∧ (r = true → FK f ∧ (1 ≤ f.f4.length ∧ f.f4.length ≤ 40) ∧ CodeOk f 0) := by
  have stop : ∃ r, Ev (fun k => portolanref04_Func.j0 k (f.f0.length : Int) true f.f0 f.f1 f.f2 f.f3 f.f4) r ∧ (r = true → FK f ∧ (1 ≤ f.f4.length ∧ f.f4.length ≤ 40) ∧ CodeOk f 0) :=
    ⟨false, Ev.step (g := fun _ => some false) (Ev.const _) fun k => by simp only [portolanref04_Func.j0]; rw [if_pos trivial], fun h => by cases h⟩
  obtain ⟨r0, hE0, hq0⟩ := stop
  by_cases c1 : (f.f0.length : Int) > 48
  · exact ⟨r0, Ev.congr hE0 fun k => by unfold portolanref04_Func.f; rw [if_pos c1], hq0⟩
  · by_cases c2 : (f.f1.length : Int) = (f.f0.length : Int)
    · by_cases c3 : 0 ≤ f.f2 ∧ f.f2 ≤ mn 4 (f.f0.length : Int)
      · by_cases c4 : 0 ≤ f.f3 ∧ f.f3 ≤ 1
        · by_cases c5 : (1 : Int) ≤ (f.f4.length : Int) ∧ (f.f4.length : Int) ≤ 40
          · obtain ⟨r, hE, hq⟩ := func_l0 f hG.2.2.1 (by omega) (by omega) f.f0.length 0 (by omega)
            refine ⟨r, Ev.congr (g := fun k => portolanref04_Func.j0 k (f.f0.length : Int) false f.f0 f.f1 f.f2 f.f3 f.f4) (Ev.step hE fun k => ?_) fun k => ?_, fun h => ⟨⟨by omega, by omega, (hq h).2⟩, ⟨by omega, by omega⟩, (hq h).1⟩⟩
            · simp only [portolanref04_Func.j0]
              rw [if_neg (by decide)]
              rfl
            · unfold portolanref04_Func.f
              rw [if_neg c1, if_pos c2, within_eq, Option.bind_some, decide_eq_true c3, if_pos rfl, within_eq, Option.bind_some, decide_eq_true c4, if_pos rfl, within_eq, Option.bind_some, decide_eq_true c5]
              rfl
          · refine ⟨r0, Ev.congr hE0 fun k => ?_, hq0⟩
            unfold portolanref04_Func.f
            rw [if_neg c1, if_pos c2, within_eq, Option.bind_some, decide_eq_true c3, if_pos rfl, within_eq, Option.bind_some, decide_eq_true c4, if_pos rfl, within_eq, Option.bind_some, decide_eq_false c5]
            rfl
        · refine ⟨r0, Ev.congr hE0 fun k => ?_, hq0⟩
          unfold portolanref04_Func.f
          rw [if_neg c1, if_pos c2, within_eq, Option.bind_some, decide_eq_true c3, if_pos rfl, within_eq, Option.bind_some, decide_eq_false c4, if_neg (by decide)]
      · refine ⟨r0, Ev.congr hE0 fun k => ?_, hq0⟩
        unfold portolanref04_Func.f
        rw [if_neg c1, if_pos c2, within_eq, Option.bind_some, decide_eq_false c3, if_neg (by decide)]
    · refine ⟨r0, Ev.congr hE0 fun k => ?_, hq0⟩
      unfold portolanref04_Func.f
      rw [if_neg c1, if_neg c2]
theorem RNextI_eq (x : S44) : portolanref04_Next.f x.f0 x.f1 x.f2 x.f3 x.f4 x.f5 x.f6 = some (nextL x.f0 x.f4 x.f5) := by
  unfold portolanref04_Next.f nextL
  by_cases e1 : x.f0 = 21
  · rw [if_pos e1, e1]
    rfl
  · rw [if_neg e1]
    by_cases e2 : x.f0 = 22
    · rw [if_pos e2, if_pos e2]
      by_cases e3 : x.f4 = x.f5
      · rw [if_pos e3, if_pos e3]
      · rw [if_neg e3, if_neg e3]
        unfold mn mx
        by_cases e4 : x.f4 ≤ x.f5
        · rw [if_pos e4]
          have : x.f4 < x.f5 := by omega
          simp [this, show ¬ x.f5 < x.f4 by omega]
        · rw [if_neg e4]
          simp [show ¬ x.f4 < x.f5 by omega, show x.f5 < x.f4 by omega]
    · rw [if_neg e2, if_neg e2, if_neg e1]
def allU (x : S44) : List Int := usesL x ++ (if hasF x.f0 68 = true then [x.f1] else [])
def InsOk (f : S30) (x : S44) : Prop := (∀ v ∈ allU x, 0 ≤ v ∧ v ≤ (f.f0.length : Int) - 1) ∧ ∀ t ∈ nextL x.f0 x.f4 x.f5, 1 ≤ t ∧ t ≤ (f.f4.length : Int) - 1
theorem ins_l1 (p : List S30) (hp : p.length ≤ maxLen) (f : S30) (hb : f.f4.length ≤ maxLen) (x : S44) (l : List Int) (hl : l.length ≤ maxLen) : ∀ (m i : Nat), i + m = l.length → ∃ r, Ev (fun k => portolanref04_Ins.l1 k l (i : Int) p x.f0 x.f1 x.f2 x.f3 x.f4 x.f5 x.f6 f.f0 f.f1 f.f2 f.f3 f.f4) r ∧ (r = true → ∀ t ∈ l.drop i, 1 ≤ t ∧ t ≤ (f.f4.length : Int) - 1) := by
  rw [maxLen_eq] at hp hb
  have hwp : wrap64 ((p.length : Int) - 1) = (p.length : Int) - 1 := wrap64_id (by omega) (by omega)
  have hwb : wrap64 ((f.f4.length : Int) - 1) = (f.f4.length : Int) - 1 := wrap64_id (by omega) (by omega)
  intro m
  induction m with
  | zero =>
    intro i hm
    have hd : l.drop i = [] := List.drop_eq_nil_of_le (by omega)
    have key : ∃ r : Bool, ∀ k, portolanref04_Ins.l1 (k + 1) l (i : Int) p x.f0 x.f1 x.f2 x.f3 x.f4 x.f5 x.f6 f.f0 f.f1 f.f2 f.f3 f.f4 = some r := by
      simp only [portolanref04_Ins.l1, within_eq, Option.bind_some, hwp]
      have hi : ¬ ((i : Int) < (l.length : Int)) := by omega
      simp only [hi, if_false]
      by_cases c : x.f0 = 19
      · simp only [c, if_true]
        by_cases d : 0 ≤ x.f4 ∧ x.f4 ≤ (p.length : Int) - 1
        · have d2 : x.f4 < (p.length : Int) := by omega
          simp only [d, d2, and_self, decide_true, if_true]
          exact ⟨_, fun _ => rfl⟩
        · simp only [d, decide_false]
          exact ⟨false, fun _ => rfl⟩
      · simp only [c, if_false]
        repeat' (first | exact ⟨_, fun _ => rfl⟩ | split)
    obtain ⟨r, hr⟩ := key
    exact ⟨r, Ev.step (g := fun _ => some r) (Ev.const _) hr, fun _ t ht => by rw [hd] at ht; cases ht⟩
  | succ m ih =>
    intro i hm
    have hil : i < l.length := by omega
    have hr := rd_of l i hil
    rw [List.drop_eq_getElem_cons hil]
    by_cases c : 1 ≤ l[i] ∧ l[i] ≤ (f.f4.length : Int) - 1
    · obtain ⟨r, hE, hq⟩ := ih (i + 1) (by omega)
      refine ⟨r, Ev.step hE fun k => ?_, fun h t ht => ?_⟩
      · simp only [portolanref04_Ins.l1]
        rw [if_pos (by omega), if_pos (by omega), hr, hwb, within_eq, Option.bind_some, decide_eq_true c, if_pos rfl, next_i hil hl]
      · rcases List.mem_cons.mp ht with rfl | ht
        · exact c
        · exact hq h t ht
    · refine ⟨false, Ev.step (g := fun _ => some false) (Ev.const _) fun k => ?_, fun h => by cases h⟩
      simp only [portolanref04_Ins.l1]
      rw [if_pos (by omega), if_pos (by omega), hr, hwb, within_eq, Option.bind_some, decide_eq_false c, if_neg (by decide)]
end Go.Proofs.YtdmimhjmbdkhmaaDoor.X
end
section
namespace Go.Proofs.YtdmimhjmbdkhmaaDoor.X
open Go.RowKit Go.Proofs.YtdmimhjmbdkhmaaDoorW.PrintWords
theorem ins_l0 (p : List S30) (hp : p.length ≤ maxLen) (f : S30) (hb : f.f4.length ≤ maxLen) (hk : f.f0.length ≤ maxLen) (x : S44) (l : List Int) (hl : l.length ≤ maxLen) : ∀ (m i : Nat), i + m = l.length → ∃ r, Ev (fun k => portolanref04_Ins.l0 k l (i : Int) p x.f0 x.f1 x.f2 x.f3 x.f4 x.f5 x.f6 f.f0 f.f1 f.f2 f.f3 f.f4) r ∧ (r = true → (∀ v ∈ l.drop i, 0 ≤ v ∧ v ≤ (f.f0.length : Int) - 1) ∧ ∀ t ∈ nextL x.f0 x.f4 x.f5, 1 ≤ t ∧ t ≤ (f.f4.length : Int) - 1) := by
  have hk' := hk
  rw [maxLen_eq] at hk'
  have hwk : wrap64 ((f.f0.length : Int) - 1) = (f.f0.length : Int) - 1 := wrap64_id (by omega) (by omega)
  intro m
  induction m with
  | zero =>
    intro i hm
    have hd : l.drop i = [] := List.drop_eq_nil_of_le (by omega)
    obtain ⟨r, hE, hq⟩ := ins_l1 p hp f hb x (nextL x.f0 x.f4 x.f5) (by have := nextL_length x.f0 x.f4 x.f5; rw [maxLen_eq]; omega) (nextL x.f0 x.f4 x.f5).length 0 (by omega)
    refine ⟨r, Ev.step hE fun k => ?_, fun h => ⟨fun v hv => absurd (hd ▸ hv) (by simp), fun t ht => hq h t (by rw [List.drop_zero]; exact ht)⟩⟩
    simp only [portolanref04_Ins.l0]
    rw [if_neg (by omega), RNextI_eq, Option.bind_some]
    rfl
  | succ m ih =>
    intro i hm
    have hil : i < l.length := by omega
    have hr := rd_of l i hil
    rw [List.drop_eq_getElem_cons hil]
    by_cases c : 0 ≤ l[i] ∧ l[i] ≤ (f.f0.length : Int) - 1
    · obtain ⟨r, hE, hq⟩ := ih (i + 1) (by omega)
      refine ⟨r, Ev.step hE fun k => ?_, fun h => ⟨fun t ht => ?_, (hq h).2⟩⟩
      · simp only [portolanref04_Ins.l0]
        rw [if_pos (by omega), if_pos (by omega), hr, hwk, within_eq, Option.bind_some, decide_eq_true c, if_pos rfl, next_i hil hl]
      · rcases List.mem_cons.mp ht with rfl | ht
        · exact c
        · exact (hq h).1 t ht
    · refine ⟨false, Ev.step (g := fun _ => some false) (Ev.const _) fun k => ?_, fun h => by cases h⟩
      simp only [portolanref04_Ins.l0]
      rw [if_pos (by omega), if_pos (by omega), hr, hwk, within_eq, Option.bind_some, decide_eq_false c, if_neg (by decide)]
theorem usesL_len2 (x : S44) : (usesL x).length ≤ x.f6.length + 2 := by
  unfold usesL
  rw [List.length_append, List.length_append]
  have e1 : (if hasF x.f0 65 then [x.f2] else []).length ≤ 1 := by split <;> simp
  have e2 : (if hasF x.f0 66 then [x.f3] else []).length ≤ 1 := by split <;> simp
  have e3 : (if hasF x.f0 76 then x.f6 else []).length ≤ x.f6.length := by split <;> simp
  omega
theorem ins_ev (p : List S30) (hp : p.length ≤ maxLen) (n : Nat) (hn : n < p.length) (hb : p[n].f4.length ≤ maxLen) (hk : p[n].f0.length ≤ maxLen) (x : S44) (hx : GIns x) : ∃ r, Ev (fun k => portolanref04_Ins.f k p (n : Int) x.f0 x.f1 x.f2 x.f3 x.f4 x.f5 x.f6) r ∧ (r = true → InsOk p[n] x) := by
  have hp' := hp
  rw [maxLen_eq] at hp'
  have hwp : wrap64 ((p.length : Int) - 1) = (p.length : Int) - 1 := wrap64_id (by omega) (by omega)
  have hargs : x.f6.length + 2 < 17592186044416 := by
    unfold GIns at hx
    omega
  have hul := usesL_len2 x
  have hr := rd_T30_of p n hn
  have main : ∃ r, Ev (fun k => portolanref04_Ins.l0 k (allU x) 0 p x.f0 x.f1 x.f2 x.f3 x.f4 x.f5 x.f6 p[n].f0 p[n].f1 p[n].f2 p[n].f3 p[n].f4) r ∧ (r = true → InsOk p[n] x) := by
    have hal : (allU x).length ≤ maxLen := by
      rw [maxLen_eq]
      unfold allU
      rw [List.length_append]
      have : (if hasF x.f0 68 = true then [x.f1] else []).length ≤ 1 := by split <;> simp
      omega
    obtain ⟨r, hE, hq⟩ := ins_l0 p hp p[n] hb hk x (allU x) hal (allU x).length 0 (by omega)
    exact ⟨r, hE, fun h => by have := hq h; rw [List.drop_zero] at this; exact this⟩
  have j0 : ∀ b : Bool, ∃ r, Ev (fun k => portolanref04_Ins.j0 k (n : Int) b p x.f0 x.f1 x.f2 x.f3 x.f4 x.f5 x.f6) r ∧ (r = true → InsOk p[n] x) := by
    intro b
    cases b with
    | true => exact ⟨false, Ev.step (g := fun _ => some false) (Ev.const _) fun k => by simp only [portolanref04_Ins.j0]; rw [if_pos trivial], fun h => by cases h⟩
    | false =>
      obtain ⟨r, hE, hq⟩ := main
      refine ⟨r, Ev.step (g := fun k => (portolanref04_Uses.f k x.f0 x.f1 x.f2 x.f3 x.f4 x.f5 x.f6).bind fun t357 => (if (setsL x).2 = true then (if t357.length < 17592186044416 then (portolanref04_Ins.j1 k (t357 ++ [(setsL x).1]) p x.f0 x.f1 x.f2 x.f3 x.f4 x.f5 x.f6 p[n].f0 p[n].f1 p[n].f2 p[n].f3 p[n].f4) else (none)) else (portolanref04_Ins.j1 k t357 p x.f0 x.f1 x.f2 x.f3 x.f4 x.f5 x.f6 p[n].f0 p[n].f1 p[n].f2 p[n].f3 p[n].f4)))
        (Ev.bind (g := fun k t357 => (if (setsL x).2 = true then (if t357.length < 17592186044416 then (portolanref04_Ins.j1 k (t357 ++ [(setsL x).1]) p x.f0 x.f1 x.f2 x.f3 x.f4 x.f5 x.f6 p[n].f0 p[n].f1 p[n].f2 p[n].f3 p[n].f4) else (none)) else (portolanref04_Ins.j1 k t357 p x.f0 x.f1 x.f2 x.f3 x.f4 x.f5 x.f6 p[n].f0 p[n].f1 p[n].f2 p[n].f3 p[n].f4))) (RUses_ev x hargs) ?_) fun k => ?_, hq⟩
      · unfold allU at hE
        unfold setsL
        by_cases h : hasF x.f0 68 = true
        · rw [if_pos h] at hE ⊢
          refine Ev.congr (g := fun k => portolanref04_Ins.j1 k (usesL x ++ [x.f1]) p x.f0 x.f1 x.f2 x.f3 x.f4 x.f5 x.f6 p[n].f0 p[n].f1 p[n].f2 p[n].f3 p[n].f4) (Ev.step hE fun k => ?_) fun k => ?_
          · simp only [portolanref04_Ins.j1]
          · rw [if_pos rfl, if_pos (by omega)]
        · rw [if_neg h] at hE ⊢
          rw [List.append_nil] at hE
          refine Ev.congr (g := fun k => portolanref04_Ins.j1 k (usesL x) p x.f0 x.f1 x.f2 x.f3 x.f4 x.f5 x.f6 p[n].f0 p[n].f1 p[n].f2 p[n].f3 p[n].f4) (Ev.step hE fun k => ?_) fun k => ?_
          · simp only [portolanref04_Ins.j1]
          · rw [if_neg (by decide)]
      · simp only [portolanref04_Ins.j0]
        rw [if_neg (by decide), if_pos (by omega), if_pos (by omega), hr, RSets_eq]
        rfl
  by_cases c : 0 ≤ (n : Int) ∧ (n : Int) ≤ (p.length : Int) - 1
  · by_cases e : (partsF x.f0).toList = ([] : List UInt8)
    · obtain ⟨r, hE, hq⟩ := j0 true
      refine ⟨r, Ev.congr hE fun k => ?_, hq⟩
      unfold portolanref04_Ins.f portolanref03_Parts.f
      rw [hwp, within_eq, Option.bind_some, decide_eq_true c, if_pos rfl, Option.bind_some, if_pos e]
    · obtain ⟨r, hE, hq⟩ := j0 (!(bareF x.f0 x.f1 x.f2 x.f3 x.f4 x.f5 x.f6.length))
      refine ⟨r, Ev.congr hE fun k => ?_, hq⟩
      unfold portolanref04_Ins.f portolanref03_Parts.f
      rw [hwp, within_eq, Option.bind_some, decide_eq_true c, if_pos rfl, Option.bind_some, if_neg e]
      rfl
  · exact absurd ⟨by omega, by omega⟩ c
end Go.Proofs.YtdmimhjmbdkhmaaDoor.X
end
section
namespace Go.Proofs.YtdmimhjmbdkhmaaDoor.X
open Go.RowKit Go.Proofs.YtdmimhjmbdkhmaaDoorW.PrintWords
def FnSeen (f : S30) (n : Nat) : Prop := ∀ j, n ≤ j → ∀ h : j < f.f4.length, ∀ x ∈ f.f4[j].f0, InsOk f x
def Seen (p : List S30) (n : Nat) : Prop := ∀ j, n ≤ j → ∀ h : j < p.length, FK p[j] ∧ (1 ≤ p[j].f4.length ∧ p[j].f4.length ≤ 40) ∧ CodeOk p[j] 0 ∧ FnSeen p[j] 0
theorem check_l2 (p : List S30) (hp : p.length ≤ maxLen) (n : Nat) (hn : n < p.length) (hb : p[n].f4.length ≤ 40) (hk : p[n].f0.length ≤ maxLen) (x5 : Nat) (h5 : x5 < p[n].f4.length) (hc : p[n].f4[x5].f0.length ≤ 40) (hx : ∀ x ∈ p[n].f4[x5].f0, GIns x) {Q : Prop}
    (H : ∃ r, Ev (fun k => portolanref04_Check.l1 k (n : Int) ((x5 + 1 : Nat) : Int) p p[n].f0 p[n].f1 p[n].f2 p[n].f3 p[n].f4) r ∧ (r = 0 → Q)) :
    ∀ (m x6 : Nat), x6 + m = p[n].f4[x5].f0.length → ∃ r, Ev (fun k => portolanref04_Check.l2 k (n : Int) (x5 : Int) (x6 : Int) p p[n].f0 p[n].f1 p[n].f2 p[n].f3 p[n].f4) r ∧ (r = 0 → Q ∧ ∀ x ∈ p[n].f4[x5].f0.drop x6, InsOk p[n] x) := by
  have hr := rd_T40_of p[n].f4 x5 h5
  have hml : (40 : Nat) ≤ maxLen := by decide
  have hn5 : wrap64 ((x5 : Int) + 1) = ((x5 + 1 : Nat) : Int) := next_i h5 (Nat.le_trans hb hml)
  intro m
  induction m with
  | zero =>
    intro x6 hm
    obtain ⟨r, hE, hq⟩ := H
    refine ⟨r, Ev.step hE fun k => ?_, fun h => ⟨hq h, fun x hx => ?_⟩⟩
    · simp only [portolanref04_Check.l2]
      rw [if_pos (by omega), if_pos (by omega), hr, if_neg (by omega), hn5]
    · rw [List.drop_eq_nil_of_le (by omega)] at hx
      cases hx
  | succ m ih =>
    intro x6 hm
    have h6 : x6 < p[n].f4[x5].f0.length := by omega
    have hr6 := rd_T44_of p[n].f4[x5].f0 x6 h6
    obtain ⟨t, hE1, hq1⟩ := ins_ev p hp n hn (Nat.le_trans hb hml) hk p[n].f4[x5].f0[x6] (hx _ (List.getElem_mem h6))
    rw [List.drop_eq_getElem_cons h6]
    cases t with
    | true =>
      obtain ⟨r, hE, hq⟩ := ih (x6 + 1) (by omega)
      refine ⟨r, Ev.step (g := fun k => (portolanref04_Ins.f k p (n : Int) p[n].f4[x5].f0[x6].f0 p[n].f4[x5].f0[x6].f1 p[n].f4[x5].f0[x6].f2 p[n].f4[x5].f0[x6].f3 p[n].f4[x5].f0[x6].f4 p[n].f4[x5].f0[x6].f5 p[n].f4[x5].f0[x6].f6).bind fun t393 => (if t393 = true then (portolanref04_Check.l2 k (n : Int) (x5 : Int) ((x6 + 1 : Nat) : Int) p p[n].f0 p[n].f1 p[n].f2 p[n].f3 p[n].f4) else (some 5)))
        (Ev.bind (g := fun k t393 => (if t393 = true then (portolanref04_Check.l2 k (n : Int) (x5 : Int) ((x6 + 1 : Nat) : Int) p p[n].f0 p[n].f1 p[n].f2 p[n].f3 p[n].f4) else (some 5))) hE1 (Ev.congr hE fun k => by rw [if_pos rfl])) fun k => ?_, fun h => ⟨(hq h).1, fun x hx => ?_⟩⟩
      · simp only [portolanref04_Check.l2]
        rw [if_pos (by omega), if_pos (by omega), hr, if_pos (by omega), if_pos (by omega), hr6, next_i h6 (Nat.le_trans hc hml)]
      · rcases List.mem_cons.mp hx with rfl | hx
        · exact hq1 rfl
        · exact (hq h).2 x hx
    | false =>
      refine ⟨5, Ev.step (g := fun k => (portolanref04_Ins.f k p (n : Int) p[n].f4[x5].f0[x6].f0 p[n].f4[x5].f0[x6].f1 p[n].f4[x5].f0[x6].f2 p[n].f4[x5].f0[x6].f3 p[n].f4[x5].f0[x6].f4 p[n].f4[x5].f0[x6].f5 p[n].f4[x5].f0[x6].f6).bind fun t393 => (if t393 = true then (portolanref04_Check.l2 k (n : Int) (x5 : Int) ((x6 + 1 : Nat) : Int) p p[n].f0 p[n].f1 p[n].f2 p[n].f3 p[n].f4) else (some 5)))
        (Ev.bind (g := fun k t393 => (if t393 = true then (portolanref04_Check.l2 k (n : Int) (x5 : Int) ((x6 + 1 : Nat) : Int) p p[n].f0 p[n].f1 p[n].f2 p[n].f3 p[n].f4) else (some 5))) hE1 (Ev.congr (Ev.const _) fun k => by rw [if_neg (by decide)])) fun k => ?_, fun h => by cases h⟩
      simp only [portolanref04_Check.l2]
      rw [if_pos (by omega), if_pos (by omega), hr, if_pos (by omega), if_pos (by omega), hr6, next_i h6 (Nat.le_trans hc hml)]
theorem check_l1 (p : List S30) (hp : p.length ≤ maxLen) (n : Nat) (hn : n < p.length) (hb : p[n].f4.length ≤ 40) (hk : p[n].f0.length ≤ maxLen) (hc : CodeOk p[n] 0) (hG : GFn p[n]) {Q : Prop}
    (H : ∃ r, Ev (fun k => portolanref04_Check.l0 k ((n + 1 : Nat) : Int) p) r ∧ (r = 0 → Q)) :
    ∀ (m x5 : Nat), x5 + m = p[n].f4.length → ∃ r, Ev (fun k => portolanref04_Check.l1 k (n : Int) (x5 : Int) p p[n].f0 p[n].f1 p[n].f2 p[n].f3 p[n].f4) r ∧ (r = 0 → Q ∧ FnSeen p[n] x5) := by
  have hnn : wrap64 ((n : Int) + 1) = ((n + 1 : Nat) : Int) := next_i hn hp
  intro m
  induction m with
  | zero =>
    intro x5 hm
    obtain ⟨r, hE, hq⟩ := H
    refine ⟨r, Ev.step hE fun k => ?_, fun h => ⟨hq h, fun j hj h2 => by omega⟩⟩
    simp only [portolanref04_Check.l1]
    rw [if_neg (by omega), hnn]
  | succ m ih =>
    intro x5 hm
    have h5 : x5 < p[n].f4.length := by omega
    obtain ⟨r, hE, hq⟩ := check_l2 p hp n hn hb hk x5 h5 (hc x5 (Nat.zero_le _) h5).2 (hG.2.2.2 _ (List.getElem_mem h5)).2 (ih (x5 + 1) (by omega)) p[n].f4[x5].f0.length 0 (by omega)
    refine ⟨r, Ev.step hE fun k => ?_, fun h => ⟨(hq h).1.1, fun j hj h2 x hx => ?_⟩⟩
    · simp only [portolanref04_Check.l1]
      rw [if_pos (by omega)]
      rfl
    · by_cases hj2 : j = x5
      · subst hj2
        exact (hq h).2 x hx
      · exact (hq h).1.2 j (by omega) h2 x hx
theorem check_l0 (p : List S30) (hp : p.length ≤ maxLen) (hG : ∀ x ∈ p, GFn x) : ∀ (m n : Nat), n + m = p.length → ∃ r, Ev (fun k => portolanref04_Check.l0 k (n : Int) p) r ∧ (r = 0 → Seen p n) := by
  intro m
  induction m with
  | zero =>
    intro n hm
    refine ⟨0, Ev.step (g := fun _ => some 0) (Ev.const _) fun k => ?_, fun _ j hj h => by omega⟩
    simp only [portolanref04_Check.l0]
    rw [if_neg (by omega)]
  | succ m ih =>
    intro n hm
    have hn : n < p.length := by omega
    have hr := rd_T30_of p n hn
    have hg := hG _ (List.getElem_mem hn)
    obtain ⟨t, hE1, hq1⟩ := func_ev p[n] hg
    cases t with
    | true =>
      obtain ⟨q1, q2, q3⟩ := hq1 rfl
      obtain ⟨r, hE, hq⟩ := check_l1 p hp n hn q2.2 hg.1 q3 hg (ih (n + 1) (by omega)) p[n].f4.length 0 (by omega)
      refine ⟨r, Ev.step (g := fun k => (portolanref04_Func.f k p[n].f0 p[n].f1 p[n].f2 p[n].f3 p[n].f4).bind fun t389 => (if t389 = true then (portolanref04_Check.l1 k (n : Int) 0 p p[n].f0 p[n].f1 p[n].f2 p[n].f3 p[n].f4) else (some 5)))
        (Ev.bind (g := fun k t389 => (if t389 = true then (portolanref04_Check.l1 k (n : Int) 0 p p[n].f0 p[n].f1 p[n].f2 p[n].f3 p[n].f4) else (some 5))) hE1 (Ev.congr hE fun k => by rw [if_pos rfl]; rfl)) fun k => ?_, fun h j hj h2 => ?_⟩
      · simp only [portolanref04_Check.l0]
        rw [if_pos (by omega), if_pos (by omega), hr]
      · by_cases hj2 : j = n
        · subst hj2
          exact ⟨q1, q2, q3, (hq h).2⟩
        · exact (hq h).1 j (by omega) h2
    | false =>
      refine ⟨5, Ev.step (g := fun k => (portolanref04_Func.f k p[n].f0 p[n].f1 p[n].f2 p[n].f3 p[n].f4).bind fun t389 => (if t389 = true then (portolanref04_Check.l1 k (n : Int) 0 p p[n].f0 p[n].f1 p[n].f2 p[n].f3 p[n].f4) else (some 5)))
        (Ev.bind (g := fun k t389 => (if t389 = true then (portolanref04_Check.l1 k (n : Int) 0 p p[n].f0 p[n].f1 p[n].f2 p[n].f3 p[n].f4) else (some 5))) hE1 (Ev.congr (Ev.const _) fun k => by rw [if_neg (by decide)])) fun k => ?_, fun h => by cases h⟩
      simp only [portolanref04_Check.l0]
      rw [if_pos (by omega), if_pos (by omega), hr]
end Go.Proofs.YtdmimhjmbdkhmaaDoor.X
end
section
namespace Go.Proofs.YtdmimhjmbdkhmaaDoor.X
open Go.RowKit Go.Proofs.YtdmimhjmbdkhmaaDoorW.PrintWords
theorem check_ev (p : List S30) (hp : p.length ≤ maxLen) (hG : ∀ x ∈ p, GFn x) : ∃ r, Ev (fun k => portolanref04_Check.f k p) r ∧ (r = 0 → Seen p 0) := by
  have j0 : ∀ b : Bool, ∃ r, Ev (fun k => portolanref04_Check.j0 k b p) r ∧ (r = 0 → Seen p 0) := by
    intro b
    cases b with
    | true => exact ⟨5, Ev.step (g := fun _ => some 5) (Ev.const _) fun k => by simp only [portolanref04_Check.j0]; rw [if_pos trivial], fun h => by cases h⟩
    | false =>
      obtain ⟨r, hE, hq⟩ := check_l0 p hp hG p.length 0 (by omega)
      refine ⟨r, Ev.step hE fun k => ?_, hq⟩
      simp only [portolanref04_Check.j0]
      rw [if_neg (by decide)]
      rfl
  by_cases c : (1 : Int) ≤ (p.length : Int) ∧ (p.length : Int) ≤ 8
  · by_cases d : ((rd_T30 p 0).f2) = 0
    · obtain ⟨r, hE, hq⟩ := j0 (((rd_T30 p 0).f3) != 0)
      refine ⟨r, Ev.congr hE fun k => ?_, hq⟩
      unfold portolanref04_Check.f
      rw [within_eq, Option.bind_some, decide_eq_true c, if_pos rfl, if_pos (by omega), if_pos d]
    · obtain ⟨r, hE, hq⟩ := j0 true
      refine ⟨r, Ev.congr hE fun k => ?_, hq⟩
      unfold portolanref04_Check.f
      rw [within_eq, Option.bind_some, decide_eq_true c, if_pos rfl, if_pos (by omega), if_neg d]
  · obtain ⟨r, hE, hq⟩ := j0 true
    refine ⟨r, Ev.congr hE fun k => ?_, hq⟩
    unfold portolanref04_Check.f
    rw [within_eq, Option.bind_some, decide_eq_false c, if_neg (by decide)]
end Go.Proofs.YtdmimhjmbdkhmaaDoor.X
end
section
namespace Go.Proofs.YtdmimhjmbdkhmaaDoor.X
open Go.RowKit Go.Proofs.YtdmimhjmbdkhmaaDoorW.PrintWords
theorem out_ev (p : List S30) (hp : p.length ≤ maxLen) (hG : ∀ x ∈ p, GFn x) : ∃ r, Ev (fun k => portolanlaw12_out.f k p) r ∧ (r = false → Seen p 0) := by
  obtain ⟨g, hg⟩ := great_ev p hp hG
  obtain ⟨c, hc, hs⟩ := check_ev p hp hG
  have fin : ∀ x3 : Int, ∃ r, Ev (fun k => if x3 > 14 then (some true) else ((portolanref03_Great.f k p).bind fun t397 => (if t397 = true then (some true) else ((portolanref04_Check.f k p).bind fun t398 => (some (t398 != 0)))))) r ∧ (r = false → Seen p 0) := by
    intro x3
    by_cases h : x3 > 14
    · exact ⟨true, Ev.congr (Ev.const _) fun k => by rw [if_pos h], fun h => by cases h⟩
    · cases g with
      | true => exact ⟨true, Ev.congr (Ev.bind (g := fun k t397 => (if t397 = true then (some true) else ((portolanref04_Check.f k p).bind fun t398 => (some (t398 != 0))))) hg (Ev.congr (Ev.const _) fun k => by rw [if_pos rfl])) fun k => by rw [if_neg h], fun h => by cases h⟩
      | false =>
        refine ⟨c != 0, Ev.congr (Ev.bind (g := fun k t397 => (if t397 = true then (some true) else ((portolanref04_Check.f k p).bind fun t398 => (some (t398 != 0))))) hg (Ev.congr (Ev.bind (g := fun _ t398 => some (t398 != 0)) hc (Ev.const _)) fun k => by rw [if_neg (by decide)])) fun k => by rw [if_neg h], fun h2 => hs ?_⟩
        simpa using h2
  have loop : ∀ (m x4 : Nat) (x3 : Int), x4 + m = 9 → ∃ r, Ev (fun k => portolanlaw12_out.l0 k x3 (x4 : Int) p) r ∧ (r = false → Seen p 0) := by
    intro m
    induction m with
    | zero =>
      intro x4 x3 hm
      obtain ⟨r, hE, hq⟩ := fin x3
      refine ⟨r, Ev.step hE fun k => ?_, hq⟩
      simp only [portolanlaw12_out.l0]
      have h9 : ¬ ((x4 : Int) < 9) := by omega
      simp only [h9, if_false, ite_self]
    | succ m ih =>
      intro x4 x3 hm
      by_cases h4 : (x4 : Int) < (p.length : Int)
      · obtain ⟨r, hE, hq⟩ := ih (x4 + 1) (mx (mx x3 (((rd_T30 p (x4 : Int)).f4).length : Int)) (wrap64 ((((rd_T30 p (x4 : Int)).f0).length : Int) / 2))) (by omega)
        refine ⟨r, Ev.step hE fun k => ?_, hq⟩
        simp only [portolanlaw12_out.l0]
        rw [if_pos h4, if_pos (by omega), if_pos (by omega), next_i (i := x4) (n := 9) (by omega) (by decide)]
      · obtain ⟨r, hE, hq⟩ := fin x3
        refine ⟨r, Ev.step hE fun k => ?_, hq⟩
        simp only [portolanlaw12_out.l0]
        rw [if_neg h4]
  obtain ⟨r, hE, hq⟩ := loop 9 0 0 (by omega)
  exact ⟨r, Ev.congr hE fun k => rfl, hq⟩
end Go.Proofs.YtdmimhjmbdkhmaaDoor.X
end
section
namespace Go.Proofs.YtdmimhjmbdkhmaaDoor.X
open Go.RowKit Go.Proofs.YtdmimhjmbdkhmaaDoorW.PrintWords
def Ok64 (s : List Int) : Prop := ∀ x ∈ s, 0 ≤ x ∧ x < 18446744073709551616
def bit (s : List Int) (v : Nat) : Bool := (s.getD (v / 64) 0).toNat.testBit (v % 64)
theorem bit_out {s : List Int} {v : Nat} (h : s.length ≤ v / 64) : bit s v = false := by
  unfold bit
  rw [List.getD_eq_getElem?_getD, List.getElem?_eq_none h]
  simp
theorem Ok64.enc {a : Nat} (h : a < 2 ^ 48) : Ok64 (enc a) := by
  unfold X.enc
  split
  · intro x hx
    cases hx
  · intro x hx
    rw [List.mem_singleton.mp hx]
    omega
theorem bit_enc (a : Nat) (ha : a < 2 ^ 48) (v : Nat) : bit (enc a) v = a.testBit v := by
  by_cases hv : v < 64
  · have h1 : v / 64 = 0 := by omega
    have h2 : v % 64 = v := by omega
    unfold bit
    rw [h1, h2]
    unfold enc
    split
    · rename_i h
      rw [h]
      simp
    · rfl
  · rw [bit_out (Nat.le_trans (enc_length a) (by omega)), Nat.testBit_lt_two_pow (Nat.lt_of_lt_of_le ha (Nat.pow_le_pow_right (by decide) (by omega)))]
theorem one_bit (a i : Nat) (ha : a < 2 ^ 64) : (Go.bits .and .u64 ((a >>> i : Nat) : Int) 1 == 1) = a.testBit i := by
  have e2 : Go.bits .and .u64 ((a >>> i : Nat) : Int) ((1 : Nat) : Int) = (((a >>> i) &&& 1 : Nat) : Int) := and_nat _ 1 (Nat.lt_of_le_of_lt (Nat.shiftRight_le _ _) (by omega)) (by omega)
  change (Go.bits .and .u64 ((a >>> i : Nat) : Int) ((1 : Nat) : Int) == 1) = _
  rw [e2, Nat.testBit, Nat.and_comm]
  have : (1 &&& (a >>> i)) = 0 ∨ (1 &&& (a >>> i)) = 1 := by
    rw [Nat.one_and_eq_mod_two]
    omega
  rcases this with h | h <;> rw [h] <;> rfl
theorem shr_nat (a i : Nat) (hi : i < 64) : shr .u64 (a : Int) (i : Int) = ((a >>> i : Nat) : Int) := by
  unfold shr
  have : min (i : Int).toNat IntKind.u64.bits = i := by simp [IntKind.bits]; omega
  rw [this, Nat.shiftRight_eq_div_pow]
  show (a : Int) / 2 ^ i = _
  simp
theorem RHas_gen {s : List Int} (hs : Ok64 s) (v : Nat) (hv : v < 1000000) : portolanref02_Has.f s (v : Int) = some (bit s v) := by
  have e1 : wrap64 (Int.tdiv (v : Int) 64) = ((v / 64 : Nat) : Int) := by
    rw [Int.tdiv_eq_ediv_of_nonneg (by omega)]
    have : (v : Int) / 64 = ((v / 64 : Nat) : Int) := by omega
    rw [this]
    exact wrap64_id (by omega) (by omega)
  have e2 : Int.tmod (v : Int) 64 = ((v % 64 : Nat) : Int) := by
    rw [Int.tmod_eq_emod_of_nonneg (by omega)]
    omega
  have e3 : IntKind.u64.wrap ((v % 64 : Nat) : Int) = ((v % 64 : Nat) : Int) := u64_wrap _ (by omega)
  unfold portolanref02_Has.f
  rw [e1, e2, e3, if_pos (by omega)]
  by_cases h : v / 64 < s.length
  · rw [if_pos (by omega), if_pos (by omega), if_pos (by omega)]
    congr 1
    have hr := rd_of s (v / 64) h
    obtain ⟨h0, h1⟩ := hs _ (List.getElem_mem h)
    rw [hr]
    unfold bit
    rw [List.getD_eq_getElem?_getD, List.getElem?_eq_getElem h]
    show _ = (s[v / 64]).toNat.testBit (v % 64)
    generalize s[v / 64] = x at *
    obtain ⟨a, rfl⟩ := Int.eq_ofNat_of_zero_le h0
    rw [shr_nat a (v % 64) (by omega)]
    exact one_bit a (v % 64) (by omega)
  · rw [if_neg (by omega), bit_out (by omega)]
def bitsN (s : List Int) (m : Nat) : List Nat := (List.range m).filter fun v => bit s v
def bitsL (s : List Int) : List Int := (bitsN s (64 * s.length)).map Int.ofNat
theorem bitsN_len (s : List Int) (m : Nat) : (bitsN s m).length ≤ m := Nat.le_trans (List.length_filter_le _ _) (by simp)
end Go.Proofs.YtdmimhjmbdkhmaaDoor.X
end
section
namespace Go.Proofs.YtdmimhjmbdkhmaaDoor.X
open Go.RowKit Go.Proofs.YtdmimhjmbdkhmaaDoorW.PrintWords
theorem ctz_lt {x : Nat} (h0 : x ≠ 0) (h : x < 2 ^ 64) : ∃ m, x = 2 ^ (Lib.ctz 64 x) * (2 * m + 1) ∧ Lib.ctz 64 x < 64 := by
  unfold Lib.ctz
  rw [if_neg h0]
  exact Lib.ctzFrom_spec 64 x (by omega) h
theorem low_bits {j m : Nat} : (∀ i, i < j → (2 ^ j * (2 * m + 1)).testBit i = false) ∧ (2 ^ j * (2 * m + 1)).testBit j = true ∧ ∀ i, ((2 ^ j * (2 * m + 1)) &&& (2 ^ j * (2 * m + 1) - 1)).testBit i = ((2 ^ j * (2 * m + 1)).testBit i && decide (i ≠ j)) := by
  have hp : 0 < 2 ^ j := Nat.two_pow_pos j
  have e1 : ∀ i, (2 ^ j * (2 * m + 1)).testBit i = if i < j then false else (2 * m + 1).testBit (i - j) := fun i => by
    have := Nat.testBit_two_pow_mul_add (2 * m + 1) hp i
    simpa using this
  have hs : 2 ^ j * (2 * m + 1) - 1 = 2 ^ j * (2 * m) + (2 ^ j - 1) := by
    rw [Nat.mul_add, Nat.mul_one]
    omega
  refine ⟨fun i hi => by rw [e1, if_pos hi], by rw [e1, if_neg (Nat.lt_irrefl j), Nat.sub_self]; simp, fun i => ?_⟩
  rw [Nat.testBit_and, hs, Nat.testBit_two_pow_mul_add _ (by omega : 2 ^ j - 1 < 2 ^ j), e1]
  by_cases hi : i < j
  · rw [if_pos hi, if_pos hi]
    simp
  · rw [if_neg hi, if_neg hi]
    by_cases he : i = j
    · subst he
      simp
    · obtain ⟨c, hc⟩ : ∃ c, i - j = c + 1 := ⟨i - j - 1, by omega⟩
      rw [hc, Nat.testBit_succ, Nat.testBit_succ]
      have a1 : 2 * m / 2 = m := by omega
      have a2 : (2 * m + 1) / 2 = m := by omega
      rw [a1, a2]
      simp [he]
theorem filter_least {p : Nat → Bool} {n j : Nat} (hj : j < n) (hp : p j = true) (hl : ∀ i, i < j → p i = false) : (List.range n).filter p = j :: (List.range n).filter fun i => p i && decide (i ≠ j) := by
  obtain ⟨d, rfl⟩ : ∃ d, n = j + (1 + d) := ⟨n - j - 1, by omega⟩
  have h1 : (List.range j).filter p = [] := by
    rw [List.filter_eq_nil_iff]
    intro i hi
    rw [hl i (List.mem_range.mp hi)]
    decide
  have h2 : (List.range j).filter (fun i => p i && decide (i ≠ j)) = [] := by
    rw [List.filter_eq_nil_iff]
    intro i hi
    rw [hl i (List.mem_range.mp hi)]
    simp
  rw [List.range_add, List.filter_append, List.filter_append, h1, h2, List.nil_append, List.nil_append, List.range_add, List.map_append, List.filter_append, List.filter_append]
  have e0 : (List.range 1).map (j + ·) = [j] := by simp
  rw [e0]
  have e1 : [j].filter p = [j] := by simp [hp]
  have e2 : [j].filter (fun i => p i && decide (i ≠ j)) = [] := by simp
  rw [e1, e2, List.nil_append]
  show j :: _ = j :: _
  congr 1
  refine List.filter_congr fun i hi => ?_
  obtain ⟨a, ha, rfl⟩ := List.mem_map.mp hi
  obtain ⟨b, _, rfl⟩ := List.mem_map.mp ha
  have : j + (1 + b) ≠ j := by omega
  simp [this]
def wordN (i x : Nat) : List Nat := ((List.range 64).filter fun b => x.testBit b).map fun b => 64 * i + b
theorem wordN_len (i x : Nat) : (wordN i x).length ≤ 64 := by
  unfold wordN
  rw [List.length_map]
  exact Nat.le_trans (List.length_filter_le _ _) (by simp)
theorem wordN_step {i x : Nat} (h0 : x ≠ 0) (h : x < 2 ^ 64) : wordN i x = (64 * i + Lib.ctz 64 x) :: wordN i (x &&& (x - 1)) := by
  obtain ⟨m, hm, hj⟩ := ctz_lt h0 h
  obtain ⟨b1, b2, b3⟩ := @low_bits (Lib.ctz 64 x) m
  rw [← hm] at b1 b2 b3
  unfold wordN
  rw [filter_least hj b2 b1, List.map_cons]
  congr 2
  exact List.filter_congr fun i _ => (b3 i).symm
theorem bitsN_word (s : List Int) (i : Nat) (hi : i < s.length) : bitsN s (64 * (i + 1)) = bitsN s (64 * i) ++ wordN i (s[i]).toNat := by
  unfold bitsN wordN
  rw [show 64 * (i + 1) = 64 * i + 64 by omega, List.range_add, List.filter_append, List.filter_map]
  congr 2
  refine List.filter_congr fun b hb => ?_
  have hb := List.mem_range.mp hb
  show bit s (64 * i + b) = _
  unfold bit
  have e1 : (64 * i + b) / 64 = i := by omega
  have e2 : (64 * i + b) % 64 = b := by omega
  rw [e1, e2, List.getD_eq_getElem?_getD, List.getElem?_eq_getElem hi]
  rfl
theorem word_loop {s : List Int} (hl : s.length ≤ 200) (i : Nat) (hi : i < s.length) {r : List Int} :
    ∀ (m x : Nat) (acc : List Int), (wordN i x).length ≤ m → x < 2 ^ 64 → acc.length + (wordN i x).length ≤ 100000 → Ev (fun k => bitset_List.l0 k (acc ++ (wordN i x).map Int.ofNat) s (s.length : Int) ((i + 1 : Nat) : Int)) r →
      Ev (fun k => bitset_List.l1 k acc (i : Int) (x : Int) s (s.length : Int) (i : Int)) r := by
  have hw : wrap64 ((i : Int) + 1) = ((i + 1 : Nat) : Int) := next_i hi (by rw [maxLen_eq]; omega)
  intro m
  induction m with
  | zero =>
    intro x acc hm hx hacc h
    by_cases h0 : x = 0
    · subst h0
      have e : wordN i 0 = [] := List.eq_nil_of_length_eq_zero (by omega)
      rw [e, List.map_nil, List.append_nil] at h
      refine Ev.step h fun k => ?_
      simp only [bitset_List.l1]
      rw [if_pos (by rfl), hw]
    · rw [wordN_step h0 hx] at hm
      simp at hm
  | succ m ih =>
    intro x acc hm hx hacc h
    by_cases h0 : x = 0
    · subst h0
      have e : wordN i 0 = [] := by
        unfold wordN
        have : ((List.range 64).filter fun b => Nat.testBit 0 b) = [] := by
          rw [List.filter_eq_nil_iff]
          intro b _
          simp
        rw [this]
        rfl
      rw [e, List.map_nil, List.append_nil] at h
      refine Ev.step h fun k => ?_
      simp only [bitset_List.l1]
      rw [if_pos (by rfl), hw]
    · have hs := wordN_step (i := i) h0 hx
      obtain ⟨_, _, hj⟩ := ctz_lt h0 hx
      rw [hs] at hm hacc h
      simp only [List.length_cons] at hm hacc
      have hlt : (x &&& (x - 1)) < 2 ^ 64 := Nat.lt_of_le_of_lt Nat.and_le_left hx
      have hr : acc ++ ((64 * i + Lib.ctz 64 x) :: wordN i (x &&& (x - 1))).map Int.ofNat = (acc ++ [((64 * i + Lib.ctz 64 x : Nat) : Int)]) ++ (wordN i (x &&& (x - 1))).map Int.ofNat := by
        rw [List.map_cons, List.append_assoc]
        rfl
      rw [hr] at h
      refine Ev.step (ih (x &&& (x - 1)) (acc ++ [((64 * i + Lib.ctz 64 x : Nat) : Int)]) (by omega) hlt (by rw [List.length_append, List.length_singleton]; omega) h) fun k => ?_
      have ht : bits_TrailingZeros64.f (x : Int) = some ((Lib.ctz 64 x : Nat) : Int) := by
        unfold bits_TrailingZeros64.f
        rw [if_pos (by omega), if_pos (by omega), Int.toNat_natCast]
      have e1 : IntKind.u64.wrap ((x : Int) - 1) = ((x - 1 : Nat) : Int) := by
        rw [show (x : Int) - 1 = ((x - 1 : Nat) : Int) by omega]
        exact u64_wrap _ (by omega)
      have e2 : wrap64 (wrap64 ((i : Int) * 64) + ((Lib.ctz 64 x : Nat) : Int)) = ((64 * i + Lib.ctz 64 x : Nat) : Int) := by
        rw [wrap64_id (n := (i : Int) * 64) (by omega) (by omega), wrap64_id (by omega) (by omega)]
        omega
      simp only [bitset_List.l1]
      rw [if_neg (by omega), ht, Option.bind_some, if_pos (by omega), e1, e2, and_nat _ _ hx (by omega)]
theorem List_ev {s : List Int} (hs : Ok64 s) (hl : s.length ≤ 200) : Ev (fun k => bitset_List.f k s) (bitsL s) := by
  have loop : ∀ (m i : Nat), i + m = s.length → Ev (fun k => bitset_List.l0 k ((bitsN s (64 * i)).map Int.ofNat) s (s.length : Int) (i : Int)) (bitsL s) := by
    intro m
    induction m with
    | zero =>
      intro i hi
      refine Ev.step (g := fun _ => some (bitsL s)) (Ev.const _) fun k => ?_
      simp only [bitset_List.l0]
      rw [if_neg (by omega)]
      unfold bitsL
      rw [← hi]
      rfl
    | succ m ih =>
      intro i hi
      have hil : i < s.length := by omega
      have h := ih (i + 1) (by omega)
      rw [bitsN_word s i hil, List.map_append] at h
      have hb := bitsN_len s (64 * i)
      have hwl := wordN_len i (s[i]).toNat
      obtain ⟨h0, h1⟩ := hs _ (List.getElem_mem hil)
      have hr := rd_of s i hil
      have hx : ((s[i].toNat : Nat) : Int) = s[i] := Int.toNat_of_nonneg h0
      have h3 := word_loop hl i hil 64 (s[i]).toNat ((bitsN s (64 * i)).map Int.ofNat) hwl (by omega) (by rw [List.length_map]; omega) h
      rw [hx] at h3
      refine Ev.step h3 fun k => ?_
      simp only [bitset_List.l0]
      rw [if_pos (by omega), if_pos (by omega), if_pos (by omega), hr]
  exact Ev.congr (loop s.length 0 (by omega)) fun k => rfl
end Go.Proofs.YtdmimhjmbdkhmaaDoor.X
end
section
namespace Go.Proofs.YtdmimhjmbdkhmaaDoor.X
open Go.RowKit Go.Proofs.YtdmimhjmbdkhmaaDoorW.PrintWords
def selN (n : Nat) (s : List Int) (p : Nat → Bool) : List Nat := (List.range n).filter fun v => bit s v && p v
def selL (n : Nat) (s : List Int) (p : Nat → Bool) : List Int := (selN n s p).map Int.ofNat
theorem mem_selN {n : Nat} {s : List Int} {p : Nat → Bool} {v : Nat} : v ∈ selN n s p ↔ v < n ∧ bit s v = true ∧ p v = true := by
  unfold selN
  rw [List.mem_filter, List.mem_range, Bool.and_eq_true]
theorem mem_selL {n : Nat} {s : List Int} {p : Nat → Bool} {x : Int} : x ∈ selL n s p ↔ ∃ v : Nat, x = (v : Int) ∧ v < n ∧ bit s v = true ∧ p v = true := by
  unfold selL
  rw [List.mem_map]
  constructor
  · rintro ⟨v, hv, rfl⟩
    exact ⟨v, rfl, mem_selN.mp hv⟩
  · rintro ⟨v, rfl, hv⟩
    exact ⟨v, mem_selN.mpr hv, rfl⟩
theorem selL_len (n : Nat) (s : List Int) (p : Nat → Bool) : (selL n s p).length ≤ n := by
  unfold selL selN
  rw [List.length_map]
  exact Nat.le_trans (List.length_filter_le _ _) (by simp)
theorem range_cut {q : Nat → Bool} {a b : Nat} (h : a ≤ b) (hq : ∀ v, a ≤ v → q v = false) : (List.range b).filter q = (List.range a).filter q := by
  obtain ⟨d, rfl⟩ := Nat.le.dest h
  rw [List.range_add, List.filter_append]
  have : ((List.range d).map (a + ·)).filter q = [] := by
    rw [List.filter_eq_nil_iff]
    intro v hv
    obtain ⟨c, _, rfl⟩ := List.mem_map.mp hv
    rw [hq _ (by omega)]
    decide
  rw [this, List.append_nil]
theorem sel_of (n : Nat) (s : List Int) (p : Nat → Bool) : ((bitsL s).filter fun x : Int => decide (x < (n : Int)) && p x.toNat) = selL n s p := by
  unfold bitsL selL selN bitsN
  rw [List.filter_map]
  congr 1
  rw [List.filter_filter]
  have e1 : ∀ v, (((fun x : Int => decide (x < (n : Int)) && p x.toNat) ∘ Int.ofNat) v && bit s v) = ((bit s v && p v) && decide (v < n)) := fun v => by
    show ((decide (((v : Nat) : Int) < (n : Int)) && p ((v : Nat) : Int).toNat) && bit s v) = _
    rw [Int.toNat_natCast]
    have : decide (((v : Nat) : Int) < (n : Int)) = decide (v < n) := by
      by_cases h : v < n
      · rw [decide_eq_true h, decide_eq_true (by omega)]
      · rw [decide_eq_false h, decide_eq_false (by omega)]
    rw [this]
    cases bit s v <;> cases p v <;> cases decide (v < n) <;> rfl
  rw [List.filter_congr fun v _ => e1 v]
  have hM : ∀ v, 64 * s.length ≤ v → ((bit s v && p v) && decide (v < n)) = false := fun v hv => by
    rw [bit_out (by omega)]
    rfl
  have hn : ∀ v, n ≤ v → ((bit s v && p v) && decide (v < n)) = false := fun v hv => by
    rw [decide_eq_false (by omega), Bool.and_false]
  have e2 : (List.range n).filter (fun v => bit s v && p v) = (List.range n).filter fun v => (bit s v && p v) && decide (v < n) :=
    List.filter_congr fun v hv => by rw [decide_eq_true (List.mem_range.mp hv), Bool.and_true]
  rw [e2]
  rcases Nat.le_total n (64 * s.length) with h | h
  · exact range_cut h hn
  · exact (range_cut h hM).symm
theorem keepF_ev {s : List Int} (hs : Ok64 s) (hl : s.length ≤ 200) (n : Nat) (p : Nat → Bool) : Ev (fun k => keepF k n s p) (selL n s p) := by
  refine Ev.congr (Ev.bind (g := fun _ l => if l.all (fun x => decide (0 ≤ x)) = true then some (l.filter fun x : Int => decide (x < (n : Int)) && p x.toNat) else none) (List_ev hs hl) (Ev.congr (Ev.const (selL n s p)) fun k => ?_)) fun k => rfl
  rw [if_pos, sel_of]
  rw [List.all_eq_true]
  intro x hx
  unfold bitsL at hx
  obtain ⟨v, _, rfl⟩ := List.mem_map.mp hx
  exact decide_eq_true (Int.natCast_nonneg v)
structure KOk (f : S30) : Prop where
  len : f.f0.length ≤ 48
  eq : f.f1.length = f.f0.length
  der : ∀ u : Nat, u < f.f0.length → rd f.f0 (u : Int) = 2 → 0 ≤ rd f.f1 (u : Int) ∧ rd f.f1 (u : Int) < (f.f0.length : Int) ∧ rd f.f0 (rd f.f1 (u : Int)) = 1
theorem addl_bit : ∀ (l : List Int) (a i : Nat), (addl a l).testBit i = true ↔ (a.testBit i = true ∨ ∃ v ∈ l, v.toNat = i)
  | [], a, i => by simp [addl]
  | v :: l, a, i => by
    show (addl (a ||| 2 ^ v.toNat) l).testBit i = true ↔ _
    rw [addl_bit l, Nat.testBit_or, Nat.testBit_two_pow]
    simp only [List.mem_cons, Bool.or_eq_true, decide_eq_true_eq]
    constructor
    · rintro ((h | h) | ⟨u, hu, h⟩)
      · exact .inl h
      · exact .inr ⟨v, .inl rfl, h⟩
      · exact .inr ⟨u, .inr hu, h⟩
    · rintro (h | ⟨u, rfl | hu, h⟩)
      · exact .inl (.inl h)
      · exact .inl (.inr h)
      · exact .inr ⟨u, hu, h⟩
def dersN (f : S30) (s : List Int) : List Nat := selN f.f0.length s fun x => rd f.f0 (x : Int) == 2
def basesL (f : S30) (s : List Int) : List Int := (dersN f s).map fun u : Nat => rd f.f1 (u : Int)
def closeN (f : S30) (s : List Int) : Nat := addl (addl 0 (selL f.f0.length s fun _ => true)) (basesL f s)
theorem small_sel {n : Nat} (hn : n ≤ 48) (s : List Int) (p : Nat → Bool) : Small (selL n s p) := fun x hx => by
  obtain ⟨v, rfl, hv, _⟩ := mem_selL.mp hx
  omega
theorem mem_dersN {f : S30} {s : List Int} {u : Nat} : u ∈ dersN f s ↔ u < f.f0.length ∧ bit s u = true ∧ rd f.f0 (u : Int) = 2 := by
  unfold dersN
  rw [mem_selN, beq_iff_eq]
theorem small_bases {f : S30} (hk : KOk f) (s : List Int) : Small (basesL f s) := fun x hx => by
  obtain ⟨u, hu, rfl⟩ := List.mem_map.mp hx
  obtain ⟨h1, _, h3⟩ := mem_dersN.mp hu
  obtain ⟨h4, h5, _⟩ := hk.der u h1 h3
  have := hk.len
  omega
theorem closeN_lt {f : S30} (hk : KOk f) (s : List Int) : closeN f s < 2 ^ 48 := addl_lt (addl_lt (by decide) (small_sel hk.len _ _)) (small_bases hk s)
theorem closeN_bit {f : S30} (hk : KOk f) (s : List Int) (v : Nat) : (closeN f s).testBit v = true ↔ ((v < f.f0.length ∧ bit s v = true) ∨ ∃ u, u < f.f0.length ∧ bit s u = true ∧ rd f.f0 (u : Int) = 2 ∧ rd f.f1 (u : Int) = (v : Int)) := by
  unfold closeN
  rw [addl_bit, addl_bit, Nat.zero_testBit]
  constructor
  · rintro ((h | ⟨x, hx, h⟩) | ⟨x, hx, h⟩)
    · cases h
    · obtain ⟨u, rfl, h1, h2, _⟩ := mem_selL.mp hx
      rw [Int.toNat_natCast] at h
      subst h
      exact .inl ⟨h1, h2⟩
    · obtain ⟨u, hu, rfl⟩ := List.mem_map.mp hx
      obtain ⟨h1, h2, h3⟩ := mem_dersN.mp hu
      obtain ⟨h4, _, _⟩ := hk.der u h1 h3
      exact .inr ⟨u, h1, h2, h3, by rw [← h]; exact (Int.toNat_of_nonneg h4).symm⟩
  · rintro (⟨h1, h2⟩ | ⟨u, h1, h2, h3, h4⟩)
    · exact .inl (.inr ⟨(v : Int), mem_selL.mpr ⟨v, rfl, h1, h2, rfl⟩, Int.toNat_natCast v⟩)
    · exact .inr ⟨_, List.mem_map.mpr ⟨u, mem_dersN.mpr ⟨h1, h2, h3⟩, rfl⟩, by rw [h4]; exact Int.toNat_natCast v⟩
theorem small_one {x : Int} {n : Nat} (h0 : 0 ≤ x) (h1 : x < (n : Int)) (hn : n ≤ 48) : Small [x] := fun y hy => by
  rw [List.mem_singleton.mp hy]
  omega
theorem close_loop {f : S30} (hk : KOk f) (D : List Nat) (hD : ∀ u ∈ D, u < f.f0.length ∧ rd f.f0 (u : Int) = 2) (hl : D.length ≤ 48) : ∀ (m i a : Nat), i + m = D.length → a < 2 ^ 48 →
    Ev (fun k => keep_Close.l0 k (enc a) (D.map Int.ofNat) ((D.map Int.ofNat).length : Int) (i : Int) f.f0 f.f1 f.f2 f.f3 f.f4) (enc (addl a ((D.map fun u : Nat => rd f.f1 (u : Int)).drop i))) := by
  have hlen : (D.map Int.ofNat).length = D.length := List.length_map ..
  rw [hlen]
  intro m
  induction m with
  | zero =>
    intro i a hi ha
    rw [List.drop_eq_nil_of_le (by rw [List.length_map]; omega)]
    refine Ev.step (g := fun _ => some (enc a)) (Ev.const _) fun k => ?_
    simp only [keep_Close.l0]
    rw [if_neg (by omega)]
  | succ m ih =>
    intro i a hi ha
    have hil : i < D.length := by omega
    have hr := rd_of (D.map Int.ofNat) i (by rw [hlen]; exact hil)
    rw [List.getElem_map] at hr
    obtain ⟨h1, h3⟩ := hD _ (List.getElem_mem hil)
    rw [List.drop_eq_getElem_cons (by rw [List.length_map]; exact hil), List.getElem_map]
    have hih := fun (b : Nat) (hb : b < 2 ^ 48) => ih (i + 1) b (by omega) hb
    generalize D[i] = u at *
    obtain ⟨h4, h5, _⟩ := hk.der u h1 h3
    have he := hk.eq
    have hu1 : ((u : Nat) : Int) < (f.f1.length : Int) := by rw [he]; exact Int.ofNat_lt.mpr h1
    have hbl := hk.len
    have hsm : Small [rd f.f1 (u : Int)] := small_one h4 h5 hbl
    have hW := With_ev a ha [rd f.f1 (u : Int)] (by rw [maxLen_eq]; simp) hsm
    have hw : wrap64 ((i : Int) + 1) = ((i + 1 : Nat) : Int) := next_i hil (by rw [maxLen_eq]; omega)
    have hr' : rd (D.map Int.ofNat) (i : Int) = (u : Int) := hr
    have hi1 : (i : Int) < (D.length : Int) := Int.ofNat_lt.mpr hil
    have hi2 : (i : Int) < ((D.map Int.ofNat).length : Int) := by rw [hlen]; exact hi1
    refine Ev.step (Ev.bind (g := fun k t => keep_Close.l0 k t (D.map Int.ofNat) (D.length : Int) ((i + 1 : Nat) : Int) f.f0 f.f1 f.f2 f.f3 f.f4) hW (hih _ (addl_lt ha hsm))) fun k => ?_
    simp only [keep_Close.l0]
    rw [if_pos hi1, if_pos (Int.natCast_nonneg i), if_pos hi2, hr', if_pos (Int.natCast_nonneg u), if_pos hu1, hw]
theorem Close_ev {f : S30} (hk : KOk f) {s : List Int} (hs : Ok64 s) (hl : s.length ≤ 200) : Ev (fun k => keep_Close.f k f.f0 f.f1 f.f2 f.f3 f.f4 s) (enc (closeN f s)) := by
  have hn := hk.len
  have hsel := small_sel hn s (fun _ => true)
  have hlen := selL_len f.f0.length s (fun _ => true)
  have h0 : addl 0 (selL f.f0.length s fun _ => true) < 2 ^ 48 := addl_lt (by decide) hsel
  have hD := selL_len f.f0.length s (fun x => rd f.f0 (x : Int) == 2)
  have hD2 : (dersN f s).length ≤ 48 := by
    unfold selL at hD
    rw [List.length_map] at hD
    exact Nat.le_trans hD hn
  have hmx : (selL f.f0.length s fun _ => true).length ≤ maxLen := Nat.le_trans hlen (Nat.le_trans hn (by decide))
  have loop := close_loop hk (dersN f s) (fun u hu => ⟨(mem_dersN.mp hu).1, (mem_dersN.mp hu).2.2⟩) hD2 (dersN f s).length 0 _ (Nat.zero_add _) h0
  have hsome : Ev (fun k => keep_some.f k f.f0 f.f1 f.f2 f.f3 f.f4 s) (selL f.f0.length s fun _ => true) := keepF_ev hs hl _ _
  have hder : Ev (fun k => keep_Ders.f k f.f0 f.f1 f.f2 f.f3 f.f4 s) ((dersN f s).map Int.ofNat) := keepF_ev hs hl _ _
  have hOf : Ev (fun k => bitset_Of.f k (selL f.f0.length s fun _ => true)) (enc (addl 0 (selL f.f0.length s fun _ => true))) :=
    Ev.congr (Ev.bind (g := fun _ t => some t) (With_ev 0 (by decide) _ hmx hsel) (Ev.const _)) fun k => rfl
  refine Ev.congr (Ev.bind (g := fun k t265 => ((bitset_Of.f k t265).bind fun t268 => ((keep_Ders.f k f.f0 f.f1 f.f2 f.f3 f.f4 s).bind fun t271 => (keep_Close.l0 k t268 t271 (t271.length : Int) 0 f.f0 f.f1 f.f2 f.f3 f.f4)))) hsome
    (Ev.bind (g := fun k t268 => ((keep_Ders.f k f.f0 f.f1 f.f2 f.f3 f.f4 s).bind fun t271 => (keep_Close.l0 k t268 t271 (t271.length : Int) 0 f.f0 f.f1 f.f2 f.f3 f.f4))) hOf
      (Ev.bind (g := fun k t271 => (keep_Close.l0 k (enc (addl 0 (selL f.f0.length s fun _ => true))) t271 (t271.length : Int) 0 f.f0 f.f1 f.f2 f.f3 f.f4)) hder loop))) fun k => rfl
end Go.Proofs.YtdmimhjmbdkhmaaDoor.X
end
section
namespace Go.Proofs.YtdmimhjmbdkhmaaDoor.X
open Go.RowKit Go.Proofs.YtdmimhjmbdkhmaaDoorW.PrintWords
def rcN (f : S30) (s : List Int) : Nat → Nat
  | 0 => 0
  | m + 1 => if bit s m = true then (if rd f.f0 (m : Int) = 2 then addl (addl (rcN f s m) [(m : Int)]) [rd f.f1 (m : Int)] else addl (rcN f s m) [(m : Int)]) else rcN f s m
theorem rcN_bit {f : S30} (hk : KOk f) (s : List Int) (i : Nat) : ∀ m, m ≤ f.f0.length → ((rcN f s m).testBit i = true ↔ ((i < m ∧ bit s i = true) ∨ ∃ u, u < m ∧ bit s u = true ∧ rd f.f0 (u : Int) = 2 ∧ rd f.f1 (u : Int) = (i : Int)))
  | 0, _ => by
    unfold rcN
    rw [Nat.zero_testBit]
    constructor
    · intro h
      cases h
    · rintro (⟨h, _⟩ | ⟨u, h, _⟩) <;> omega
  | m + 1, hm => by
    have ih := rcN_bit hk s i m (by omega)
    have one : ∀ (a : Nat) (x : Int), (addl a [x]).testBit i = true ↔ (a.testBit i = true ∨ x.toNat = i) := fun a x => by
      rw [addl_bit]
      constructor
      · rintro (h | ⟨v, hv, h⟩)
        · exact .inl h
        · rw [List.mem_singleton.mp hv] at h
          exact .inr h
      · rintro (h | h)
        · exact .inl h
        · exact .inr ⟨x, List.mem_singleton.mpr rfl, h⟩
    unfold rcN
    by_cases hb : bit s m = true
    · rw [if_pos hb]
      by_cases h2 : rd f.f0 (m : Int) = 2
      · rw [if_pos h2, one, one, ih, Int.toNat_natCast]
        have h4 := (hk.der m (by omega) h2).1
        constructor
        · rintro (((⟨h, h5⟩ | ⟨u, hu, h5⟩) | h) | h)
          · exact .inl ⟨by omega, h5⟩
          · exact .inr ⟨u, by omega, h5⟩
          · subst h
            exact .inl ⟨by omega, hb⟩
          · exact .inr ⟨m, by omega, hb, h2, by rw [← h]; exact (Int.toNat_of_nonneg h4).symm⟩
        · rintro (⟨h, h5⟩ | ⟨u, hu, h5, h6, h7⟩)
          · rcases Nat.lt_or_ge i m with h8 | h8
            · exact .inl (.inl (.inl ⟨h8, h5⟩))
            · exact .inl (.inr (by omega))
          · rcases Nat.lt_or_ge u m with h8 | h8
            · exact .inl (.inl (.inr ⟨u, h8, h5, h6, h7⟩))
            · have h9 : u = m := by omega
              subst h9
              exact .inr (by rw [h7]; exact Int.toNat_natCast i)
      · rw [if_neg h2, one, ih, Int.toNat_natCast]
        constructor
        · rintro ((⟨h, h5⟩ | ⟨u, hu, h5⟩) | h)
          · exact .inl ⟨by omega, h5⟩
          · exact .inr ⟨u, by omega, h5⟩
          · subst h
            exact .inl ⟨by omega, hb⟩
        · rintro (⟨h, h5⟩ | ⟨u, hu, h5, h6, h7⟩)
          · rcases Nat.lt_or_ge i m with h8 | h8
            · exact .inl (.inl ⟨h8, h5⟩)
            · exact .inr (by omega)
          · rcases Nat.lt_or_ge u m with h8 | h8
            · exact .inl (.inr ⟨u, h8, h5, h6, h7⟩)
            · have h9 : u = m := by omega
              subst h9
              exact absurd h6 h2
    · rw [if_neg hb, ih]
      constructor
      · rintro (⟨h, h5⟩ | ⟨u, hu, h5⟩)
        · exact .inl ⟨by omega, h5⟩
        · exact .inr ⟨u, by omega, h5⟩
      · rintro (⟨h, h5⟩ | ⟨u, hu, h5, h6⟩)
        · rcases Nat.lt_or_ge i m with h8 | h8
          · exact .inl ⟨h8, h5⟩
          · have h9 : i = m := by omega
            subst h9
            exact absurd h5 hb
        · rcases Nat.lt_or_ge u m with h8 | h8
          · exact .inr ⟨u, h8, h5, h6⟩
          · have h9 : u = m := by omega
            subst h9
            exact absurd h5 hb
theorem rcN_end {f : S30} (hk : KOk f) (s : List Int) : rcN f s f.f0.length = closeN f s := by
  refine Nat.eq_of_testBit_eq fun i => ?_
  rw [Bool.eq_iff_iff, rcN_bit hk s i _ (Nat.le_refl _), closeN_bit hk]
theorem small_nat {m n : Nat} (h : m < n) (hn : n ≤ 48) : Small [(m : Int)] := fun y hy => by
  rw [List.mem_singleton.mp hy]
  omega
theorem rcN_lt {f : S30} (hk : KOk f) (s : List Int) : ∀ m, m ≤ f.f0.length → rcN f s m < 2 ^ 48
  | 0, _ => by unfold rcN; decide
  | m + 1, hm => by
    have ih := rcN_lt hk s m (by omega)
    have hsm := small_nat (show m < f.f0.length by omega) hk.len
    unfold rcN
    split
    · split
      · rename_i h2
        obtain ⟨h4, h5, _⟩ := hk.der m (by omega) h2
        exact addl_lt (addl_lt ih hsm) (small_one h4 h5 hk.len)
      · exact addl_lt ih hsm
    · exact ih
theorem RClose_ev {f : S30} (hk : KOk f) {s : List Int} (hs : Ok64 s) : Ev (fun k => portolanref12_Close.f k f.f0 f.f1 f.f2 f.f3 f.f4 s) (enc (closeN f s)) := by
  have hn := hk.len
  have hml : f.f0.length ≤ maxLen := Nat.le_trans hn (by decide)
  have loop : ∀ (d m : Nat), m + d = f.f0.length → Ev (fun k => portolanref12_Close.l0 k s (enc (rcN f s m)) (m : Int) f.f0 f.f1 f.f2 f.f3 f.f4) (enc (closeN f s)) := by
    intro d
    induction d with
    | zero =>
      intro m hm
      have e : m = f.f0.length := hm
      subst e
      rw [rcN_end hk s]
      refine Ev.step (g := fun _ => some (enc (closeN f s))) (Ev.const _) fun k => ?_
      simp only [portolanref12_Close.l0]
      rw [if_neg (Int.lt_irrefl _), RNeat_St (St.enc _)]
      rfl
    | succ d ih =>
      intro m hm
      have hml1 : m < f.f0.length := by omega
      have h := ih (m + 1) (by omega)
      have hw : wrap64 ((m : Int) + 1) = ((m + 1 : Nat) : Int) := next_i hml1 hml
      have hH := RHas_gen hs m (by omega)
      have hlt := rcN_lt hk s m (by omega)
      have hsm := small_nat hml1 hn
      have hm1 : (m : Int) < (f.f0.length : Int) := Int.ofNat_lt.mpr hml1
      have hm2 : (m : Int) < (f.f1.length : Int) := by rw [hk.eq]; exact hm1
      have h1 : ([(m : Int)] : List Int).length ≤ maxLen := by rw [maxLen_eq]; simp
      unfold rcN at h
      by_cases hb : bit s m = true
      · rw [if_pos hb] at h
        have hW := RWith_ev (rcN f s m) hlt [(m : Int)] h1 hsm
        rw [hb] at hH
        by_cases h2 : rd f.f0 (m : Int) = 2
        · rw [if_pos h2] at h
          obtain ⟨h4, h5, _⟩ := hk.der m hml1 h2
          have hW2 := RWith_ev (addl (rcN f s m) [(m : Int)]) (addl_lt hlt hsm) [rd f.f1 (m : Int)] (by rw [maxLen_eq]; simp) (small_one h4 h5 hn)
          refine Ev.step (Ev.bind (g := fun k t => (portolanref02_With.f k t [rd f.f1 (m : Int)]).bind fun t2 => portolanref12_Close.l0 k s t2 ((m + 1 : Nat) : Int) f.f0 f.f1 f.f2 f.f3 f.f4) hW (Ev.bind (g := fun k t2 => portolanref12_Close.l0 k s t2 ((m + 1 : Nat) : Int) f.f0 f.f1 f.f2 f.f3 f.f4) hW2 h)) fun k => ?_
          simp only [portolanref12_Close.l0]
          rw [if_pos hm1, hH, Option.bind_some, if_pos rfl]
          refine congrArg _ (funext fun t => ?_)
          rw [if_pos (Int.natCast_nonneg m), if_pos h2, if_pos hm2, hw]
        · rw [if_neg h2] at h
          refine Ev.step (Ev.bind (g := fun k t => portolanref12_Close.l0 k s t ((m + 1 : Nat) : Int) f.f0 f.f1 f.f2 f.f3 f.f4) hW h) fun k => ?_
          simp only [portolanref12_Close.l0]
          rw [if_pos hm1, hH, Option.bind_some, if_pos rfl]
          refine congrArg _ (funext fun t => ?_)
          rw [if_pos (Int.natCast_nonneg m), if_neg h2, hw]
      · rw [if_neg hb] at h
        have hb2 : bit s m = false := by simpa using hb
        rw [hb2] at hH
        refine Ev.step h fun k => ?_
        simp only [portolanref12_Close.l0]
        rw [if_pos hm1, hH, Option.bind_some, if_neg (by decide), hw]
  exact Ev.congr (loop f.f0.length 0 (Nat.zero_add _)) fun k => rfl
theorem ROf_ev {f : S30} (hk : KOk f) {s : List Int} (hs : Ok64 s) (q : Int) : Ev (fun k => portolanref12_of.f k f.f0 f.f1 f.f2 f.f3 f.f4 s q) (selL f.f0.length s fun x => rd f.f0 (x : Int) == q) := by
  have hn := hk.len
  have hml : f.f0.length ≤ maxLen := Nat.le_trans hn (by decide)
  have loop : ∀ (d m : Nat), m + d = f.f0.length → Ev (fun k => portolanref12_of.l0 k s q (selL m s fun x => rd f.f0 (x : Int) == q) (m : Int) f.f0 f.f1 f.f2 f.f3 f.f4) (selL f.f0.length s fun x => rd f.f0 (x : Int) == q) := by
    intro d
    induction d with
    | zero =>
      intro m hm
      have e : m = f.f0.length := hm
      subst e
      refine Ev.step (g := fun _ => some _) (Ev.const _) fun k => ?_
      simp only [portolanref12_of.l0]
      rw [if_neg (Int.lt_irrefl _)]
    | succ d ih =>
      intro m hm
      have hml1 : m < f.f0.length := by omega
      have h := ih (m + 1) (by omega)
      have hw : wrap64 ((m : Int) + 1) = ((m + 1 : Nat) : Int) := next_i hml1 hml
      have hH := RHas_gen hs m (by omega)
      have hm1 : (m : Int) < (f.f0.length : Int) := Int.ofNat_lt.mpr hml1
      have hle := selL_len m s fun x => rd f.f0 (x : Int) == q
      have hlen : (selL m s fun x => rd f.f0 (x : Int) == q).length < 17592186044416 := Nat.lt_of_le_of_lt hle (by omega)
      have hs1 : (selL (m + 1) s fun x => rd f.f0 (x : Int) == q) = (selL m s fun x => rd f.f0 (x : Int) == q) ++ (if (bit s m && (rd f.f0 (m : Int) == q)) = true then [(m : Int)] else []) := by
        unfold selL selN
        rw [List.range_succ, List.filter_append, List.map_append]
        congr 1
        by_cases hb : (bit s m && (rd f.f0 (m : Int) == q)) = true
        · rw [if_pos hb, List.filter_cons, if_pos hb]
          rfl
        · rw [if_neg hb, List.filter_cons, if_neg hb]
          rfl
      rw [hs1] at h
      refine Ev.step h fun k => ?_
      simp only [portolanref12_of.l0]
      rw [if_pos hm1, if_pos (Int.natCast_nonneg m), hw]
      by_cases h2 : rd f.f0 (m : Int) = q
      · have e1 : (rd f.f0 (m : Int) == q) = true := beq_iff_eq.mpr h2
        rw [if_pos h2, hH, Option.bind_some, e1, Bool.and_true]
        cases bit s m with
        | true => rw [if_pos rfl, if_pos hlen, if_pos rfl]
        | false => rw [if_neg (by decide), if_neg (by decide), List.append_nil]
      · have e1 : (rd f.f0 (m : Int) == q) = false := beq_eq_false_iff_ne.mpr h2
        rw [if_neg h2, e1, Bool.and_false, if_neg (by decide), List.append_nil]
  exact Ev.congr (loop f.f0.length 0 (Nat.zero_add _)) fun k => rfl
end Go.Proofs.YtdmimhjmbdkhmaaDoor.X
end
section
namespace Go.Proofs.YtdmimhjmbdkhmaaDoor.X
open Go.RowKit Go.Proofs.YtdmimhjmbdkhmaaDoorW.PrintWords
theorem kok_of2 {f : S30} (h : FK f) : KOk f := ⟨h.1, h.2.1, fun u hu => h.2.2 u (Nat.zero_le _) hu⟩
theorem Ints_ev (l : List Int) (hl : l.length ≤ maxLen) : Ev (fun k => portolanref01_Ints.f k l l) true := by
  have loop : ∀ (m i : Nat), i + m = l.length → Ev (fun k => portolanref01_Ints.l0 k l l (i : Int)) true := by
    intro m
    induction m with
    | zero =>
      intro i hi
      refine Ev.step (g := fun _ => some true) (Ev.const _) fun k => ?_
      simp only [portolanref01_Ints.l0]
      rw [if_neg (by omega)]
    | succ m ih =>
      intro i hi
      have hil : i < l.length := by omega
      refine Ev.step (ih (i + 1) (by omega)) fun k => ?_
      simp only [portolanref01_Ints.l0]
      rw [if_pos (Int.ofNat_lt.mpr hil), if_pos (Int.natCast_nonneg i), if_pos (Int.ofNat_lt.mpr hil), if_pos trivial, next_i hil hl]
  refine Ev.congr (loop l.length 0 (Nat.zero_add _)) fun k => ?_
  unfold portolanref01_Ints.f
  rw [if_pos rfl]
  rfl
theorem closeN_twice {f : S30} (hk : KOk f) (s : List Int) : closeN f (enc (closeN f s)) = closeN f s := by
  refine Nat.eq_of_testBit_eq fun v => ?_
  rw [Bool.eq_iff_iff, closeN_bit hk]
  have hC := closeN_lt hk s
  constructor
  · rintro (⟨_, h⟩ | ⟨u, h1, h2, h3, h4⟩)
    · rwa [bit_enc _ hC] at h
    · rw [bit_enc _ hC] at h2
      rcases (closeN_bit hk s u).mp h2 with ⟨_, h5⟩ | ⟨x, h5, h6, h7, h8⟩
      · exact (closeN_bit hk s v).mpr (.inr ⟨u, h1, h5, h3, h4⟩)
      · have h9 := (hk.der x h5 h7).2.2
        rw [h8, h3] at h9
        exact absurd h9 (by decide)
  · intro h
    refine .inl ⟨?_, by rw [bit_enc _ hC]; exact h⟩
    rcases (closeN_bit hk s v).mp h with ⟨h1, _⟩ | ⟨u, h1, h2, h3, h4⟩
    · exact h1
    · have := (hk.der u h1 h3).2.1
      rw [h4] at this
      exact Int.ofNat_lt.mp this
theorem sets_fn (p : List S30) {f : S30} (hk : KOk f) {s : List Int} (hs : Ok64 s) (hl : s.length ≤ 200) (F : Nat → Option Bool) (hF : Ev F true) :
    Ev (fun k => ((keep_Close.f k f.f0 f.f1 f.f2 f.f3 f.f4 s).bind fun t516 => ((portolanref12_Close.f k f.f0 f.f1 f.f2 f.f3 f.f4 s).bind fun t519 => ((portolanref02_Words.f k t516 t519).bind fun t522 => (if t522 = true then ((keep_Close.f k f.f0 f.f1 f.f2 f.f3 f.f4 t516).bind fun t523 => ((portolanref02_Words.f k t523 t516).bind fun t526 => (if t526 = true then ((keep_Refs.f k f.f0 f.f1 f.f2 f.f3 f.f4 s).bind fun t527 => ((portolanref12_Refs.f k f.f0 f.f1 f.f2 f.f3 f.f4 s).bind fun t530 => ((portolanref01_Ints.f k t527 t530).bind fun t533 => (if t533 = true then ((keep_Ders.f k f.f0 f.f1 f.f2 f.f3 f.f4 s).bind fun t534 => ((portolanref12_Ders.f k f.f0 f.f1 f.f2 f.f3 f.f4 s).bind fun t537 => ((portolanref01_Ints.f k t534 t537).bind fun t540 => (if t540 = true then F k else (some false))))) else (some false))))) else (some false)))) else (some false)))))) true := by
  have hC := closeN_lt hk s
  have c1 := Close_ev hk hs hl
  have c2 := RClose_ev hk hs
  have c3 := Words_ev (closeN f s)
  have c4 := Close_ev hk (Ok64.enc hC) (Nat.le_trans (enc_length _) (by decide))
  rw [closeN_twice hk s] at c4
  have r1 : Ev (fun k => keep_Refs.f k f.f0 f.f1 f.f2 f.f3 f.f4 s) (selL f.f0.length s fun x => rd f.f0 (x : Int) == 1) := keepF_ev hs hl _ _
  have r2 := ROf_ev hk hs 1
  have d1 : Ev (fun k => keep_Ders.f k f.f0 f.f1 f.f2 f.f3 f.f4 s) (selL f.f0.length s fun x => rd f.f0 (x : Int) == 2) := keepF_ev hs hl _ _
  have d2 := ROf_ev hk hs 2
  have r2' : Ev (fun k => portolanref12_Refs.f k f.f0 f.f1 f.f2 f.f3 f.f4 s) (selL f.f0.length s fun x => rd f.f0 (x : Int) == 1) := Ev.congr (Ev.bind (g := fun _ t => some t) r2 (Ev.const _)) fun k => rfl
  have d2' : Ev (fun k => portolanref12_Ders.f k f.f0 f.f1 f.f2 f.f3 f.f4 s) (selL f.f0.length s fun x => rd f.f0 (x : Int) == 2) := Ev.congr (Ev.bind (g := fun _ t => some t) d2 (Ev.const _)) fun k => rfl
  have i1 := Ints_ev _ (Nat.le_trans (selL_len f.f0.length s fun x => rd f.f0 (x : Int) == 1) (Nat.le_trans hk.len (by decide)))
  have i2 := Ints_ev _ (Nat.le_trans (selL_len f.f0.length s fun x => rd f.f0 (x : Int) == 2) (Nat.le_trans hk.len (by decide)))
  obtain ⟨k1, c1⟩ := c1
  obtain ⟨k2, c2⟩ := c2
  obtain ⟨k3, c3⟩ := c3
  obtain ⟨k4, c4⟩ := c4
  obtain ⟨k5, r1⟩ := r1
  obtain ⟨k6, r2'⟩ := r2'
  obtain ⟨k7, i1⟩ := i1
  obtain ⟨k8, d1⟩ := d1
  obtain ⟨k9, d2'⟩ := d2'
  obtain ⟨k10, i2⟩ := i2
  obtain ⟨k11, hF⟩ := hF
  clear r2 d2
  refine ⟨k1 + k2 + k3 + k4 + k5 + k6 + k7 + k8 + k9 + k10 + k11, fun k hkk => ?_⟩
  have a1 := c1 k (by omega)
  have a2 := c2 k (by omega)
  have a3 := c3 k (by omega)
  have a4 := c4 k (by omega)
  have a5 := r1 k (by omega)
  have a6 := r2' k (by omega)
  have a7 := i1 k (by omega)
  have a8 := d1 k (by omega)
  have a9 := d2' k (by omega)
  have a10 := i2 k (by omega)
  have a11 := hF k (by omega)
  dsimp only at a1 a2 a3 a4 a5 a6 a7 a8 a9 a10 ⊢
  rw [a1, Option.bind_some, a2, Option.bind_some, a3, Option.bind_some, if_pos rfl, a4, Option.bind_some, a3, Option.bind_some, if_pos rfl, a5, Option.bind_some, a6, Option.bind_some, a7, Option.bind_some, if_pos rfl, a8, Option.bind_some, a9, Option.bind_some, a10, Option.bind_some, if_pos rfl, a11]
theorem KeepSetsPure (l : List S30) (s : List Int) (hm : l.length ≤ maxLen) (hG : ∀ x ∈ l, GFn x) (hs : Ok64 s) : ∃ k, portolanlaw12_KeepSets.f k l s = some true := by
  have hal : Ev (fun k => portolanlaw12_alive.f k) true := Ev.of_mono (fun k => portolanlaw12_alive.mono k) 90 (by decide +kernel)
  obtain ⟨o, ho, hsn⟩ := out_ev l hm hG
  have jt : Ev (fun k => portolanlaw12_KeepSets.j0 k s true l) true := Ev.step (g := fun _ => some true) (Ev.const _) fun k => by
    simp only [portolanlaw12_KeepSets.j0]
    rw [if_pos trivial]
  have rest : Ev (fun k => if o = true then portolanlaw12_KeepSets.j0 k s true l else portolanlaw12_KeepSets.j0 k s (decide ((s.length : Int) > 70)) l) true := by
    cases o with
    | true => exact Ev.congr jt fun k => by rw [if_pos rfl]
    | false =>
      by_cases hk : (s.length : Int) > 70
      · exact Ev.congr jt fun k => by rw [if_neg (by decide), decide_eq_true hk]
      have hseen := hsn rfl
      have loop : ∀ (m n : Nat), n + m = l.length → Ev (fun k => portolanlaw12_KeepSets.l0 k s (n : Int) l) true := by
        intro m
        induction m with
        | zero =>
          intro n hn
          refine Ev.step (g := fun _ => some true) (Ev.const _) fun k => ?_
          simp only [portolanlaw12_KeepSets.l0]
          rw [if_neg (by omega)]
        | succ m ih =>
          intro n hn
          have hl : n < l.length := by omega
          have hr := rd_T30_of l n hl
          have hnn : wrap64 ((n : Int) + 1) = ((n + 1 : Nat) : Int) := next_i hl hm
          have hok := kok_of2 (hseen n (Nat.zero_le _) hl).1
          refine Ev.step (sets_fn l hok hs (by omega) (fun k => portolanlaw12_KeepSets.l0 k s (wrap64 ((n : Int) + 1)) l) (by rw [hnn]; exact ih (n + 1) (by omega))) fun k => ?_
          simp only [portolanlaw12_KeepSets.l0]
          rw [if_pos (by omega), if_pos (by omega), hr]
      refine Ev.step (g := fun k => portolanlaw12_KeepSets.l0 k s 0 l) (loop l.length 0 (by omega)) fun k => ?_
      rw [if_neg (by decide), decide_eq_false hk]
      simp only [portolanlaw12_KeepSets.j0]
      rw [if_neg (by decide)]
  exact Ev.get (Ev.congr (Ev.bind (g := fun k t501 => (if t501 = true then ((portolanlaw12_out.f k l).bind fun t502 => (if t502 = true then (portolanlaw12_KeepSets.j0 k s true l) else (portolanlaw12_KeepSets.j0 k s (decide ((s.length : Int) > 70)) l))) else (some false))) hal (Ev.congr (Ev.bind (g := fun k t502 => (if t502 = true then (portolanlaw12_KeepSets.j0 k s true l) else (portolanlaw12_KeepSets.j0 k s (decide ((s.length : Int) > 70)) l))) ho rest) fun k => by rw [if_pos rfl])) fun k => rfl)
end Go.Proofs.YtdmimhjmbdkhmaaDoor.X
end
