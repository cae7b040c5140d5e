/- Part of a proof about the Go function named in the last text of this claim. -/
import Derived.Test.YtdmimhjmbdkhmaaDoorZp
import Derived.WalkKit
import Derived.ProofKit
import Derived.OpenShut
import Derived.ChangeOld
import Derived.Below
import Derived.SizedLaws
set_option linter.unusedVariables false
set_option linter.unusedSimpArgs false
/- The row of LiveOuts, out of its pure statement and its walk. -/
set_option linter.unusedVariables false
namespace Go.Proofs.YtdmimhjmbdkhmaaDoor.X
open Go.ChangeShapes Go.WideShapes Go.ChangeAt Go.RowKit
theorem laidOut : laidOutB Tryd.prog = true := by kernel_rfl
theorem laid_row (os : Os) (args : Array Value) : ((laidWorld os).forCall (fun _ _ => 0) ⟨#[], args, []⟩).memory.heap[1]? = some (.cells partsCells 105 (0, 0)) := by kernel_rfl
theorem laid_met (os : Os) (args : Array Value) : laidMet Tryd.prog [("portolan/code.parts", Rows.laid_portolan_code_parts)] ((laidWorld os).forCall (fun _ _ => 0) ⟨#[], args, []⟩).memory := by
  have hv : ((laidWorld os).forCall (fun _ _ => 0) ⟨#[], args, []⟩).memory.var? Tryd.prog "portolan/code.parts" = some partsCells := by kernel_rfl
  refine ⟨_, ⟨1, 105, partsCells, 8, [], [], by kernel_rfl, by kernel_rfl, hv, by kernel_rfl, rfl, rfl⟩, by decide, fun b off h => ?_⟩
  have hb : b = 1 ∧ off < 24 := by
    have hs : partsCells.size = 24 := rfl
    rw [hs] at h
    unfold MemPlace.row at h
    simp at h
    omega
  obtain ⟨rfl, ho⟩ := hb
  refine ⟨⟨_, _, laid_row os args⟩, fun u v hc => ?_⟩
  rw [World.var?_cell partsG hv off] at hc
  have hm := Array.mem_of_getElem? hc
  simp [partsCells] at hm
set_option maxRecDepth 100000 in
theorem liveOuts_lifted (os : Os) (started : os.Started) (H : Type) (enc : TypeId × Value → H) :
    ReturnsInHanded {} Tryd.checked os 3 .any (fun w args => (Rows.liveOutsSpec.pre enc Tryd.prog Tryd.f3 Rows.liveOutsRow.domain false w args ∧ laidMet Tryd.prog [("portolan/code.parts", Rows.laid_portolan_code_parts)] w) ∧ sizedMet enc Tryd.prog Tryd.f3 (OpenSpec.ofChange Rows.liveOutsSpec) false w args)
      (Rows.liveOutsSpec.post enc Tryd.prog Tryd.f3 false true false false) := by
  refine returnsInHanded_of_change_and (C := Tryd.checked) (X := fun w _ => laidMet Tryd.prog [("portolan/code.parts", Rows.laid_portolan_code_parts)] w) (fun _ _ _ hh h => h.of_heap hh) own started (by kernel_rfl) Tryd.func3
    (ChangeSpec.witness_at (enc := enc) (C := Tryd.checked) (os := os) (X := fun w _ => laidMet Tryd.prog [("portolan/code.parts", Rows.laid_portolan_code_parts)] w) false (laidWorld os) #[.agg #[.slice none 0 0]] 8 rfl (by kernel_rfl) (by kernel_rfl) (by kernel_rfl) (by kernel_rfl) (by kernel_rfl) (laid_met os _)) ?_
  intro W base args ds gs before hval0 hW hcnd hsz0 hL _
  have hsz : (DataW.weightsEach Tryd.prog (Tryd.f3.params.toList ++ Rows.liveOutsSpec.plain.varTypes Tryd.prog) (ds ++ gs)).all (· ≤ reachBytes) = true := hsz0
  have hval : ∀ (j : Nat) t v, Tryd.f3.params[j]? = some t → args[j]? = some v → Value.okWide Tryd.prog W .any base t v := hval0
  have hW' := hW
  obtain ⟨p, q, hA0, hV, rfl, hfz, hnd⟩ := hW
  have hA : DataW.TrodAll enc Tryd.prog W 0 (fun _ => true) true Tryd.f3.params.toList args.toList ds p := hA0
  rw [Tryd.params3] at hA hval hsz
  obtain ⟨v0, vs0, d0, ds0, p0, q0, hargs, rfl, rfl, h0, r0⟩ := trodAll_cons hA
  obtain ⟨rfl, rfl, rfl⟩ := trodAll_nil r0
  obtain rfl : args = #[v0] := by cases args; simp_all
  obtain ⟨rfl, rfl⟩ := trodVars_none hV
  have k0 := h0
  have lt0 : ∀ x ∈ p0, x.block < W.heap.size := by
    obtain ⟨m, hm⟩ := k0
    exact DataW.trod_lt m _ _ _ hm
  have hw0 : (d0.weights Tryd.prog 24).all (· ≤ reachBytes) = true := by
    have h1 : (DataW.weightsEach Tryd.prog [24] [d0]).all (· ≤ reachBytes) = true := hsz
    simp only [DataW.weightsEach, List.append_nil] at h1
    exact h1
  obtain ⟨A, c, l, rfl, hl, hC, hm, hG⟩ := open_prog (hval 0 24 v0 rfl rfl) h0 hw0
  clear hA0 hval0 hsz0 hsz
  obtain ⟨k, hp⟩ := LiveOutsPure l hm hG
  refine (portolanlaw11_LiveOuts.calls k A c l true W (GG_of_laid hL) hC hl hp).mono ?_
  rintro e W' ⟨he, bel⟩
  subst he
  exact ⟨_, rfl, _, _, _, [], _, [], hW', trodAll_mk1 (shut_bool Tryd.underlying4 _), (trodAll_cons_mk (Below.trod laidOut (by kernel_rfl) (of_decide_eq_true (by kernel_rfl)) k0 bel lt0) trodAll_mk0), rfl, bel.frame _, fun h => by cases h⟩
theorem liveOuts_over : Rows.LiveOutsSaid :=
  OpenClaim.holds_of_wide 3 Tryd.f3 rfl rfl rfl rfl rfl rfl rfl ⟨rfl, rfl, rfl, rfl, rfl⟩ rfl rfl rfl rfl rfl (by kernel_rfl) Tryd.func3 (by kernel_rfl)
    (of_decide_eq_true (by kernel_rfl)) (by unfold Func.isWrapper; first | (rw [if_pos (by decide +kernel)]; kernel_rfl) | (rw [if_neg (by decide +kernel)]; exact ⟨rfl, rfl⟩))
    (fun os started H enc _ => liveOuts_lifted os started H enc)
end Go.Proofs.YtdmimhjmbdkhmaaDoor.X
