/- The law DepgraphCyclesExplainFailures holds: for every input that can be read as data the call returns true, and each argument reads afterwards as it read before. -/
import Derived.Test.YtffcaglfcnmhdaaCDepgraphCyclesExplainFailures10
import Derived.Test.YtffcaglfcnmhdaaRows
import Derived.ShutString
import Derived.ChangeOld
section
namespace Go.Proofs.Ytffcaglfcnmhdaa.depgraphCyclesExplainFailures
open Go.ChangeShapes Go.WideShapes Go.ChangeAt Go.RowKit
open Go.ChangeMaps (open_string shut_string)
open Go.Proofs.YtffcaglfcnmhdaaW.PrintWords Go.Proofs.YtffcaglfcnmhdaaW.PrintLast Go.Proofs.YtffcaglfcnmhdaaW.PrintMore Go.Proofs.Ytffcaglfcnmhdaa.H
set_option linter.unusedVariables false
theorem own : ownKnob Try.prog.godebug = none := by kernel_rfl
theorem laidOut : laidOutB Try.prog = true := by kernel_rfl
set_option maxRecDepth 100000 in
theorem lifted (os : Os) (started : os.Started) (H : Type) (enc : TypeId × Value → H) :
    ReturnsInHanded {} Try.checked os 6 .any (Rows.depgraphCyclesExplainFailuresSpec.pre6 enc Try.prog Try.f6 Rows.depgraphCyclesExplainFailuresRow.domain false) (Rows.depgraphCyclesExplainFailuresSpec.post enc Try.prog Try.f6 false true false false) := by
  refine returnsInHanded_of_change_sized (C := Try.checked) own started (by kernel_rfl) Try.func6
    (ChangeSpec.witness6 (enc := enc) (C := Try.checked) false ⟨#[], #[.slice none 0 0], []⟩ 8 (by kernel_rfl) (by kernel_rfl) (by kernel_rfl) (by kernel_rfl)) ?_
  intro W base args ds gs before hval0 hW hcnd hsz0 _
  have hsz : (DataW.weightsEach Try.prog (Try.f6.params.toList ++ Rows.depgraphCyclesExplainFailuresSpec.plain.varTypes Try.prog) (ds ++ gs)).all (· ≤ reachBytes) = true := hsz0
  have hval : ∀ (j : Nat) t v, Try.f6.params[j]? = some t → args[j]? = some v → Value.okWide Try.prog W .any base t v := hval0
  have hW' := hW
  obtain ⟨p, q, hA0, hV, rfl, hfz, hnd⟩ := hW
  have hA : DataW.TrodAll enc Try.prog W 0 (fun _ => true) true Try.f6.params.toList args.toList ds p := hA0
  rw [Try.params6] at hA hval hsz
  obtain ⟨v0, vs0, d0, ds0, p0, q0, hargs, rfl, rfl, h0, r0⟩ := trodAll_cons hA
  obtain ⟨rfl, rfl, rfl⟩ := trodAll_nil r0
  obtain rfl : args = #[v0] := by cases args; simp_all
  obtain ⟨rfl, rfl⟩ := trodVars_none hV
  obtain ⟨a0, len0, cap0, rfl⟩ := okWide_slice Try.underlying22 (hval 0 22 v0 rfl rfl)
  have k0 := h0
  have lt0 : ∀ x ∈ p0, x.block < W.heap.size := by obtain ⟨m, hm⟩ := k0; exact DataW.trod_lt m _ _ _ hm
  have y0 : len0 * 24 ≤ 140737488351232 := sized_any hsz (j := 0) (t := 22) rfl rfl Try.underlying22 (by kernel_rfl) h0
  obtain ⟨l0, A0, c0, rfl, rfl, rfl, hc0, hr0, w0⟩ : ∃ l A c, a0 = A ∧ len0 = List.length l ∧ cap0 = c ∧ List.length l ≤ c ∧ Kd.C (Kd.slice 3 (Kd.int .i64)) W A (List.length l) l ∧ l.length ≤ 9223372036854775807 ∧ ∀ x_ ∈ l, x_.length ≤ 9223372036854775807 ∧ ∀ x__ ∈ x_, (Lit.int .i64 x__).wf = true := by
    obtain ⟨fuel, hf⟩ := h0
    obtain ⟨l, ⟨A, c, he, hc, hr⟩, hF⟩ := (opens_slice (opens_slice (opens_int Try.underlying3 (by kernel_rfl)) Try.underlying23 (by kernel_rfl)) Try.underlying22 (by kernel_rfl)).get hf
    simp [Value.cells] at he
    obtain ⟨rfl, rfl, rfl⟩ := he
    exact ⟨l, _, _, rfl, rfl, rfl, hc, hr, hF⟩
  clear hA0 hval0 hsz0 hsz
  obtain ⟨k, hk⟩ := Go.Proofs.Ytffcaglfcnmhdaa.H.pf_DepgraphCyclesExplainFailures _ w0 y0
  refine (changeforgelaw6_DepgraphCyclesExplainFailures.calls k _ _ l0 true W hr0 hc0 hk).mono fun e W' ⟨he, bel0⟩ => ?_
  have bel : Below W.heap.size W W' := bel0
  subst he
  exact ⟨_, rfl, _, _, _, [], _, [], hW', trodAll_mk1 (shut_bool Try.underlying4 _), (trodAll_cons_mk (Below.trod laidOut (by kernel_rfl) (of_decide_eq_true (by kernel_rfl)) k0 bel lt0) trodAll_mk0), rfl, bel.frame _, fun h => by cases h⟩
theorem over : Rows.depgraphCyclesExplainFailuresRow.holds Try.pinned (OpenSpec.ofChange Rows.depgraphCyclesExplainFailuresSpec) :=
  OpenClaim.holds_of_wide 6 Try.f6 rfl rfl rfl rfl rfl rfl rfl ⟨rfl, rfl, rfl, rfl, rfl⟩ rfl rfl rfl rfl rfl (by kernel_rfl) Try.func6 (by kernel_rfl)
    (of_decide_eq_true (by kernel_rfl)) (by unfold Func.isWrapper; first | (rw [if_pos (by decide +kernel)]; kernel_rfl) | (rw [if_neg (by decide +kernel)]; exact ⟨rfl, rfl⟩))
    (fun os started H enc _ => lifted os started H enc)
theorem proved : Rows.DepgraphCyclesExplainFailuresSaid := over
end Go.Proofs.Ytffcaglfcnmhdaa.depgraphCyclesExplainFailures
namespace Go.Proofs.Ytffcaglfcnmhdaa
/-- The row, under a short name, for the claim. -/
theorem depgraphCyclesExplainFailures_holds : Rows.DepgraphCyclesExplainFailuresSaid := depgraphCyclesExplainFailures.proved
end Go.Proofs.Ytffcaglfcnmhdaa
end
#print axioms Go.Proofs.Ytffcaglfcnmhdaa.depgraphCyclesExplainFailures_holds
