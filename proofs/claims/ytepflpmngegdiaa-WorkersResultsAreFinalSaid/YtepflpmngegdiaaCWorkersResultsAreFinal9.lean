/- The law WorkersResultsAreFinal holds: for every input that can be read as data the call returns true, and each argument reads afterwards as it read before. -/
import Derived.Test.YtepflpmngegdiaaCWorkersResultsAreFinal8
import Derived.Test.YtepflpmngegdiaaRows
import Derived.ShutString
import Derived.ChangeOld
section
namespace Go.Proofs.Ytepflpmngegdiaa.workersResultsAreFinal
open Go.ChangeShapes Go.WideShapes Go.ChangeAt Go.RowKit
open Go.ChangeMaps (open_string shut_string)
open Go.Proofs.YtepflpmngegdiaaW.PrintWords Go.Proofs.YtepflpmngegdiaaW.PrintLast Go.Proofs.YtepflpmngegdiaaW.PrintMore Go.Proofs.Ytepflpmngegdiaa.H
set_option linter.unusedVariables false
theorem own : ownKnob Try.prog.godebug = none := by kernel_rfl
theorem laidOut : laidOutB Try.prog = true := by kernel_rfl
set_option maxRecDepth 100000 in
theorem lifted (os : Os) (started : os.Started) (H : Type) (enc : TypeId × Value → H) :
    ReturnsInHanded {} Try.checked os 7 .any (Rows.workersResultsAreFinalSpec.pre6 enc Try.prog Try.f7 Rows.workersResultsAreFinalRow.domain false) (Rows.workersResultsAreFinalSpec.post enc Try.prog Try.f7 false true false false) := by
  refine returnsInHanded_of_change_sized (C := Try.checked) own started (by kernel_rfl) Try.func7
    (ChangeSpec.witness6 (enc := enc) (C := Try.checked) false ⟨#[], #[.int .i64 0, .int .i64 0, .int .i64 0, .slice none 0 0, .slice none 0 0, .int .i64 0], []⟩ 8 (by kernel_rfl) (by kernel_rfl) (by kernel_rfl) (by kernel_rfl)) ?_
  intro W base args ds gs before hval0 hW hcnd hsz0 _
  have hsz : (DataW.weightsEach Try.prog (Try.f7.params.toList ++ Rows.workersResultsAreFinalSpec.plain.varTypes Try.prog) (ds ++ gs)).all (· ≤ reachBytes) = true := hsz0
  have hval : ∀ (j : Nat) t v, Try.f7.params[j]? = some t → args[j]? = some v → Value.okWide Try.prog W .any base t v := hval0
  have hW' := hW
  obtain ⟨p, q, hA0, hV, rfl, hfz, hnd⟩ := hW
  have hA : DataW.TrodAll enc Try.prog W 0 (fun _ => true) true Try.f7.params.toList args.toList ds p := hA0
  rw [Try.params7] at hA hval hsz
  obtain ⟨v0, vs0, d0, ds0, p0, q0, hargs, rfl, rfl, h0, r0⟩ := trodAll_cons hA
  obtain ⟨v1, vs1, d1, ds1, p1, q1, rfl, rfl, rfl, h1, r1⟩ := trodAll_cons r0
  obtain ⟨v2, vs2, d2, ds2, p2, q2, rfl, rfl, rfl, h2, r2⟩ := trodAll_cons r1
  obtain ⟨v3, vs3, d3, ds3, p3, q3, rfl, rfl, rfl, h3, r3⟩ := trodAll_cons r2
  obtain ⟨v4, vs4, d4, ds4, p4, q4, rfl, rfl, rfl, h4, r4⟩ := trodAll_cons r3
  obtain ⟨v5, vs5, d5, ds5, p5, q5, rfl, rfl, rfl, h5, r5⟩ := trodAll_cons r4
  obtain ⟨rfl, rfl, rfl⟩ := trodAll_nil r5
  obtain rfl : args = #[v0, v1, v2, v3, v4, v5] := by cases args; simp_all
  obtain ⟨rfl, rfl⟩ := trodVars_none hV
  obtain ⟨a0, rfl, rfl, rfl, w0⟩ := open_int Try.underlying3 (hval 0 3 v0 rfl rfl) h0
  obtain ⟨a1, rfl, rfl, rfl, w1⟩ := open_int Try.underlying3 (hval 1 3 v1 rfl rfl) h1
  obtain ⟨a2, rfl, rfl, rfl, w2⟩ := open_int Try.underlying3 (hval 2 3 v2 rfl rfl) h2
  obtain ⟨a3, len3, cap3, rfl⟩ := okWide_slice Try.underlying22 (hval 3 22 v3 rfl rfl)
  have k3 := h3
  have lt3 : ∀ x ∈ p3, x.block < W.heap.size := by obtain ⟨m, hm⟩ := k3; exact DataW.trod_lt m _ _ _ hm
  have y3 : len3 * 32 ≤ 140737488351232 := sized_any hsz (j := 3) (t := 22) rfl rfl Try.underlying22 (by kernel_rfl) h3
  obtain ⟨l3, A3, c3, rfl, rfl, rfl, hc3, hr3, w3⟩ : ∃ l A c, a3 = A ∧ len3 = List.length l ∧ cap3 = c ∧ List.length l ≤ c ∧ Kd.C k44 W A (List.length l) l ∧ l.length ≤ 9223372036854775807 ∧ ∀ x_ ∈ l, Fit_T44 x_ := by
    obtain ⟨fuel, hf⟩ := h3
    obtain ⟨l, ⟨A, c, he, hc, hr⟩, hF⟩ := (opens_slice op_T44 Try.underlying22 (by kernel_rfl)).get hf
    simp [Value.cells] at he
    obtain ⟨rfl, rfl, rfl⟩ := he
    exact ⟨l, _, _, rfl, rfl, rfl, hc, hr, hF⟩
  obtain ⟨a4, len4, cap4, rfl⟩ := okWide_slice Try.underlying22 (hval 4 22 v4 rfl rfl)
  have k4 := h4
  have lt4 : ∀ x ∈ p4, x.block < W.heap.size := by obtain ⟨m, hm⟩ := k4; exact DataW.trod_lt m _ _ _ hm
  have y4 : len4 * 32 ≤ 140737488351232 := sized_any hsz (j := 4) (t := 22) rfl rfl Try.underlying22 (by kernel_rfl) h4
  obtain ⟨l4, A4, c4, rfl, rfl, rfl, hc4, hr4, w4⟩ : ∃ l A c, a4 = A ∧ len4 = List.length l ∧ cap4 = c ∧ List.length l ≤ c ∧ Kd.C k44 W A (List.length l) l ∧ l.length ≤ 9223372036854775807 ∧ ∀ x_ ∈ l, Fit_T44 x_ := by
    obtain ⟨fuel, hf⟩ := h4
    obtain ⟨l, ⟨A, c, he, hc, hr⟩, hF⟩ := (opens_slice op_T44 Try.underlying22 (by kernel_rfl)).get hf
    simp [Value.cells] at he
    obtain ⟨rfl, rfl, rfl⟩ := he
    exact ⟨l, _, _, rfl, rfl, rfl, hc, hr, hF⟩
  obtain ⟨a5, rfl, rfl, rfl, w5⟩ := open_int Try.underlying3 (hval 5 3 v5 rfl rfl) h5
  clear hA0 hval0 hsz0 hsz
  obtain ⟨k, hk⟩ := Go.Proofs.Ytepflpmngegdiaa.H.pf_WorkersResultsAreFinal _ _ _ _ _ _ w0 w1 w2 w3 y3 w4 y4 w5
  refine (changeforgelaw6_WorkersResultsAreFinal.calls k a0 a1 a2 _ _ l3 _ _ l4 a5 true W hr3 hc3 hr4 hc4 hk).mono fun e W' ⟨he, bel0⟩ => ?_
  have bel : Below W.heap.size W W' := bel0
  subst he
  exact ⟨_, rfl, _, _, _, [], _, [], hW', trodAll_mk1 (shut_bool Try.underlying4 _), (trodAll_cons_mk (shut_int Try.underlying3 w0) (trodAll_cons_mk (shut_int Try.underlying3 w1) (trodAll_cons_mk (shut_int Try.underlying3 w2) (trodAll_cons_mk (Below.trod laidOut (by kernel_rfl) (of_decide_eq_true (by kernel_rfl)) k3 bel lt3) (trodAll_cons_mk (Below.trod laidOut (by kernel_rfl) (of_decide_eq_true (by kernel_rfl)) k4 bel lt4) (trodAll_cons_mk (shut_int Try.underlying3 w5) trodAll_mk0)))))), rfl, bel.frame _, fun h => by cases h⟩
theorem over : Rows.workersResultsAreFinalRow.holds Try.pinned (OpenSpec.ofChange Rows.workersResultsAreFinalSpec) :=
  OpenClaim.holds_of_wide 7 Try.f7 rfl rfl rfl rfl rfl rfl rfl ⟨rfl, rfl, rfl, rfl, rfl⟩ rfl rfl rfl rfl rfl (by kernel_rfl) Try.func7 (by kernel_rfl)
    (of_decide_eq_true (by kernel_rfl)) (by unfold Func.isWrapper; first | (rw [if_pos (by decide +kernel)]; kernel_rfl) | (rw [if_neg (by decide +kernel)]; exact ⟨rfl, rfl⟩))
    (fun os started H enc _ => lifted os started H enc)
theorem proved : Rows.WorkersResultsAreFinalSaid := over
end Go.Proofs.Ytepflpmngegdiaa.workersResultsAreFinal
namespace Go.Proofs.Ytepflpmngegdiaa
/-- The row, under a short name, for the claim. -/
theorem workersResultsAreFinal_holds : Rows.WorkersResultsAreFinalSaid := workersResultsAreFinal.proved
end Go.Proofs.Ytepflpmngegdiaa
end
#print axioms Go.Proofs.Ytepflpmngegdiaa.workersResultsAreFinal_holds
