/- The law DepgraphAffectedIsAClosure holds: for every input that can be read as data the call returns true, and each argument reads afterwards as it read before. -/
import Derived.Test.YtffcaglfcnmhdaaCDepgraphAffectedIsAClosure10
import Derived.Test.YtffcaglfcnmhdaaRows
import Derived.ShutString
import Derived.ChangeOld
section
namespace Go.Proofs.Ytffcaglfcnmhdaa.depgraphAffectedIsAClosure
open Go.ChangeShapes Go.WideShapes Go.ChangeAt Go.RowKit
open Go.ChangeMaps (open_string shut_string)
open Go.Proofs.YtffcaglfcnmhdaaW.PrintWords Go.Proofs.YtffcaglfcnmhdaaW.PrintLast Go.Proofs.YtffcaglfcnmhdaaW.PrintMore Go.Proofs.Ytffcaglfcnmhdaa.H
set_option linter.unusedVariables false
theorem own : ownKnob Try.prog.godebug = none := by kernel_rfl
theorem laidOut : laidOutB Try.prog = true := by kernel_rfl
set_option maxRecDepth 100000 in
theorem lifted (os : Os) (started : os.Started) (H : Type) (enc : TypeId × Value → H) :
    ReturnsInHanded {} Try.checked os 7 .any (Rows.depgraphAffectedIsAClosureSpec.pre6 enc Try.prog Try.f7 Rows.depgraphAffectedIsAClosureRow.domain false) (Rows.depgraphAffectedIsAClosureSpec.post enc Try.prog Try.f7 false true false false) := by
  refine returnsInHanded_of_change_sized (C := Try.checked) own started (by kernel_rfl) Try.func7
    (ChangeSpec.witness6 (enc := enc) (C := Try.checked) false ⟨#[], #[.slice none 0 0, .slice none 0 0, .slice none 0 0], []⟩ 8 (by kernel_rfl) (by kernel_rfl) (by kernel_rfl) (by kernel_rfl)) ?_
  intro W base args ds gs before hval0 hW hcnd hsz0 _
  have hsz : (DataW.weightsEach Try.prog (Try.f7.params.toList ++ Rows.depgraphAffectedIsAClosureSpec.plain.varTypes Try.prog) (ds ++ gs)).all (· ≤ reachBytes) = true := hsz0
  have hval : ∀ (j : Nat) t v, Try.f7.params[j]? = some t → args[j]? = some v → Value.okWide Try.prog W .any base t v := hval0
  have hW' := hW
  obtain ⟨p, q, hA0, hV, rfl, hfz, hnd⟩ := hW
  have hA : DataW.TrodAll enc Try.prog W 0 (fun _ => true) true Try.f7.params.toList args.toList ds p := hA0
  rw [Try.params7] at hA hval hsz
  obtain ⟨v0, vs0, d0, ds0, p0, q0, hargs, rfl, rfl, h0, r0⟩ := trodAll_cons hA
  obtain ⟨v1, vs1, d1, ds1, p1, q1, rfl, rfl, rfl, h1, r1⟩ := trodAll_cons r0
  obtain ⟨v2, vs2, d2, ds2, p2, q2, rfl, rfl, rfl, h2, r2⟩ := trodAll_cons r1
  obtain ⟨rfl, rfl, rfl⟩ := trodAll_nil r2
  obtain rfl : args = #[v0, v1, v2] := by cases args; simp_all
  obtain ⟨rfl, rfl⟩ := trodVars_none hV
  obtain ⟨a0, len0, cap0, rfl⟩ := okWide_slice Try.underlying22 (hval 0 22 v0 rfl rfl)
  have k0 := h0
  have lt0 : ∀ x ∈ p0, x.block < W.heap.size := by obtain ⟨m, hm⟩ := k0; exact DataW.trod_lt m _ _ _ hm
  have y0 : len0 * 24 ≤ 140737488351232 := sized_any hsz (j := 0) (t := 22) rfl rfl Try.underlying22 (by kernel_rfl) h0
  obtain ⟨l0, A0, c0, rfl, rfl, rfl, hc0, hr0, w0⟩ : ∃ l A c, a0 = A ∧ len0 = List.length l ∧ cap0 = c ∧ List.length l ≤ c ∧ Kd.C (Kd.slice 3 (Kd.int .i64)) W A (List.length l) l ∧ l.length ≤ 9223372036854775807 ∧ ∀ x_ ∈ l, x_.length ≤ 9223372036854775807 ∧ ∀ x__ ∈ x_, (Lit.int .i64 x__).wf = true := by
    obtain ⟨fuel, hf⟩ := h0
    obtain ⟨l, ⟨A, c, he, hc, hr⟩, hF⟩ := (opens_slice (opens_slice (opens_int Try.underlying3 (by kernel_rfl)) Try.underlying23 (by kernel_rfl)) Try.underlying22 (by kernel_rfl)).get hf
    simp [Value.cells] at he
    obtain ⟨rfl, rfl, rfl⟩ := he
    exact ⟨l, _, _, rfl, rfl, rfl, hc, hr, hF⟩
  obtain ⟨a1, len1, cap1, rfl⟩ := okWide_slice Try.underlying23 (hval 1 23 v1 rfl rfl)
  have k1 := h1
  have lt1 : ∀ x ∈ p1, x.block < W.heap.size := by obtain ⟨m, hm⟩ := k1; exact DataW.trod_lt m _ _ _ hm
  have y1 : len1 * 8 ≤ 140737488351232 := sized_any hsz (j := 1) (t := 23) rfl rfl Try.underlying23 (by kernel_rfl) h1
  obtain ⟨l1, A1, c1, rfl, rfl, rfl, hc1, hr1, w1⟩ : ∃ l A c, a1 = A ∧ len1 = List.length l ∧ cap1 = c ∧ List.length l ≤ c ∧ Kd.C (Kd.int .i64) W A (List.length l) l ∧ l.length ≤ 9223372036854775807 ∧ ∀ x_ ∈ l, (Lit.int .i64 x_).wf = true := by
    obtain ⟨fuel, hf⟩ := h1
    obtain ⟨l, ⟨A, c, he, hc, hr⟩, hF⟩ := (opens_slice (opens_int Try.underlying3 (by kernel_rfl)) Try.underlying23 (by kernel_rfl)).get hf
    simp [Value.cells] at he
    obtain ⟨rfl, rfl, rfl⟩ := he
    exact ⟨l, _, _, rfl, rfl, rfl, hc, hr, hF⟩
  obtain ⟨a2, len2, cap2, rfl⟩ := okWide_slice Try.underlying23 (hval 2 23 v2 rfl rfl)
  have k2 := h2
  have lt2 : ∀ x ∈ p2, x.block < W.heap.size := by obtain ⟨m, hm⟩ := k2; exact DataW.trod_lt m _ _ _ hm
  have y2 : len2 * 8 ≤ 140737488351232 := sized_any hsz (j := 2) (t := 23) rfl rfl Try.underlying23 (by kernel_rfl) h2
  obtain ⟨l2, A2, c2, rfl, rfl, rfl, hc2, hr2, w2⟩ : ∃ l A c, a2 = A ∧ len2 = List.length l ∧ cap2 = c ∧ List.length l ≤ c ∧ Kd.C (Kd.int .i64) W A (List.length l) l ∧ l.length ≤ 9223372036854775807 ∧ ∀ x_ ∈ l, (Lit.int .i64 x_).wf = true := by
    obtain ⟨fuel, hf⟩ := h2
    obtain ⟨l, ⟨A, c, he, hc, hr⟩, hF⟩ := (opens_slice (opens_int Try.underlying3 (by kernel_rfl)) Try.underlying23 (by kernel_rfl)).get hf
    simp [Value.cells] at he
    obtain ⟨rfl, rfl, rfl⟩ := he
    exact ⟨l, _, _, rfl, rfl, rfl, hc, hr, hF⟩
  clear hA0 hval0 hsz0 hsz
  obtain ⟨k, hk⟩ := Go.Proofs.Ytffcaglfcnmhdaa.H.pf_DepgraphAffectedIsAClosure _ _ _ w0 y0 w1 y1 w2 y2
  refine (changeforgelaw6_DepgraphAffectedIsAClosure.calls k _ _ l0 _ _ l1 _ _ l2 true W hr0 hc0 hr1 hc1 hr2 hc2 hk).mono fun e W' ⟨he, bel0⟩ => ?_
  have bel : Below W.heap.size W W' := bel0
  subst he
  exact ⟨_, rfl, _, _, _, [], _, [], hW', trodAll_mk1 (shut_bool Try.underlying4 _), (trodAll_cons_mk (Below.trod laidOut (by kernel_rfl) (of_decide_eq_true (by kernel_rfl)) k0 bel lt0) (trodAll_cons_mk (Below.trod laidOut (by kernel_rfl) (of_decide_eq_true (by kernel_rfl)) k1 bel lt1) (trodAll_cons_mk (Below.trod laidOut (by kernel_rfl) (of_decide_eq_true (by kernel_rfl)) k2 bel lt2) trodAll_mk0))), rfl, bel.frame _, fun h => by cases h⟩
theorem over : Rows.depgraphAffectedIsAClosureRow.holds Try.pinned (OpenSpec.ofChange Rows.depgraphAffectedIsAClosureSpec) :=
  OpenClaim.holds_of_wide 7 Try.f7 rfl rfl rfl rfl rfl rfl rfl ⟨rfl, rfl, rfl, rfl, rfl⟩ rfl rfl rfl rfl rfl (by kernel_rfl) Try.func7 (by kernel_rfl)
    (of_decide_eq_true (by kernel_rfl)) (by unfold Func.isWrapper; first | (rw [if_pos (by decide +kernel)]; kernel_rfl) | (rw [if_neg (by decide +kernel)]; exact ⟨rfl, rfl⟩))
    (fun os started H enc _ => lifted os started H enc)
theorem proved : Rows.DepgraphAffectedIsAClosureSaid := over
end Go.Proofs.Ytffcaglfcnmhdaa.depgraphAffectedIsAClosure
namespace Go.Proofs.Ytffcaglfcnmhdaa
/-- The row, under a short name, for the claim. -/
theorem depgraphAffectedIsAClosure_holds : Rows.DepgraphAffectedIsAClosureSaid := depgraphAffectedIsAClosure.proved
end Go.Proofs.Ytffcaglfcnmhdaa
end
#print axioms Go.Proofs.Ytffcaglfcnmhdaa.depgraphAffectedIsAClosure_holds
