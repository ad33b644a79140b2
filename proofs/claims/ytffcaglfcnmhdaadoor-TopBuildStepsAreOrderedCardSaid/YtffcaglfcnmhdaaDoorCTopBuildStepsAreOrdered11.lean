/- The law TopBuildStepsAreOrdered holds: for every input that can be read as data the call returns true, and each argument reads afterwards as it read before. The package's variables read as the program's text lays them (tied). -/
import Derived.Test.YtffcaglfcnmhdaaDoorCTopBuildStepsAreOrdered10
import Derived.Test.YtffcaglfcnmhdaaDoorTie
import Derived.Test.YtffcaglfcnmhdaaDoorCards
import Derived.SevenTiedAt
import Derived.ShutString
import Derived.ChangeOld
section
namespace Go.Proofs.YtffcaglfcnmhdaaDoor.topBuildStepsAreOrdered
open Go.ChangeShapes Go.WideShapes Go.ChangeAt Go.RowKit
open Go.ChangeMaps (open_string shut_string)
open Go.Proofs.YtffcaglfcnmhdaaDoorW.PrintWords Go.Proofs.YtffcaglfcnmhdaaDoorW.PrintLast Go.Proofs.YtffcaglfcnmhdaaDoorW.PrintMore Go.Proofs.YtffcaglfcnmhdaaDoor.H
set_option linter.unusedVariables false
theorem own : ownKnob Tryd.prog.godebug = none := by kernel_rfl
theorem laidOut : laidOutB Tryd.prog = true := by kernel_rfl
set_option maxRecDepth 100000 in
theorem lifted (os : Os) (started : os.Started) (H : Type) (enc : TypeId × Value → H) :
    ReturnsInHanded {} Tryd.checked os 3 .any (fun w args => (Rows.topBuildStepsAreOrderedSpec.pre enc Tryd.prog Tryd.f3 [] false w args ∧ laidMetH Tryd.prog Go.Proofs.YtffcaglfcnmhdaaDoor.H.laidL w) ∧ sizedMet enc Tryd.prog Tryd.f3 (OpenSpec.ofChange Rows.topBuildStepsAreOrderedSpec) false w args) (Rows.topBuildStepsAreOrderedSpec.post enc Tryd.prog Tryd.f3 false true false false) := by
  refine returnsInHanded_of_change_and (C := Tryd.checked) (X := fun w _ => laidMetH Tryd.prog Go.Proofs.YtffcaglfcnmhdaaDoor.H.laidL w) (fun _ _ _ hh h => h.of_heap hh) own started (by kernel_rfl) Tryd.func3
    (ChangeSpec.witness_shaped (enc := enc) (C := Tryd.checked) (os := os) (X := fun w _ => laidMetH Tryd.prog Go.Proofs.YtffcaglfcnmhdaaDoor.H.laidL w) false (World.doorLaid Tryd.prog 24 os) #[.slice none 0 0] 8 rfl (World.shaped_of_RefB (by kernel_rfl) (by kernel_rfl)) (by kernel_rfl) (by kernel_rfl) (by kernel_rfl) (Go.Proofs.YtffcaglfcnmhdaaDoor.H.door_met os _)) ?_
  intro W base args ds gs before hval0 hW hcnd hsz0 hL _
  have hsz : (DataW.weightsEach Tryd.prog (Tryd.f3.params.toList ++ Rows.topBuildStepsAreOrderedSpec.plain.varTypes Tryd.prog) (ds ++ gs)).all (· ≤ reachBytes) = true := hsz0
  have hval : ∀ (j : Nat) t v, Tryd.f3.params[j]? = some t → args[j]? = some v → Value.okWide Tryd.prog W .any base t v := hval0
  have hW' := hW
  obtain ⟨p, q, hA0, hV, rfl, hfz, hnd⟩ := hW
  have hA : DataW.TrodAll enc Tryd.prog W 0 (fun _ => true) true Tryd.f3.params.toList args.toList ds p := hA0
  rw [Tryd.params3] at hA hval hsz
  obtain ⟨v0, vs0, d0, ds0, p0, q0, hargs, rfl, rfl, h0, r0⟩ := trodAll_cons hA
  obtain ⟨rfl, rfl, rfl⟩ := trodAll_nil r0
  obtain rfl : args = #[v0] := by cases args; simp_all
  obtain ⟨rfl, rfl⟩ := trodVars_none hV
  obtain ⟨a0, len0, cap0, rfl⟩ := okWide_slice Tryd.underlying22 (hval 0 22 v0 rfl rfl)
  have k0 := h0
  have lt0 : ∀ x ∈ p0, x.block < W.heap.size := by obtain ⟨m, hm⟩ := k0; exact DataW.trod_lt m _ _ _ hm
  have y0 : len0 * 32 ≤ 140737488351232 := sized_any hsz (j := 0) (t := 22) rfl rfl Tryd.underlying22 (by kernel_rfl) h0
  obtain ⟨l0, A0, c0, rfl, rfl, rfl, hc0, hr0, w0⟩ : ∃ l A c, a0 = A ∧ len0 = List.length l ∧ cap0 = c ∧ List.length l ≤ c ∧ Kd.C k30 W A (List.length l) l ∧ l.length ≤ 9223372036854775807 ∧ ∀ x_ ∈ l, Fit_T30 x_ := by
    obtain ⟨fuel, hf⟩ := h0
    obtain ⟨l, ⟨A, c, he, hc, hr⟩, hF⟩ := (opens_slice op_T30 Tryd.underlying22 (by kernel_rfl)).get hf
    simp [Value.cells] at he
    obtain ⟨rfl, rfl, rfl⟩ := he
    exact ⟨l, _, _, rfl, rfl, rfl, hc, hr, hF⟩
  clear hA0 hval0 hsz0 hsz
  obtain ⟨k, hk⟩ := Go.Proofs.YtffcaglfcnmhdaaDoor.H.pf_TopBuildStepsAreOrdered _ w0 y0
  refine (changeforgetop_TopBuildStepsAreOrdered.calls k _ _ l0 true W hr0 hc0 (Go.Proofs.YtffcaglfcnmhdaaDoor.H.Glob.of_laid hL) hk).mono fun e W' ⟨he, bel0⟩ => ?_
  have bel : Below W.heap.size W W' := bel0
  subst he
  exact ⟨_, rfl, _, _, _, [], _, [], hW', trodAll_mk1 (shut_bool Tryd.underlying4 _), (trodAll_cons_mk (Below.trod laidOut (by kernel_rfl) (of_decide_eq_true (by kernel_rfl)) k0 bel lt0) trodAll_mk0), rfl, bel.frame _, fun h => by cases h⟩
theorem over : Rows.topBuildStepsAreOrderedRow.holds Tryd.pinned (OpenSpec.ofChange Rows.topBuildStepsAreOrderedSpec) :=
  OpenClaim.holds_of_wide 3 Tryd.f3 rfl rfl rfl rfl rfl rfl rfl ⟨rfl, rfl, rfl, rfl, rfl⟩ rfl rfl rfl rfl rfl (by kernel_rfl) Tryd.func3 (by kernel_rfl)
    (of_decide_eq_true (by kernel_rfl)) (by unfold Func.isWrapper; first | (rw [if_pos (by decide +kernel)]; kernel_rfl) | (rw [if_neg (by decide +kernel)]; exact ⟨rfl, rfl⟩))
    (fun os started H enc _ => lifted os started H enc)
theorem proved : Rows.TopBuildStepsAreOrderedCardSaid :=
  Claim7.holds_tied_plain_at .later [] [.widerDeep] true (true, "31e056d7c53345e49b98e42dcc19cc7b4aaa8e9328305b961ef909d5eab56e17") true over (fun _ h => by cases h) (by kernel_rfl) (fun _ h => by cases h) topBuildStepsAreOrdered_row_tie rfl ⟨rfl, rfl⟩ (by kernel_rfl) rfl
    (fun f fn hf hfn => by
      obtain rfl : f = 3 := Option.some.inj ((show Tryd.prog.funcNamed "changeforge/changeforgetop.TopBuildStepsAreOrdered" = some 3 by kernel_rfl).symm.trans hf) |>.symm
      obtain rfl : fn = Tryd.f3 := (Option.some.inj (Tryd.func3.symm.trans hfn)).symm
      exact ⟨by kernel_rfl, fun j t ht => by
        rw [Tryd.params3] at ht
        have hm := Array.mem_of_getElem? ht
        simp only [List.mem_toArray, List.mem_cons, List.not_mem_nil, or_false] at hm
        rcases hm with rfl
        · exact (show Tryd.prog.wantsStandIn 22 = false by kernel_rfl)⟩)
    (by kernel_rfl)
end Go.Proofs.YtffcaglfcnmhdaaDoor.topBuildStepsAreOrdered
namespace Go.Proofs.YtffcaglfcnmhdaaDoor
/-- The row, under a short name, for the claim. -/
theorem topBuildStepsAreOrdered_holds : Rows.TopBuildStepsAreOrderedCardSaid := topBuildStepsAreOrdered.proved
end Go.Proofs.YtffcaglfcnmhdaaDoor
end
#print axioms Go.Proofs.YtffcaglfcnmhdaaDoor.topBuildStepsAreOrdered_holds
