/- Texts that the law RulesMatchSpec comes to, printed and by hand, what is not used left out. -/
import Derived.Test.YtepflpmngegdiaaDoorCRulesMatchSpec7
section
namespace Go.Proofs.YtepflpmngegdiaaDoor.H
open Go.RowKit Go.Proofs.YtepflpmngegdiaaDoorW.PrintWords Go.Proofs.YtepflpmngegdiaaDoorW.PrintLast Go.Proofs.YtepflpmngegdiaaDoorW.PrintMore
set_option linter.unusedVariables false
set_option linter.unusedSimpArgs false

attribute [local go_sem high] eqA24
def changeforgelaw6_project.f  : Option ((List (S33))) := some (([(⟨1, ([] : List Int)⟩ : S33), (⟨6, (([0] : List Int))⟩ : S33), (⟨2, (([1] : List Int))⟩ : S33)] : List (S33)))
set_option maxHeartbeats 8000000 in
set_option maxRecDepth 100000 in
theorem changeforgelaw6_project.calls  (r : List (S33)) (w : World) (h : changeforgelaw6_project.f  = some r) :
    Calls Tryd.prog 24 #[] w fun e w' => ∃ v0_ : Value, e = .returned (v0_) ∧ Kd.N k33 33 w' w.heap.size (fun k_ => (w.heap.size ≤ k_)) v0_ r ∧ Below w.heap.size w w' := by
  have hu33 := Tryd.underlying33
  have HB := Aside0.mk (Below.refl w.heap.size w)
  have H : (some (([(⟨1, ([] : List Int)⟩ : S33), (⟨6, (([0] : List Int))⟩ : S33), (⟨2, (([1] : List Int))⟩ : S33)] : List (S33)))) = some r := h
  clear h
  obtain ⟨y238, hy238⟩ : ∃ y_ : List Int, y_ = (([0] : List Int)) := ⟨_, rfl⟩
  replace H : (some (([(⟨1, ([] : List Int)⟩ : S33), (⟨6, y238⟩ : S33), (⟨2, (([1] : List Int))⟩ : S33)] : List (S33)))) = some r := by first | (rw [hy238]; with_reducible exact H) | (have H2_ := (Option.bind_some _ _).symm.trans H; rw [hy238]; with_reducible exact H2_) | (have H2_ := (Option.bind_some _ _).symm.trans H; with_reducible exact H2_) | with_reducible exact H | (rw [hy238]; exact H) | exact H
  have Ny238 := Aside0.mk hy238
  clear hy238
  obtain ⟨y241, hy241⟩ : ∃ y_ : List Int, y_ = (([1] : List Int)) := ⟨_, rfl⟩
  replace H : (some (([(⟨1, ([] : List Int)⟩ : S33), (⟨6, y238⟩ : S33), (⟨2, y241⟩ : S33)] : List (S33)))) = some r := by first | (rw [hy241]; with_reducible exact H) | (have H2_ := (Option.bind_some _ _).symm.trans H; rw [hy241]; with_reducible exact H2_) | (have H2_ := (Option.bind_some _ _).symm.trans H; with_reducible exact H2_) | with_reducible exact H | (rw [hy241]; exact H) | exact H
  have Ny241 := Aside0.mk hy241
  clear hy241
  obtain ⟨y244, hy244⟩ : ∃ y_ : List (S33), y_ = (([(⟨1, ([] : List Int)⟩ : S33), (⟨6, y238⟩ : S33), (⟨2, y241⟩ : S33)] : List (S33))) := ⟨_, rfl⟩
  replace H : (some y244) = some r := by first | (rw [hy244]; with_reducible exact H) | (have H2_ := (Option.bind_some _ _).symm.trans H; rw [hy244]; with_reducible exact H2_) | (have H2_ := (Option.bind_some _ _).symm.trans H; with_reducible exact H2_) | with_reducible exact H | (rw [hy244]; exact H) | exact H
  have Ny244 := Aside0.mk hy244
  clear hy244
  obtain rfl := Option.some.inj H
  go_enter Tryd.func24, Tryd.ntmps24
  go_wp2_with (first | ((with_reducible refine gate_dst (N := 2) rfl ?_); refine Kd.R_lit (Kd.int .i64) _ 3 ?hg (N := 2) ?hd (xs := ([0] : List Int)) (inner := [.int .i64 0]) (ok := fun _ => True) (okp := fun _ => True) ?hr ?hp (fun _ hk => hk) trivial (Below.refl _ _) (Nat.le_refl _) (by simp) ?_; (case hd => rfl); (case hg => rfl); (case hr => first | (go_simp; done) | (go_simp; rfl)); (case hp => exact (Reps.one (show Kd.M (Kd.int .i64) _ _ _ 0 [.int .i64 0] from rfl) (Reps.none _ _))); intro v239 w1 ho2 hb hg_ hnew_; clear hg_ hnew_; (first | rw [← Ny238.out] at ho2 | (simp only [Int.reduceToNat] at ho2; rw [← Ny238.out] at ho2)); have n0_ := Aside0.mk (Kd.R_lower (Kd.R_newM (M := fun k_ => (w.heap.size ≤ k_)) ho2 (below_size (by repeat (first | (with_reducible first | exact HB.out | apply below_alloc | apply pw_below_drewN | apply below_drew1) | exact HB.out))) (fun k_ h_ => h_)) (below_size (by repeat (first | (with_reducible first | exact HB.out | apply below_alloc | apply pw_below_drewN | apply below_drew1) | exact HB.out)))); have n1_ := Aside0.mk (below_step (by repeat (first | (with_reducible first | exact HB.out | apply below_alloc | apply pw_below_drewN | apply below_drew1) | exact HB.out)) hb); clear HB; have HO240 := n0_; have HB := n1_; clear n0_ n1_; clear hb ho2; obtain ⟨Ao3, co3, eo3⟩ := Kd.R_slice HO240.out; subst eo3) | ((with_reducible refine gate_dst (N := 4) rfl ?_); refine Kd.R_lit (Kd.int .i64) _ 3 ?hg (N := 4) ?hd (xs := ([1] : List Int)) (inner := [.int .i64 1]) (ok := fun _ => True) (okp := fun _ => True) ?hr ?hp (fun _ hk => hk) trivial (Below.refl _ _) (Nat.le_refl _) (by simp) ?_; (case hd => rfl); (case hg => rfl); (case hr => first | (go_simp; done) | (go_simp; rfl)); (case hp => exact (Reps.one (show Kd.M (Kd.int .i64) _ _ _ 1 [.int .i64 1] from rfl) (Reps.none _ _))); intro v242 w4 ho5 hb hg_ hnew_; clear hg_ hnew_; (first | rw [← Ny241.out] at ho5 | (simp only [Int.reduceToNat] at ho5; rw [← Ny241.out] at ho5)); have n0_ := Aside0.mk (Kd.R_elder' (by (with_reducible repeat (first | apply Kd.R_alloc | apply Kd.R_drewN | apply Kd.R_drew)); exact HO240.out) (Kd.R_base ho5) hb); have n1_ := Aside0.mk (Kd.R_lower (Kd.R_new' (Kd.R_newM (M := fun k_ => (w.heap.size ≤ k_)) ho5 (below_size (by repeat (first | (with_reducible first | exact HB.out | apply below_alloc | apply pw_below_drewN | apply below_drew1) | exact HB.out))) (fun k_ h_ => h_)) (Kd.R_lt (by (with_reducible repeat (first | apply Kd.R_alloc | apply Kd.R_drewN | apply Kd.R_drew)); exact HO240.out))) (below_size (by repeat (first | (with_reducible first | exact HB.out | apply below_alloc | apply pw_below_drewN | apply below_drew1) | exact HB.out)))); have n2_ := Aside0.mk (below_step (by repeat (first | (with_reducible first | exact HB.out | apply below_alloc | apply pw_below_drewN | apply below_drew1) | exact HB.out)) hb); clear HO240; clear HB; have HO240 := n0_; have HO243 := n1_; have HB := n2_; clear n0_ n1_ n2_; clear hb ho5; obtain ⟨Ao6, co6, eo6⟩ := Kd.R_slice HO243.out; subst eo6) | ((with_reducible refine gate_dst (N := 6) rfl ?_); refine Kd.N_lit k33 _ 33 ?hg (N' := 6) ?hd (xs := ([(⟨1, ([] : List Int)⟩ : S33), (⟨6, y238⟩ : S33), (⟨2, y241⟩ : S33)] : List (S33))) (inner := [.int .i64 1, .slice none 0 0, .int .i64 6, .slice Ao3 y238.length co3, .int .i64 2, .slice Ao6 y241.length co6]) (ok := (fun k_ => (w.heap.size ≤ k_))) (okp := (fun k_ => (w.heap.size ≤ k_))) ?hr ?hp (fun _ hk => hk) ((show ∀ k_, w4.heap.size ≤ k_ → (fun k_ => (w.heap.size ≤ k_)) k_ from fun k_ hk => (Nat.le_trans (below_size (by repeat (first | (with_reducible first | exact HB.out | apply below_alloc | apply pw_below_drewN | apply below_drew1) | exact HB.out))) hk)) _ (Nat.le_refl _)) (Below.refl _ _) (Nat.le_refl _) (by simp) ?_; (case hd => rfl); (case hg => rfl); (case hr => first | (go_simp; done) | (go_simp; rfl)); (case hp => exact (Reps.c2 (show Kd.FK k33 _ _ (⟨1, ([] : List Int)⟩ : S33) [.int .i64 1, .slice none 0 0] from (k33_mkF _ _ (⟨1, ([] : List Int)⟩ : S33) (Nat.le_refl _) (Kd.F_nil _ _ _))) (Reps.c2 (show Kd.FK k33 _ _ (⟨6, y238⟩ : S33) [.int .i64 6, .slice Ao3 y238.length co3] from (k33_mkF _ _ (⟨6, y238⟩ : S33) (Kd.R_reads' (Kd.R_mono (ok' := (fun k_ => (w.heap.size ≤ k_))) (HO240.out) (fun k_ hk => hk.1.1))).2.1 (Kd.R_F (Kd.R_mono (ok' := (fun k_ => (w.heap.size ≤ k_))) (HO240.out) (fun k_ hk => hk.1.1))))) (Reps.c2 (show Kd.FK k33 _ _ (⟨2, y241⟩ : S33) [.int .i64 2, .slice Ao6 y241.length co6] from (k33_mkF _ _ (⟨2, y241⟩ : S33) (Kd.R_reads' (Kd.R_mono (ok' := (fun k_ => (w.heap.size ≤ k_))) (HO243.out) (fun k_ hk => hk.1.1))).2.1 (Kd.R_F (Kd.R_mono (ok' := (fun k_ => (w.heap.size ≤ k_))) (HO243.out) (fun k_ hk => hk.1.1))))) (Reps.none _ _))))); intro v245 w7 ho8 hb hg_ hnew_; clear hg_ hnew_; (first | rw [← Ny244.out] at ho8 | (simp only [Int.reduceToNat] at ho8; rw [← Ny244.out] at ho8)); have n0_ := Aside0.mk (Kd.N_lower ho8 (below_size (by repeat (first | (with_reducible first | exact HB.out | apply below_alloc | apply pw_below_drewN | apply below_drew1) | exact HB.out)))); have n1_ := Aside0.mk (below_step (by repeat (first | (with_reducible first | exact HB.out | apply below_alloc | apply pw_below_drewN | apply below_drew1) | exact HB.out)) hb); clear HB; clear HO240; clear HO243; have HO246 := n0_; have HB := n1_; clear n0_ n1_; clear hb ho8))
  go_ret
  exact ⟨_, by first | rfl | (simp [errW_none, errW_some] <;> rfl) | (simp [*, errW_none, errW_some] <;> rfl), by (with_reducible repeat (first | apply Kd.N_alloc | apply Kd.N_drewN | apply Kd.N_drew)); exact HO246.out, by repeat (first | (with_reducible first | exact HB.out | apply below_alloc | apply pw_below_drewN | apply below_drew1) | exact HB.out)⟩

def changeforgelaw6_expands.f (k : Nat)  : Option (Bool) := (changeforgelaw6_project.f).bind fun t247 => ((rules_Leaves.f k t247 1).bind fun bt250 => ((changeforgelaw6_project.f).bind fun t256 => ((rules_Expand.f k t256).bind fun bt259 => (if bt250.2.1 = 0 then (if bt259.2.1 = 0 then ((changeforgeref5_Ints.f k bt250.1 (([0] : List Int))).bind fun t268 => (if t268 = true then ((changeforgeref6_SameSteps.f k bt259.1 (([(⟨0, 1, ([] : List Int)⟩ : S44), (⟨2, 2, (([0] : List Int))⟩ : S44)] : List (S44)))).bind fun t275 => (if t275 = true then ((rules_Validate.f k (([(⟨1, ([] : List Int)⟩ : S33), (⟨3, (([0] : List Int))⟩ : S33)] : List (S33)))).bind fun bt282 => ((changeforgelaw6_fault.f 8 1).bind fun bt284 => (some (bt282.1 == bt284.1 && (bt282.2 == bt284.2))))) else (none))) else (none))) else (none)) else (none)))))
theorem changeforgelaw6_expands.mono : ∀ k, LeO (changeforgelaw6_expands.f k ) (changeforgelaw6_expands.f (k + 1) ) := by
  intro  k
  unfold changeforgelaw6_expands.f
  repeat' first
      | (with_reducible exact changeforgeref5_Ints.mono _ _ _)
      | (with_reducible exact changeforgeref6_SameSteps.mono _ _ _)
      | (with_reducible exact rules_Expand.mono _ _)
      | (with_reducible exact rules_Leaves.mono _ _ _)
      | (with_reducible exact rules_Validate.mono _ _)
      | (with_reducible exact LeO.refl _)
      | (with_reducible exact LeO.none _)
      | (with_reducible refine LeO.ite ?_ ?_)
      | (with_reducible refine LeO.bind ?_ (fun _ => ?_))
      | exact changeforgeref5_Ints.mono _ _ _
      | exact changeforgeref6_SameSteps.mono _ _ _
      | exact rules_Expand.mono _ _
      | exact rules_Leaves.mono _ _ _
      | exact rules_Validate.mono _ _
      | exact LeO.none _
      | refine LeO.ite ?_ ?_
      | refine LeO.bind ?_ (fun _ => ?_)
set_option maxHeartbeats 8000000 in
set_option maxRecDepth 100000 in
theorem changeforgelaw6_expands.calls (k : Nat)  (r : Bool) (w : World) (hG : Glob w) (h : changeforgelaw6_expands.f k  = some r) :
    Calls Tryd.prog 10 #[] w fun e w' => e = .returned (.bool r) ∧ Below w.heap.size w w' := by
  have hu24 := Tryd.underlying24
  have hu44 := Tryd.underlying44
  have hu33 := Tryd.underlying33
  have HG := Aside0.mk hG
  clear hG
  have HB := Aside0.mk (Below.refl w.heap.size w)
  have H : ((changeforgelaw6_project.f).bind fun t247 => ((rules_Leaves.f k t247 1).bind fun bt250 => ((changeforgelaw6_project.f).bind fun t256 => ((rules_Expand.f k t256).bind fun bt259 => (if bt250.2.1 = 0 then (if bt259.2.1 = 0 then ((changeforgeref5_Ints.f k bt250.1 (([0] : List Int))).bind fun t268 => (if t268 = true then ((changeforgeref6_SameSteps.f k bt259.1 (([(⟨0, 1, ([] : List Int)⟩ : S44), (⟨2, 2, (([0] : List Int))⟩ : S44)] : List (S44)))).bind fun t275 => (if t275 = true then ((rules_Validate.f k (([(⟨1, ([] : List Int)⟩ : S33), (⟨3, (([0] : List Int))⟩ : S33)] : List (S33)))).bind fun bt282 => ((changeforgelaw6_fault.f 8 1).bind fun bt284 => (some (bt282.1 == bt284.1 && (bt282.2 == bt284.2))))) else (none))) else (none))) else (none)) else (none)))))) = some r := h
  clear h
  replace H := Option.bind_eq_some_iff.mp H
  obtain ⟨t247, A10, H⟩ := H
  replace H : ((rules_Leaves.f k t247 1).bind fun bt250 => ((changeforgelaw6_project.f).bind fun t256 => ((rules_Expand.f k t256).bind fun bt259 => (if bt250.2.1 = 0 then (if bt259.2.1 = 0 then ((changeforgeref5_Ints.f k bt250.1 (([0] : List Int))).bind fun t268 => (if t268 = true then ((changeforgeref6_SameSteps.f k bt259.1 (([(⟨0, 1, ([] : List Int)⟩ : S44), (⟨2, 2, (([0] : List Int))⟩ : S44)] : List (S44)))).bind fun t275 => (if t275 = true then ((rules_Validate.f k (([(⟨1, ([] : List Int)⟩ : S33), (⟨3, (([0] : List Int))⟩ : S33)] : List (S33)))).bind fun bt282 => ((changeforgelaw6_fault.f 8 1).bind fun bt284 => (some (bt282.1 == bt284.1 && (bt282.2 == bt284.2))))) else (none))) else (none))) else (none)) else (none))))) = some r := H
  have A1 := Aside0.mk A10
  clear A10
  replace H := Option.bind_eq_some_iff.mp H
  obtain ⟨⟨t250, t253, t254⟩, A20, H⟩ := H
  replace H : ((changeforgelaw6_project.f).bind fun t256 => ((rules_Expand.f k t256).bind fun bt259 => (if t253 = 0 then (if bt259.2.1 = 0 then ((changeforgeref5_Ints.f k t250 (([0] : List Int))).bind fun t268 => (if t268 = true then ((changeforgeref6_SameSteps.f k bt259.1 (([(⟨0, 1, ([] : List Int)⟩ : S44), (⟨2, 2, (([0] : List Int))⟩ : S44)] : List (S44)))).bind fun t275 => (if t275 = true then ((rules_Validate.f k (([(⟨1, ([] : List Int)⟩ : S33), (⟨3, (([0] : List Int))⟩ : S33)] : List (S33)))).bind fun bt282 => ((changeforgelaw6_fault.f 8 1).bind fun bt284 => (some (bt282.1 == bt284.1 && (bt282.2 == bt284.2))))) else (none))) else (none))) else (none)) else (none)))) = some r := H
  have A2 := Aside0.mk A20
  clear A20
  replace H := Option.bind_eq_some_iff.mp H
  obtain ⟨t256, A30, H⟩ := H
  replace H : ((rules_Expand.f k t256).bind fun bt259 => (if t253 = 0 then (if bt259.2.1 = 0 then ((changeforgeref5_Ints.f k t250 (([0] : List Int))).bind fun t268 => (if t268 = true then ((changeforgeref6_SameSteps.f k bt259.1 (([(⟨0, 1, ([] : List Int)⟩ : S44), (⟨2, 2, (([0] : List Int))⟩ : S44)] : List (S44)))).bind fun t275 => (if t275 = true then ((rules_Validate.f k (([(⟨1, ([] : List Int)⟩ : S33), (⟨3, (([0] : List Int))⟩ : S33)] : List (S33)))).bind fun bt282 => ((changeforgelaw6_fault.f 8 1).bind fun bt284 => (some (bt282.1 == bt284.1 && (bt282.2 == bt284.2))))) else (none))) else (none))) else (none)) else (none))) = some r := H
  have A3 := Aside0.mk A30
  clear A30
  replace H := Option.bind_eq_some_iff.mp H
  obtain ⟨⟨t259, t262, t263⟩, A40, H⟩ := H
  replace H : (if t253 = 0 then (if t262 = 0 then ((changeforgeref5_Ints.f k t250 (([0] : List Int))).bind fun t268 => (if t268 = true then ((changeforgeref6_SameSteps.f k t259 (([(⟨0, 1, ([] : List Int)⟩ : S44), (⟨2, 2, (([0] : List Int))⟩ : S44)] : List (S44)))).bind fun t275 => (if t275 = true then ((rules_Validate.f k (([(⟨1, ([] : List Int)⟩ : S33), (⟨3, (([0] : List Int))⟩ : S33)] : List (S33)))).bind fun bt282 => ((changeforgelaw6_fault.f 8 1).bind fun bt284 => (some (bt282.1 == bt284.1 && (bt282.2 == bt284.2))))) else (none))) else (none))) else (none)) else (none)) = some r := H
  have A4 := Aside0.mk A40
  clear A40
  by_cases c5 : t253 = 0
  · rw [if_pos c5] at H
    have c5b0 : (t253 == 0) = true := beq_iff_eq.mpr c5
    have c5b1 : (t253 != 0) = false := bne_eq_false_iff_eq.mpr c5
    clear c5
    by_cases c6 : t262 = 0
    · rw [if_pos c6] at H
      have c6b0 : (t262 == 0) = true := beq_iff_eq.mpr c6
      have c6b1 : (t262 != 0) = false := bne_eq_false_iff_eq.mpr c6
      clear c6
      obtain ⟨y265, hy265⟩ : ∃ y_ : List Int, y_ = (([0] : List Int)) := ⟨_, rfl⟩
      replace H : ((changeforgeref5_Ints.f k t250 y265).bind fun t268 => (if t268 = true then ((changeforgeref6_SameSteps.f k t259 (([(⟨0, 1, ([] : List Int)⟩ : S44), (⟨2, 2, (([0] : List Int))⟩ : S44)] : List (S44)))).bind fun t275 => (if t275 = true then ((rules_Validate.f k (([(⟨1, ([] : List Int)⟩ : S33), (⟨3, (([0] : List Int))⟩ : S33)] : List (S33)))).bind fun bt282 => ((changeforgelaw6_fault.f 8 1).bind fun bt284 => (some (bt282.1 == bt284.1 && (bt282.2 == bt284.2))))) else (none))) else (none))) = some r := by first | (rw [hy265]; with_reducible exact H) | (have H2_ := (Option.bind_some _ _).symm.trans H; rw [hy265]; with_reducible exact H2_) | (have H2_ := (Option.bind_some _ _).symm.trans H; with_reducible exact H2_) | with_reducible exact H | (rw [hy265]; exact H) | exact H
      have Ny265 := Aside0.mk hy265
      clear hy265
      replace H := Option.bind_eq_some_iff.mp H
      obtain ⟨t268, A70, H⟩ := H
      replace H : (if t268 = true then ((changeforgeref6_SameSteps.f k t259 (([(⟨0, 1, ([] : List Int)⟩ : S44), (⟨2, 2, (([0] : List Int))⟩ : S44)] : List (S44)))).bind fun t275 => (if t275 = true then ((rules_Validate.f k (([(⟨1, ([] : List Int)⟩ : S33), (⟨3, (([0] : List Int))⟩ : S33)] : List (S33)))).bind fun bt282 => ((changeforgelaw6_fault.f 8 1).bind fun bt284 => (some (bt282.1 == bt284.1 && (bt282.2 == bt284.2))))) else (none))) else (none)) = some r := H
      have A7 := Aside0.mk A70
      clear A70
      by_cases c8 : t268 = true
      · subst c8
        have H1 : ((changeforgeref6_SameSteps.f k t259 (([(⟨0, 1, ([] : List Int)⟩ : S44), (⟨2, 2, (([0] : List Int))⟩ : S44)] : List (S44)))).bind fun t275 => (if t275 = true then ((rules_Validate.f k (([(⟨1, ([] : List Int)⟩ : S33), (⟨3, (([0] : List Int))⟩ : S33)] : List (S33)))).bind fun bt282 => ((changeforgelaw6_fault.f 8 1).bind fun bt284 => (some (bt282.1 == bt284.1 && (bt282.2 == bt284.2))))) else (none))) = some r := by rw [if_pos rfl] at H; exact H
        clear H
        have H := H1
        clear H1
        obtain ⟨y269, hy269⟩ : ∃ y_ : List Int, y_ = (([0] : List Int)) := ⟨_, rfl⟩
        replace H : ((changeforgeref6_SameSteps.f k t259 (([(⟨0, 1, ([] : List Int)⟩ : S44), (⟨2, 2, y269⟩ : S44)] : List (S44)))).bind fun t275 => (if t275 = true then ((rules_Validate.f k (([(⟨1, ([] : List Int)⟩ : S33), (⟨3, (([0] : List Int))⟩ : S33)] : List (S33)))).bind fun bt282 => ((changeforgelaw6_fault.f 8 1).bind fun bt284 => (some (bt282.1 == bt284.1 && (bt282.2 == bt284.2))))) else (none))) = some r := by first | (rw [hy269]; with_reducible exact H) | (have H2_ := (Option.bind_some _ _).symm.trans H; rw [hy269]; with_reducible exact H2_) | (have H2_ := (Option.bind_some _ _).symm.trans H; with_reducible exact H2_) | with_reducible exact H | (rw [hy269]; exact H) | exact H
        have Ny269 := Aside0.mk hy269
        clear hy269
        obtain ⟨y272, hy272⟩ : ∃ y_ : List (S44), y_ = (([(⟨0, 1, ([] : List Int)⟩ : S44), (⟨2, 2, y269⟩ : S44)] : List (S44))) := ⟨_, rfl⟩
        replace H : ((changeforgeref6_SameSteps.f k t259 y272).bind fun t275 => (if t275 = true then ((rules_Validate.f k (([(⟨1, ([] : List Int)⟩ : S33), (⟨3, (([0] : List Int))⟩ : S33)] : List (S33)))).bind fun bt282 => ((changeforgelaw6_fault.f 8 1).bind fun bt284 => (some (bt282.1 == bt284.1 && (bt282.2 == bt284.2))))) else (none))) = some r := by first | (rw [hy272]; with_reducible exact H) | (have H2_ := (Option.bind_some _ _).symm.trans H; rw [hy272]; with_reducible exact H2_) | (have H2_ := (Option.bind_some _ _).symm.trans H; with_reducible exact H2_) | with_reducible exact H | (rw [hy272]; exact H) | exact H
        have Ny272 := Aside0.mk hy272
        clear hy272
        replace H := Option.bind_eq_some_iff.mp H
        obtain ⟨t275, A90, H⟩ := H
        replace H : (if t275 = true then ((rules_Validate.f k (([(⟨1, ([] : List Int)⟩ : S33), (⟨3, (([0] : List Int))⟩ : S33)] : List (S33)))).bind fun bt282 => ((changeforgelaw6_fault.f 8 1).bind fun bt284 => (some (bt282.1 == bt284.1 && (bt282.2 == bt284.2))))) else (none)) = some r := H
        have A9 := Aside0.mk A90
        clear A90
        by_cases c10 : t275 = true
        · subst c10
          have H1 : ((rules_Validate.f k (([(⟨1, ([] : List Int)⟩ : S33), (⟨3, (([0] : List Int))⟩ : S33)] : List (S33)))).bind fun bt282 => ((changeforgelaw6_fault.f 8 1).bind fun bt284 => (some (bt282.1 == bt284.1 && (bt282.2 == bt284.2))))) = some r := by rw [if_pos rfl] at H; exact H
          clear H
          have H := H1
          clear H1
          obtain ⟨y276, hy276⟩ : ∃ y_ : List Int, y_ = (([0] : List Int)) := ⟨_, rfl⟩
          replace H : ((rules_Validate.f k (([(⟨1, ([] : List Int)⟩ : S33), (⟨3, y276⟩ : S33)] : List (S33)))).bind fun bt282 => ((changeforgelaw6_fault.f 8 1).bind fun bt284 => (some (bt282.1 == bt284.1 && (bt282.2 == bt284.2))))) = some r := by first | (rw [hy276]; with_reducible exact H) | (have H2_ := (Option.bind_some _ _).symm.trans H; rw [hy276]; with_reducible exact H2_) | (have H2_ := (Option.bind_some _ _).symm.trans H; with_reducible exact H2_) | with_reducible exact H | (rw [hy276]; exact H) | exact H
          have Ny276 := Aside0.mk hy276
          clear hy276
          obtain ⟨y279, hy279⟩ : ∃ y_ : List (S33), y_ = (([(⟨1, ([] : List Int)⟩ : S33), (⟨3, y276⟩ : S33)] : List (S33))) := ⟨_, rfl⟩
          replace H : ((rules_Validate.f k y279).bind fun bt282 => ((changeforgelaw6_fault.f 8 1).bind fun bt284 => (some (bt282.1 == bt284.1 && (bt282.2 == bt284.2))))) = some r := by first | (rw [hy279]; with_reducible exact H) | (have H2_ := (Option.bind_some _ _).symm.trans H; rw [hy279]; with_reducible exact H2_) | (have H2_ := (Option.bind_some _ _).symm.trans H; with_reducible exact H2_) | with_reducible exact H | (rw [hy279]; exact H) | exact H
          have Ny279 := Aside0.mk hy279
          clear hy279
          replace H := Option.bind_eq_some_iff.mp H
          obtain ⟨⟨t282, t283⟩, A110, H⟩ := H
          replace H : ((changeforgelaw6_fault.f 8 1).bind fun bt284 => (some (t282 == bt284.1 && (t283 == bt284.2)))) = some r := H
          have A11 := Aside0.mk A110
          clear A110
          replace H := Option.bind_eq_some_iff.mp H
          obtain ⟨⟨t284, t285⟩, A120, H⟩ := H
          replace H : (some (t282 == t284 && (t283 == t285))) = some r := H
          have A12 := Aside0.mk A120
          clear A120
          obtain rfl := Option.some.inj H
          go_enter Tryd.func10, Tryd.ntmps10
          go_wp2_with (first | ((with_reducible refine gate_callee (f := 24) rfl ?_); refine goesL_ (some 6) rfl rfl Tryd.func24 (by kernel_rfl) rfl #[] rfl (by (try simp only [List.map_toArray, List.map_cons, List.map_nil]); first | done | rfl | (simp only [List.length_drop, List.length_take]; rfl)) ?_; (with_reducible refine (changeforgelaw6_project.calls  t247 _ A1.out).mono ?_); rintro e w13 ⟨v248, rfl, ho0, hb⟩; refine ⟨_, rfl, ?_⟩; have n0_ := Aside0.mk (Kd.N_lower (Kd.N_mono (ok' := fun k_ => True) ho0 (fun k_ hk_ => trivial)) (below_size (by repeat (first | (with_reducible first | exact HB.out | apply below_alloc | apply pw_below_drewN | apply below_drew1) | exact HB.out)))); have n1_ := Aside0.mk (below_step (by repeat (first | (with_reducible first | exact HB.out | apply below_alloc | apply pw_below_drewN | apply below_drew1) | exact HB.out)) hb); clear HB; have HO249 := n0_; have HB := n1_; clear n0_ n1_; (try clear hb); (try clear hb2); (try clear hk); (try clear hi); (try clear ho0); obtain ⟨Ao14, co14, eo14⟩ := Kd.N_slice HO249.out; subst eo14) | ((with_reducible refine gate_callee (f := 14) rfl ?_); refine goesL_ (some 7) rfl rfl Tryd.func14 (by kernel_rfl) rfl #[.slice Ao14 t247.length co14, .int .i64 1] rfl (by (try simp only [List.map_toArray, List.map_cons, List.map_nil]); first | done | rfl | (simp only [List.length_drop, List.length_take]; rfl)) ?_; (with_reducible refine (rules_Leaves.calls k _ _ t247 1 t250 t253 t254 _ ?side1 ?side2 ?side3 A2.out).mono ?_); (case side1 => repeat (first | exact (Kd.N_reads' HO249.out).2.2 | (with_reducible refine Kd.C_alloc ?_ _) | (with_reducible refine Kd.C_drewN ?_ _) | (with_reducible refine Kd.C_drew ?_))); (case side2 => exact (Kd.N_reads' HO249.out).2.1); (case side3 => exact Glob.below HG.out (by repeat (first | (with_reducible first | exact HB.out | apply below_alloc | apply pw_below_drewN | apply below_drew1) | exact HB.out))); rintro e w15 ⟨v251, rfl, ho0, hb⟩; refine ⟨_, rfl, ?_⟩; have n0_ := Aside0.mk (Kd.N_elder' (by (with_reducible repeat (first | apply Kd.N_alloc | apply Kd.N_drewN | apply Kd.N_drew)); exact HO249.out) (Kd.R_base ho0) hb); have n1_ := Aside0.mk (Kd.R_lower ho0 (below_size (by repeat (first | (with_reducible first | exact HB.out | apply below_alloc | apply pw_below_drewN | apply below_drew1) | exact HB.out)))); have n2_ := Aside0.mk (below_step (by repeat (first | (with_reducible first | exact HB.out | apply below_alloc | apply pw_below_drewN | apply below_drew1) | exact HB.out)) hb); clear HO249; clear HB; have HO249 := n0_; have HO252 := n1_; have HB := n2_; clear n0_ n1_ n2_; (try clear hb); (try clear hb2); (try clear hk); (try clear hi); (try clear ho0)) | ((with_reducible refine gate_dst (N := 2) rfl ?_); (try (refine gate_guard (by rfl) ?_; dsimp only)); refine box_event ?hg (N := 2) ?hd (cs := #[.int .i64 0, .int .i64 0]) (t := 24) ?hr ?_; (case hd => rfl); (case hg => rfl); (case hr => first | (go_simp; done) | (go_simp; rfl)); intro gb255 hg w16 hbox hb; have n0_ := Aside0.mk (Kd.N_below (Kd.N_elderB (by (with_reducible repeat (first | apply Kd.N_alloc | apply Kd.N_drewN | apply Kd.N_drew)); exact HO249.out) gb255 (Nat.le_of_eq hg.symm)) hb); have n1_ := Aside0.mk (Kd.R_below (by (with_reducible repeat (first | apply Kd.R_alloc | apply Kd.R_drewN | apply Kd.R_drew)); exact HO252.out) hb); have n2_ := Aside0.mk (below_step (by repeat (first | (with_reducible first | exact HB.out | apply below_alloc | apply pw_below_drewN | apply below_drew1) | exact HB.out)) hb); have n3_ := Aside0.mk (hbox); have n4_ := Aside0.mk ((by rw [hg]; exact (below_size (by repeat (first | (with_reducible first | exact HB.out | apply below_alloc | apply pw_below_drewN | apply below_drew1) | exact HB.out))) : w.heap.size ≤ gb255)); have n5_ := Aside0.mk ((by rw [hg]; exact (below_size (by repeat (first | (with_reducible first | exact HB.out | apply below_alloc | apply pw_below_drewN | apply below_drew1) | exact HB.out))) : w.heap.size ≤ gb255)); clear HO249; clear HO252; clear HB; have HO249 := n0_; have HO252 := n1_; have HB := n2_; have BK255 := n3_; have GW255 := n4_; have GE255 := n5_; clear n0_ n1_ n2_ n3_ n4_ n5_; clear hb hbox hg; have hcz17_0 : w16.cell? ⟨gb255, 0, none⟩ = some (.int .i64 0) := (blk_cell BK255.out 0).trans rfl; have hcz17_1 : w16.cell? ⟨gb255, 1, none⟩ = some (.int .i64 0) := (blk_cell BK255.out 1).trans rfl; have hfz17_0 := blk_frozen BK255.out 0; have hfz17_1 := blk_frozen BK255.out 1) | ((with_reducible refine gate_callee (f := 24) rfl ?_); refine goesL_ (some 11) rfl rfl Tryd.func24 (by kernel_rfl) rfl #[] rfl (by (try simp only [List.map_toArray, List.map_cons, List.map_nil]); first | done | rfl | (simp only [List.length_drop, List.length_take]; rfl)) ?_; (with_reducible refine (changeforgelaw6_project.calls  t256 _ A3.out).mono ?_); rintro e w18 ⟨v257, rfl, ho0, hb⟩; refine ⟨_, rfl, ?_⟩; have n0_ := Aside0.mk (Kd.N_elder' (by (with_reducible repeat (first | apply Kd.N_alloc | apply Kd.N_drewN | apply Kd.N_drew)); exact (Kd.N_mono (Kd.N_far (p := ⟨gb255, 1, none⟩) (Kd.N_far (p := ⟨gb255, 0, none⟩) (Kd.N_mono HO249.out (fun k_ hk => (⟨hk, hk.2⟩ : _ ∧ k_ ≠ gb255))) (fun _ hk => hk.2) (.int .i64 t253)) (fun _ hk => hk.2) (.int .i64 t254)) (fun _ h_ => h_.1))) (by first | exact Kd.N_base ho0 | exact Kd.S_base ho0 | exact Kd.R_base ho0) hb); have n1_ := Aside0.mk (Kd.R_below (by (with_reducible repeat (first | apply Kd.R_alloc | apply Kd.R_drewN | apply Kd.R_drew)); exact (Kd.R_mono (Kd.R_far (p := ⟨gb255, 1, none⟩) (Kd.R_far (p := ⟨gb255, 0, none⟩) (Kd.R_types HO252.out BK255.out (by decide)) (fun _ hk => hk.2) (.int .i64 t253)) (fun _ hk => hk.2) (.int .i64 t254)) (fun _ h_ => h_.1))) hb); have n2_ := Aside0.mk (Kd.N_lower (Kd.N_mono (ok' := fun k_ => some k_ ≠ (.slice Ao14 t247.length co14 : Value).ownBlock ∧ some k_ ≠ (v251 : Value).ownBlock ∧ k_ ≠ gb255) ho0 (fun k_ hk_ => ⟨(Kd.fresh' (Kd.N_lt (by (with_reducible repeat (first | apply Kd.N_alloc | apply Kd.N_drewN | apply Kd.N_drew)); exact (Kd.N_mono (Kd.N_far (p := ⟨gb255, 1, none⟩) (Kd.N_far (p := ⟨gb255, 0, none⟩) (Kd.N_mono HO249.out (fun k_ hk => (⟨hk, hk.2⟩ : _ ∧ k_ ≠ gb255))) (fun _ hk => hk.2) (.int .i64 t253)) (fun _ hk => hk.2) (.int .i64 t254)) (fun _ h_ => h_.1)))) k_ hk_), (Kd.fresh' (Kd.R_lt (by (with_reducible repeat (first | apply Kd.R_alloc | apply Kd.R_drewN | apply Kd.R_drew)); exact (Kd.R_mono (Kd.R_far (p := ⟨gb255, 1, none⟩) (Kd.R_far (p := ⟨gb255, 0, none⟩) (Kd.R_types HO252.out BK255.out (by decide)) (fun _ hk => hk.2) (.int .i64 t253)) (fun _ hk => hk.2) (.int .i64 t254)) (fun _ h_ => h_.1)))) k_ hk_), (Kd.freshB (g := gb255) (o := .cells #[.int .i64 t253, .int .i64 t254] 24 (0, 0)) (by (with_reducible repeat (first | refine blk_drewN ?_ _ | refine blk_drew ?_ | refine blk_alloc ?_ _)); refine blk_put (cs := #[.int .i64 t253, .int .i64 0]) ?_ 1 _ rfl; (with_reducible repeat (first | refine blk_drewN ?_ _ | refine blk_drew ?_ | refine blk_alloc ?_ _)); refine blk_put (cs := #[.int .i64 0, .int .i64 0]) ?_ 0 _ rfl; (with_reducible repeat (first | refine blk_drewN ?_ _ | refine blk_drew ?_ | refine blk_alloc ?_ _)); exact BK255.out) k_ hk_)⟩)) (below_size (by repeat (first | (with_reducible first | exact HB.out | apply below_alloc | apply pw_below_drewN | apply below_drew1 | refine below_set ?_ GE255.out) | exact HB.out)))); have n3_ := Aside0.mk (blk_below (g := gb255) (o := .cells #[.int .i64 t253, .int .i64 t254] 24 (0, 0)) (by (with_reducible repeat (first | refine blk_drewN ?_ _ | refine blk_drew ?_ | refine blk_alloc ?_ _)); refine blk_put (cs := #[.int .i64 t253, .int .i64 0]) ?_ 1 _ rfl; (with_reducible repeat (first | refine blk_drewN ?_ _ | refine blk_drew ?_ | refine blk_alloc ?_ _)); refine blk_put (cs := #[.int .i64 0, .int .i64 0]) ?_ 0 _ rfl; (with_reducible repeat (first | refine blk_drewN ?_ _ | refine blk_drew ?_ | refine blk_alloc ?_ _)); exact BK255.out) hb); have n4_ := Aside0.mk (below_step (by repeat (first | (with_reducible first | exact HB.out | apply below_alloc | apply pw_below_drewN | apply below_drew1 | refine below_set ?_ GE255.out) | exact HB.out)) hb); clear HO249; clear HO252; clear BK255; clear HB; have HO249 := n0_; have HO252 := n1_; have HO258 := n2_; have BK255 := n3_; have HB := n4_; clear n0_ n1_ n2_ n3_ n4_; (try clear hb); (try clear hb2); (try clear hk); (try clear hi); (try clear ho0); obtain ⟨Ao19, co19, eo19⟩ := Kd.N_slice HO258.out; subst eo19) | ((with_reducible refine gate_callee (f := 17) rfl ?_); refine goesL_ (some 12) rfl rfl Tryd.func17 (by kernel_rfl) rfl #[.slice Ao19 t256.length co19] rfl (by (try simp only [List.map_toArray, List.map_cons, List.map_nil]); first | done | rfl | (simp only [List.length_drop, List.length_take]; rfl)) ?_; (with_reducible refine (rules_Expand.calls k _ _ t256 t259 t262 t263 _ ?side1 ?side2 ?side3 A4.out).mono ?_); (case side1 => repeat (first | exact (Kd.N_reads' HO258.out).2.2 | (with_reducible refine Kd.C_alloc ?_ _) | (with_reducible refine Kd.C_drewN ?_ _) | (with_reducible refine Kd.C_drew ?_))); (case side2 => exact (Kd.N_reads' HO258.out).2.1); (case side3 => exact Glob.below HG.out (by repeat (first | (with_reducible first | exact HB.out | apply below_alloc | apply pw_below_drewN | apply below_drew1 | refine below_set ?_ GE255.out) | exact HB.out))); rintro e w20 ⟨v260, rfl, ho0, hb⟩; refine ⟨_, rfl, ?_⟩; have n0_ := Aside0.mk (Kd.N_elder' (by (with_reducible repeat (first | apply Kd.N_alloc | apply Kd.N_drewN | apply Kd.N_drew)); exact HO249.out) (by first | exact Kd.N_base ho0 | exact Kd.S_base ho0 | exact Kd.R_base ho0) hb); have n1_ := Aside0.mk (Kd.R_below (by (with_reducible repeat (first | apply Kd.R_alloc | apply Kd.R_drewN | apply Kd.R_drew)); exact HO252.out) hb); have n2_ := Aside0.mk (Kd.N_elder' (by (with_reducible repeat (first | apply Kd.N_alloc | apply Kd.N_drewN | apply Kd.N_drew)); exact HO258.out) (by first | exact Kd.N_base ho0 | exact Kd.S_base ho0 | exact Kd.R_base ho0) hb); have n3_ := Aside0.mk (Kd.N_lower (Kd.N_mono (ok' := fun k_ => some k_ ≠ (.slice Ao14 t247.length co14 : Value).ownBlock ∧ some k_ ≠ (v251 : Value).ownBlock ∧ some k_ ≠ (.slice Ao19 t256.length co19 : Value).ownBlock ∧ k_ ≠ gb255) (Kd.S_N (Kd.S_bound ho0)) (fun k_ hk_ => ⟨(Kd.fresh' (Kd.N_lt (by (with_reducible repeat (first | apply Kd.N_alloc | apply Kd.N_drewN | apply Kd.N_drew)); exact HO249.out)) k_ hk_.2.1), (Kd.fresh' (Kd.R_lt (by (with_reducible repeat (first | apply Kd.R_alloc | apply Kd.R_drewN | apply Kd.R_drew)); exact HO252.out)) k_ hk_.2.1), (Kd.fresh' (Kd.N_lt (by (with_reducible repeat (first | apply Kd.N_alloc | apply Kd.N_drewN | apply Kd.N_drew)); exact HO258.out)) k_ hk_.2.1), (Kd.freshB (g := gb255) (o := .cells #[.int .i64 t253, .int .i64 t254] 24 (0, 0)) (by (with_reducible repeat (first | refine blk_drewN ?_ _ | refine blk_drew ?_ | refine blk_alloc ?_ _)); exact BK255.out) k_ hk_.2.1)⟩)) (below_size (by repeat (first | (with_reducible first | exact HB.out | apply below_alloc | apply pw_below_drewN | apply below_drew1 | refine below_set ?_ GE255.out) | exact HB.out)))); have n4_ := Aside0.mk (blk_below (g := gb255) (o := .cells #[.int .i64 t253, .int .i64 t254] 24 (0, 0)) (by (with_reducible repeat (first | refine blk_drewN ?_ _ | refine blk_drew ?_ | refine blk_alloc ?_ _)); exact BK255.out) hb); have n5_ := Aside0.mk (below_step (by repeat (first | (with_reducible first | exact HB.out | apply below_alloc | apply pw_below_drewN | apply below_drew1 | refine below_set ?_ GE255.out) | exact HB.out)) hb); clear HO249; clear HO252; clear HO258; clear BK255; clear HB; have HO249 := n0_; have HO252 := n1_; have HO258 := n2_; have HO261 := n3_; have BK255 := n4_; have HB := n5_; clear n0_ n1_ n2_ n3_ n4_ n5_; (try clear hb); (try clear hb2); (try clear hk); (try clear hi); (try clear ho0)) | ((with_reducible refine gate_dst (N := 4) rfl ?_); (try (refine gate_guard (by rfl) ?_; dsimp only)); refine box_event ?hg (N := 4) ?hd (cs := #[.int .i64 0, .int .i64 0]) (t := 24) ?hr ?_; (case hd => rfl); (case hg => rfl); (case hr => first | (go_simp; done) | (go_simp; rfl)); intro gb264 hg w21 hbox hb; have n0_ := Aside0.mk (Kd.N_below (Kd.N_elderB (by (with_reducible repeat (first | apply Kd.N_alloc | apply Kd.N_drewN | apply Kd.N_drew)); exact HO249.out) gb264 (Nat.le_of_eq hg.symm)) hb); have n1_ := Aside0.mk (Kd.R_below (by (with_reducible repeat (first | apply Kd.R_alloc | apply Kd.R_drewN | apply Kd.R_drew)); exact HO252.out) hb); have n2_ := Aside0.mk (Kd.N_below (Kd.N_elderB (by (with_reducible repeat (first | apply Kd.N_alloc | apply Kd.N_drewN | apply Kd.N_drew)); exact HO258.out) gb264 (Nat.le_of_eq hg.symm)) hb); have n3_ := Aside0.mk (Kd.N_below (Kd.N_elderB (by (with_reducible repeat (first | apply Kd.N_alloc | apply Kd.N_drewN | apply Kd.N_drew)); exact HO261.out) gb264 (Nat.le_of_eq hg.symm)) hb); have n4_ := Aside0.mk (blk_below (g := gb255) (o := .cells #[.int .i64 t253, .int .i64 t254] 24 (0, 0)) (by (with_reducible repeat (first | refine blk_drewN ?_ _ | refine blk_drew ?_ | refine blk_alloc ?_ _)); exact BK255.out) hb); have n5_ := Aside0.mk (below_step (by repeat (first | (with_reducible first | exact HB.out | apply below_alloc | apply pw_below_drewN | apply below_drew1 | refine below_set ?_ GE255.out) | exact HB.out)) hb); have n6_ := Aside0.mk (hbox); have n7_ := Aside0.mk ((by rw [hg]; exact (below_size (by repeat (first | (with_reducible first | exact HB.out | apply below_alloc | apply pw_below_drewN | apply below_drew1 | refine below_set ?_ GE255.out) | exact HB.out))) : w.heap.size ≤ gb264)); have n8_ := Aside0.mk ((by rw [hg]; exact (below_size (by repeat (first | (with_reducible first | exact HB.out | apply below_alloc | apply pw_below_drewN | apply below_drew1 | refine below_set ?_ GE255.out) | exact HB.out))) : w.heap.size ≤ gb264)); have n9_ := Aside0.mk ((by rw [hg]; exact Nat.ne_of_lt (blk_lt (g := gb255) (o := .cells #[.int .i64 t253, .int .i64 t254] 24 (0, 0)) (by (with_reducible repeat (first | refine blk_drewN ?_ _ | refine blk_drew ?_ | refine blk_alloc ?_ _)); exact BK255.out)) : gb255 ≠ gb264)); have n10_ := Aside0.mk ((by rw [hg]; exact Nat.ne_of_gt (blk_lt (g := gb255) (o := .cells #[.int .i64 t253, .int .i64 t254] 24 (0, 0)) (by (with_reducible repeat (first | refine blk_drewN ?_ _ | refine blk_drew ?_ | refine blk_alloc ?_ _)); exact BK255.out)) : gb264 ≠ gb255)); clear HO249; clear HO252; clear HO258; clear HO261; clear BK255; clear HB; have HO249 := n0_; have HO252 := n1_; have HO258 := n2_; have HO261 := n3_; have BK255 := n4_; have HB := n5_; have BK264 := n6_; have GW264 := n7_; have GE264 := n8_; have NB255_264 := n9_; have NB264_255 := n10_; clear n0_ n1_ n2_ n3_ n4_ n5_ n6_ n7_ n8_ n9_ n10_; clear hb hbox hg; have hnb22 := NB264_255.out; have hnc22 := NB255_264.out; have hcz23_0 : w21.cell? ⟨gb264, 0, none⟩ = some (.int .i64 0) := (blk_cell BK264.out 0).trans rfl; have hcz23_1 : w21.cell? ⟨gb264, 1, none⟩ = some (.int .i64 0) := (blk_cell BK264.out 1).trans rfl; have hfz23_0 := blk_frozen BK264.out 0; have hfz23_1 := blk_frozen BK264.out 1; have hcz24_0 : w21.cell? ⟨gb255, 0, none⟩ = some (.int .i64 t253) := (blk_cell BK255.out 0).trans rfl; have hcz24_1 : w21.cell? ⟨gb255, 1, none⟩ = some (.int .i64 t254) := (blk_cell BK255.out 1).trans rfl; have hfz24_0 := blk_frozen BK255.out 0; have hfz24_1 := blk_frozen BK255.out 1) | ((with_reducible refine gate_dst (N := 25) rfl ?_); (try (refine gate_guard (by rfl) ?_; dsimp only)); refine Kd.R_lit (Kd.int .i64) _ 3 ?hg (N := 25) ?hd (xs := ([0] : List Int)) (inner := [.int .i64 0]) (ok := fun _ => True) (okp := fun _ => True) ?hr ?hp (fun _ hk => hk) trivial (Below.refl _ _) (Nat.le_refl _) (by simp) ?_; (case hd => rfl); (case hg => rfl); (case hr => first | (go_simp; done) | (go_simp; rfl)); (case hp => exact (Reps.one (show Kd.M (Kd.int .i64) _ _ _ 0 [.int .i64 0] from rfl) (Reps.none _ _))); intro v266 w25 ho26 hb hg_ hnew_; clear hg_ hnew_; (first | rw [← Ny265.out] at ho26 | (simp only [Int.reduceToNat] at ho26; rw [← Ny265.out] at ho26)); have n0_ := Aside0.mk (Kd.N_elder' (by (with_reducible repeat (first | apply Kd.N_alloc | apply Kd.N_drewN | apply Kd.N_drew)); exact (Kd.N_mono (Kd.N_far (p := ⟨gb264, 1, none⟩) (Kd.N_far (p := ⟨gb264, 0, none⟩) (Kd.N_mono HO249.out (fun k_ hk => (⟨hk, hk.2⟩ : _ ∧ k_ ≠ gb264))) (fun _ hk => hk.2) (.int .i64 t262)) (fun _ hk => hk.2) (.int .i64 t263)) (fun _ h_ => h_.1))) (Kd.R_base ho26) hb); have n1_ := Aside0.mk (Kd.R_elder' (by (with_reducible repeat (first | apply Kd.R_alloc | apply Kd.R_drewN | apply Kd.R_drew)); exact (Kd.R_mono (Kd.R_far (p := ⟨gb264, 1, none⟩) (Kd.R_far (p := ⟨gb264, 0, none⟩) (Kd.R_types HO252.out BK264.out (by decide)) (fun _ hk => hk.2) (.int .i64 t262)) (fun _ hk => hk.2) (.int .i64 t263)) (fun _ h_ => h_.1))) (Kd.R_base ho26) hb); have n2_ := Aside0.mk (Kd.N_elder' (by (with_reducible repeat (first | apply Kd.N_alloc | apply Kd.N_drewN | apply Kd.N_drew)); exact (Kd.N_mono (Kd.N_far (p := ⟨gb264, 1, none⟩) (Kd.N_far (p := ⟨gb264, 0, none⟩) (Kd.N_mono HO258.out (fun k_ hk => (⟨hk, hk.2⟩ : _ ∧ k_ ≠ gb264))) (fun _ hk => hk.2) (.int .i64 t262)) (fun _ hk => hk.2) (.int .i64 t263)) (fun _ h_ => h_.1))) (Kd.R_base ho26) hb); have n3_ := Aside0.mk (Kd.N_elder' (by (with_reducible repeat (first | apply Kd.N_alloc | apply Kd.N_drewN | apply Kd.N_drew)); exact (Kd.N_mono (Kd.N_far (p := ⟨gb264, 1, none⟩) (Kd.N_far (p := ⟨gb264, 0, none⟩) (Kd.N_mono HO261.out (fun k_ hk => (⟨hk, hk.2⟩ : _ ∧ k_ ≠ gb264))) (fun _ hk => hk.2) (.int .i64 t262)) (fun _ hk => hk.2) (.int .i64 t263)) (fun _ h_ => h_.1))) (Kd.R_base ho26) hb); have n4_ := Aside0.mk (Kd.R_lower (Kd.R_new' ho26 (Kd.R_lt (by (with_reducible repeat (first | apply Kd.R_alloc | apply Kd.R_drewN | apply Kd.R_drew)); exact (Kd.R_mono (Kd.R_far (p := ⟨gb264, 1, none⟩) (Kd.R_far (p := ⟨gb264, 0, none⟩) (Kd.R_types HO252.out BK264.out (by decide)) (fun _ hk => hk.2) (.int .i64 t262)) (fun _ hk => hk.2) (.int .i64 t263)) (fun _ h_ => h_.1))))) (below_size (by repeat (first | (with_reducible first | exact HB.out | apply below_alloc | apply pw_below_drewN | apply below_drew1 | refine below_set ?_ GE255.out | refine below_set ?_ GE264.out) | exact HB.out)))); have n5_ := Aside0.mk (blk_below (g := gb255) (o := .cells #[.int .i64 t253, .int .i64 t254] 24 (0, 0)) (by (with_reducible repeat (first | refine blk_drewN ?_ _ | refine blk_drew ?_ | refine blk_alloc ?_ _)); refine blk_far ?_ NB255_264.out _; (with_reducible repeat (first | refine blk_drewN ?_ _ | refine blk_drew ?_ | refine blk_alloc ?_ _)); refine blk_far ?_ NB255_264.out _; (with_reducible repeat (first | refine blk_drewN ?_ _ | refine blk_drew ?_ | refine blk_alloc ?_ _)); exact BK255.out) hb); have n6_ := Aside0.mk (blk_below (g := gb264) (o := .cells #[.int .i64 t262, .int .i64 t263] 24 (0, 0)) (by (with_reducible repeat (first | refine blk_drewN ?_ _ | refine blk_drew ?_ | refine blk_alloc ?_ _)); refine blk_put (cs := #[.int .i64 t262, .int .i64 0]) ?_ 1 _ rfl; (with_reducible repeat (first | refine blk_drewN ?_ _ | refine blk_drew ?_ | refine blk_alloc ?_ _)); refine blk_put (cs := #[.int .i64 0, .int .i64 0]) ?_ 0 _ rfl; (with_reducible repeat (first | refine blk_drewN ?_ _ | refine blk_drew ?_ | refine blk_alloc ?_ _)); exact BK264.out) hb); have n7_ := Aside0.mk (below_step (by repeat (first | (with_reducible first | exact HB.out | apply below_alloc | apply pw_below_drewN | apply below_drew1 | refine below_set ?_ GE255.out | refine below_set ?_ GE264.out) | exact HB.out)) hb); clear HO249; clear HO252; clear HO258; clear HO261; clear BK255; clear BK264; clear HB; have HO249 := n0_; have HO252 := n1_; have HO258 := n2_; have HO261 := n3_; have HO267 := n4_; have BK255 := n5_; have BK264 := n6_; have HB := n7_; clear n0_ n1_ n2_ n3_ n4_ n5_ n6_ n7_; clear hb ho26; obtain ⟨Ao27, co27, eo27⟩ := Kd.R_slice HO252.out; subst eo27; obtain ⟨Ao28, co28, eo28⟩ := Kd.R_slice HO267.out; subst eo28) | (go_at_call 15; (with_reducible refine (changeforgeref5_Ints.calls k _ _ t250 _ _ y265 true _ ?side1 ?side2 ?side3 ?side4 A7.out).mono ?_); (case side1 => repeat (first | exact (Kd.R_reads' HO252.out).2.2 | (with_reducible refine Kd.C_alloc ?_ _) | (with_reducible refine Kd.C_drewN ?_ _) | (with_reducible refine Kd.C_drew ?_))); (case side2 => exact (Kd.R_reads' HO252.out).2.1); (case side3 => repeat (first | exact (Kd.R_reads' HO267.out).2.2 | (with_reducible refine Kd.C_alloc ?_ _) | (with_reducible refine Kd.C_drewN ?_ _) | (with_reducible refine Kd.C_drew ?_))); (case side4 => exact (Kd.R_reads' HO267.out).2.1); rintro e w' ⟨rfl, ⟨nd, rfl⟩⟩) | ((with_reducible refine gate_dst (N := 31) rfl ?_); (try (refine gate_guard (by rfl) ?_; dsimp only)); refine Kd.R_lit (Kd.int .i64) _ 3 ?hg (N := 31) ?hd (xs := ([0] : List Int)) (inner := [.int .i64 0]) (ok := fun _ => True) (okp := fun _ => True) ?hr ?hp (fun _ hk => hk) trivial (Below.refl _ _) (Nat.le_refl _) (by simp) ?_; (case hd => rfl); (case hg => rfl); (case hr => first | (go_simp; done) | (go_simp; rfl)); (case hp => exact (Reps.one (show Kd.M (Kd.int .i64) _ _ _ 0 [.int .i64 0] from rfl) (Reps.none _ _))); intro v270 w29 ho30 hb hg_ hnew_; clear hg_ hnew_; (first | rw [← Ny269.out] at ho30 | (simp only [Int.reduceToNat] at ho30; rw [← Ny269.out] at ho30)); have n0_ := Aside0.mk (Kd.N_elder' (by (with_reducible repeat (first | apply Kd.N_alloc | apply Kd.N_drewN | apply Kd.N_drew)); exact HO249.out) (Kd.R_base ho30) hb); have n1_ := Aside0.mk (Kd.R_elder' (by (with_reducible repeat (first | apply Kd.R_alloc | apply Kd.R_drewN | apply Kd.R_drew)); exact HO252.out) (Kd.R_base ho30) hb); have n2_ := Aside0.mk (Kd.N_elder' (by (with_reducible repeat (first | apply Kd.N_alloc | apply Kd.N_drewN | apply Kd.N_drew)); exact HO258.out) (Kd.R_base ho30) hb); have n3_ := Aside0.mk (Kd.N_elder' (by (with_reducible repeat (first | apply Kd.N_alloc | apply Kd.N_drewN | apply Kd.N_drew)); exact HO261.out) (Kd.R_base ho30) hb); have n4_ := Aside0.mk (Kd.R_elder' (by (with_reducible repeat (first | apply Kd.R_alloc | apply Kd.R_drewN | apply Kd.R_drew)); exact HO267.out) (Kd.R_base ho30) hb); have n5_ := Aside0.mk (Kd.R_lower (Kd.R_new' (Kd.R_new' ho30 (Kd.R_lt (by (with_reducible repeat (first | apply Kd.R_alloc | apply Kd.R_drewN | apply Kd.R_drew)); exact HO252.out))) (Kd.R_lt (by (with_reducible repeat (first | apply Kd.R_alloc | apply Kd.R_drewN | apply Kd.R_drew)); exact HO267.out))) (below_size (by repeat (first | (with_reducible first | exact HB.out | apply below_alloc | apply pw_below_drewN | apply below_drew1 | refine below_set ?_ GE255.out | refine below_set ?_ GE264.out) | exact HB.out)))); have n6_ := Aside0.mk (blk_below (g := gb255) (o := .cells #[.int .i64 t253, .int .i64 t254] 24 (0, 0)) (by (with_reducible repeat (first | refine blk_drewN ?_ _ | refine blk_drew ?_ | refine blk_alloc ?_ _)); exact BK255.out) hb); have n7_ := Aside0.mk (blk_below (g := gb264) (o := .cells #[.int .i64 t262, .int .i64 t263] 24 (0, 0)) (by (with_reducible repeat (first | refine blk_drewN ?_ _ | refine blk_drew ?_ | refine blk_alloc ?_ _)); exact BK264.out) hb); have n8_ := Aside0.mk (below_step (by repeat (first | (with_reducible first | exact HB.out | apply below_alloc | apply pw_below_drewN | apply below_drew1 | refine below_set ?_ GE255.out | refine below_set ?_ GE264.out) | exact HB.out)) hb); clear HO249; clear HO252; clear HO258; clear HO261; clear HO267; clear BK255; clear BK264; clear HB; have HO249 := n0_; have HO252 := n1_; have HO258 := n2_; have HO261 := n3_; have HO267 := n4_; have HO271 := n5_; have BK255 := n6_; have BK264 := n7_; have HB := n8_; clear n0_ n1_ n2_ n3_ n4_ n5_ n6_ n7_ n8_; clear hb ho30; obtain ⟨Ao31, co31, eo31⟩ := Kd.R_slice HO271.out; subst eo31) | ((with_reducible refine gate_dst (N := 33) rfl ?_); (try (refine gate_guard (by rfl) ?_; dsimp only)); refine Kd.N_lit k44 _ 44 ?hg (N' := 33) ?hd (xs := ([(⟨0, 1, ([] : List Int)⟩ : S44), (⟨2, 2, y269⟩ : S44)] : List (S44))) (inner := [.int .i64 0, .int .i64 1, .slice none 0 0, .int .i64 2, .int .i64 2, .slice Ao31 y269.length co31]) (ok := (fun k_ => some k_ ≠ (.slice Ao14 t247.length co14 : Value).ownBlock ∧ some k_ ≠ (.slice Ao27 t250.length co27 : Value).ownBlock ∧ some k_ ≠ (.slice Ao19 t256.length co19 : Value).ownBlock ∧ some k_ ≠ (v260 : Value).ownBlock ∧ some k_ ≠ (.slice Ao28 y265.length co28 : Value).ownBlock ∧ k_ ≠ gb255 ∧ k_ ≠ gb264)) (okp := (fun k_ => some k_ ≠ (.slice Ao14 t247.length co14 : Value).ownBlock ∧ some k_ ≠ (.slice Ao27 t250.length co27 : Value).ownBlock ∧ some k_ ≠ (.slice Ao19 t256.length co19 : Value).ownBlock ∧ some k_ ≠ (v260 : Value).ownBlock ∧ some k_ ≠ (.slice Ao28 y265.length co28 : Value).ownBlock ∧ k_ ≠ gb255 ∧ k_ ≠ gb264)) ?hr ?hp (fun _ hk => hk) ((show ∀ k_, w29.heap.size ≤ k_ → (fun k_ => some k_ ≠ (.slice Ao14 t247.length co14 : Value).ownBlock ∧ some k_ ≠ (.slice Ao27 t250.length co27 : Value).ownBlock ∧ some k_ ≠ (.slice Ao19 t256.length co19 : Value).ownBlock ∧ some k_ ≠ (v260 : Value).ownBlock ∧ some k_ ≠ (.slice Ao28 y265.length co28 : Value).ownBlock ∧ k_ ≠ gb255 ∧ k_ ≠ gb264) k_ from fun k_ hk => ⟨Kd.fresh' (Kd.N_lt (by (with_reducible repeat (first | apply Kd.N_alloc | apply Kd.N_drewN | apply Kd.N_drew)); exact HO249.out)) k_ hk, Kd.fresh' (Kd.R_lt (by (with_reducible repeat (first | apply Kd.R_alloc | apply Kd.R_drewN | apply Kd.R_drew)); exact HO252.out)) k_ hk, Kd.fresh' (Kd.N_lt (by (with_reducible repeat (first | apply Kd.N_alloc | apply Kd.N_drewN | apply Kd.N_drew)); exact HO258.out)) k_ hk, Kd.fresh' (Kd.N_lt (by (with_reducible repeat (first | apply Kd.N_alloc | apply Kd.N_drewN | apply Kd.N_drew)); exact HO261.out)) k_ hk, Kd.fresh' (Kd.R_lt (by (with_reducible repeat (first | apply Kd.R_alloc | apply Kd.R_drewN | apply Kd.R_drew)); exact HO267.out)) k_ hk, Kd.freshB (g := gb255) (o := .cells #[.int .i64 t253, .int .i64 t254] 24 (0, 0)) (by (with_reducible repeat (first | refine blk_drewN ?_ _ | refine blk_drew ?_ | refine blk_alloc ?_ _)); exact BK255.out) k_ hk, Kd.freshB (g := gb264) (o := .cells #[.int .i64 t262, .int .i64 t263] 24 (0, 0)) (by (with_reducible repeat (first | refine blk_drewN ?_ _ | refine blk_drew ?_ | refine blk_alloc ?_ _)); exact BK264.out) k_ hk⟩) _ (Nat.le_refl _)) (Below.refl _ _) (Nat.le_refl _) (by simp) ?_; (case hd => rfl); (case hg => rfl); (case hr => first | (go_simp; done) | (go_simp; rfl)); (case hp => exact (Reps.c3 (show Kd.FK k44 _ _ (⟨0, 1, ([] : List Int)⟩ : S44) [.int .i64 0, .int .i64 1, .slice none 0 0] from (k44_mkF _ _ (⟨0, 1, ([] : List Int)⟩ : S44) (Nat.le_refl _) (Kd.F_nil _ _ _))) (Reps.c3 (show Kd.FK k44 _ _ (⟨2, 2, y269⟩ : S44) [.int .i64 2, .int .i64 2, .slice Ao31 y269.length co31] from (k44_mkF _ _ (⟨2, 2, y269⟩ : S44) (Kd.R_reads' (Kd.R_mono (ok' := (fun k_ => some k_ ≠ (.slice Ao14 t247.length co14 : Value).ownBlock ∧ some k_ ≠ (.slice Ao27 t250.length co27 : Value).ownBlock ∧ some k_ ≠ (.slice Ao19 t256.length co19 : Value).ownBlock ∧ some k_ ≠ (v260 : Value).ownBlock ∧ some k_ ≠ (.slice Ao28 y265.length co28 : Value).ownBlock ∧ k_ ≠ gb255 ∧ k_ ≠ gb264)) (Kd.R_types (Kd.R_types (Kd.R_apart' (Kd.R_apart' (Kd.R_apart' (HO271.out) (Kd.N_typed HO249.out) (by decide)) (Kd.N_typed HO258.out) (by decide)) (Kd.N_typed HO261.out) (by decide)) BK255.out (by decide)) BK264.out (by decide)) (fun k_ hk => ⟨hk.1.1.1.1.2, ⟨hk.1.1.1.1.1.1.2, ⟨hk.1.1.1.2, ⟨hk.1.1.2, ⟨hk.1.1.1.1.1.2, ⟨hk.1.2, hk.2⟩⟩⟩⟩⟩⟩))).2.1 (Kd.R_F (Kd.R_mono (ok' := (fun k_ => some k_ ≠ (.slice Ao14 t247.length co14 : Value).ownBlock ∧ some k_ ≠ (.slice Ao27 t250.length co27 : Value).ownBlock ∧ some k_ ≠ (.slice Ao19 t256.length co19 : Value).ownBlock ∧ some k_ ≠ (v260 : Value).ownBlock ∧ some k_ ≠ (.slice Ao28 y265.length co28 : Value).ownBlock ∧ k_ ≠ gb255 ∧ k_ ≠ gb264)) (Kd.R_types (Kd.R_types (Kd.R_apart' (Kd.R_apart' (Kd.R_apart' (HO271.out) (Kd.N_typed HO249.out) (by decide)) (Kd.N_typed HO258.out) (by decide)) (Kd.N_typed HO261.out) (by decide)) BK255.out (by decide)) BK264.out (by decide)) (fun k_ hk => ⟨hk.1.1.1.1.2, ⟨hk.1.1.1.1.1.1.2, ⟨hk.1.1.1.2, ⟨hk.1.1.2, ⟨hk.1.1.1.1.1.2, ⟨hk.1.2, hk.2⟩⟩⟩⟩⟩⟩))))) (Reps.none _ _)))); intro v273 w32 ho33 hb hg_ hnew_; clear hg_ hnew_; (first | rw [← Ny272.out] at ho33 | (simp only [Int.reduceToNat] at ho33; rw [← Ny272.out] at ho33)); have n0_ := Aside0.mk (Kd.N_elder' (by (with_reducible repeat (first | apply Kd.N_alloc | apply Kd.N_drewN | apply Kd.N_drew)); exact HO249.out) (by first | exact Kd.N_base ho33 | exact Kd.S_base ho33 | exact Kd.R_base ho33) hb); have n1_ := Aside0.mk (Kd.R_below (by (with_reducible repeat (first | apply Kd.R_alloc | apply Kd.R_drewN | apply Kd.R_drew)); exact HO252.out) hb); have n2_ := Aside0.mk (Kd.N_elder' (by (with_reducible repeat (first | apply Kd.N_alloc | apply Kd.N_drewN | apply Kd.N_drew)); exact HO258.out) (by first | exact Kd.N_base ho33 | exact Kd.S_base ho33 | exact Kd.R_base ho33) hb); have n3_ := Aside0.mk (Kd.N_elder' (by (with_reducible repeat (first | apply Kd.N_alloc | apply Kd.N_drewN | apply Kd.N_drew)); exact HO261.out) (by first | exact Kd.N_base ho33 | exact Kd.S_base ho33 | exact Kd.R_base ho33) hb); have n4_ := Aside0.mk (Kd.R_below (by (with_reducible repeat (first | apply Kd.R_alloc | apply Kd.R_drewN | apply Kd.R_drew)); exact HO267.out) hb); have n5_ := Aside0.mk (Kd.N_lower ho33 (below_size (by repeat (first | (with_reducible first | exact HB.out | apply below_alloc | apply pw_below_drewN | apply below_drew1 | refine below_set ?_ GE255.out | refine below_set ?_ GE264.out) | exact HB.out)))); have n6_ := Aside0.mk (blk_below (g := gb255) (o := .cells #[.int .i64 t253, .int .i64 t254] 24 (0, 0)) (by (with_reducible repeat (first | refine blk_drewN ?_ _ | refine blk_drew ?_ | refine blk_alloc ?_ _)); exact BK255.out) hb); have n7_ := Aside0.mk (blk_below (g := gb264) (o := .cells #[.int .i64 t262, .int .i64 t263] 24 (0, 0)) (by (with_reducible repeat (first | refine blk_drewN ?_ _ | refine blk_drew ?_ | refine blk_alloc ?_ _)); exact BK264.out) hb); have n8_ := Aside0.mk (below_step (by repeat (first | (with_reducible first | exact HB.out | apply below_alloc | apply pw_below_drewN | apply below_drew1 | refine below_set ?_ GE255.out | refine below_set ?_ GE264.out) | exact HB.out)) hb); clear HO249; clear HO252; clear HO258; clear HO261; clear HO267; clear BK255; clear BK264; clear HB; clear HO271; have HO249 := n0_; have HO252 := n1_; have HO258 := n2_; have HO261 := n3_; have HO267 := n4_; have HO274 := n5_; have BK255 := n6_; have BK264 := n7_; have HB := n8_; clear n0_ n1_ n2_ n3_ n4_ n5_ n6_ n7_ n8_; clear hb ho33; obtain ⟨Ao34, co34, eo34⟩ := Kd.N_slice HO261.out; subst eo34; obtain ⟨Ao35, co35, eo35⟩ := Kd.N_slice HO274.out; subst eo35) | (go_at_call 18; (with_reducible refine (changeforgeref6_SameSteps.calls k _ _ t259 _ _ y272 true _ ?side1 ?side2 ?side3 ?side4 A9.out).mono ?_); (case side1 => repeat (first | exact (Kd.N_reads' HO261.out).2.2 | (with_reducible refine Kd.C_alloc ?_ _) | (with_reducible refine Kd.C_drewN ?_ _) | (with_reducible refine Kd.C_drew ?_))); (case side2 => exact (Kd.N_reads' HO261.out).2.1); (case side3 => repeat (first | exact (Kd.N_reads' HO274.out).2.2 | (with_reducible refine Kd.C_alloc ?_ _) | (with_reducible refine Kd.C_drewN ?_ _) | (with_reducible refine Kd.C_drew ?_))); (case side4 => exact (Kd.N_reads' HO274.out).2.1); rintro e w36 ⟨rfl, hb⟩; have n0_ := Aside0.mk (Kd.N_below (by (with_reducible repeat (first | apply Kd.N_alloc | apply Kd.N_drewN | apply Kd.N_drew)); exact HO249.out) hb); have n1_ := Aside0.mk (Kd.R_below (by (with_reducible repeat (first | apply Kd.R_alloc | apply Kd.R_drewN | apply Kd.R_drew)); exact HO252.out) hb); have n2_ := Aside0.mk (Kd.N_below (by (with_reducible repeat (first | apply Kd.N_alloc | apply Kd.N_drewN | apply Kd.N_drew)); exact HO258.out) hb); have n3_ := Aside0.mk (Kd.N_below (by (with_reducible repeat (first | apply Kd.N_alloc | apply Kd.N_drewN | apply Kd.N_drew)); exact HO261.out) hb); have n4_ := Aside0.mk (Kd.R_below (by (with_reducible repeat (first | apply Kd.R_alloc | apply Kd.R_drewN | apply Kd.R_drew)); exact HO267.out) hb); have n5_ := Aside0.mk (Kd.N_below (by (with_reducible repeat (first | apply Kd.N_alloc | apply Kd.N_drewN | apply Kd.N_drew)); exact HO274.out) hb); have n6_ := Aside0.mk (blk_below (g := gb255) (o := .cells #[.int .i64 t253, .int .i64 t254] 24 (0, 0)) (by (with_reducible repeat (first | refine blk_drewN ?_ _ | refine blk_drew ?_ | refine blk_alloc ?_ _)); exact BK255.out) hb); have n7_ := Aside0.mk (blk_below (g := gb264) (o := .cells #[.int .i64 t262, .int .i64 t263] 24 (0, 0)) (by (with_reducible repeat (first | refine blk_drewN ?_ _ | refine blk_drew ?_ | refine blk_alloc ?_ _)); exact BK264.out) hb); have n8_ := Aside0.mk (below_step (by repeat (first | (with_reducible first | exact HB.out | apply below_alloc | apply pw_below_drewN | apply below_drew1 | refine below_set ?_ GE255.out | refine below_set ?_ GE264.out) | exact HB.out)) hb); clear HO249; clear HO252; clear HO258; clear HO261; clear HO267; clear HO274; clear BK255; clear BK264; clear HB; have HO249 := n0_; have HO252 := n1_; have HO258 := n2_; have HO261 := n3_; have HO267 := n4_; have HO274 := n5_; have BK255 := n6_; have BK264 := n7_; have HB := n8_; clear n0_ n1_ n2_ n3_ n4_ n5_ n6_ n7_ n8_; (try clear hb); (try clear hb2); (try clear hk); (try clear hi)) | ((with_reducible refine gate_dst (N := 38) rfl ?_); (try (refine gate_guard (by rfl) ?_; dsimp only)); refine Kd.R_lit (Kd.int .i64) _ 3 ?hg (N := 38) ?hd (xs := ([0] : List Int)) (inner := [.int .i64 0]) (ok := fun _ => True) (okp := fun _ => True) ?hr ?hp (fun _ hk => hk) trivial (Below.refl _ _) (Nat.le_refl _) (by simp) ?_; (case hd => rfl); (case hg => rfl); (case hr => first | (go_simp; done) | (go_simp; rfl)); (case hp => exact (Reps.one (show Kd.M (Kd.int .i64) _ _ _ 0 [.int .i64 0] from rfl) (Reps.none _ _))); intro v277 w37 ho38 hb hg_ hnew_; clear hg_ hnew_; (first | rw [← Ny276.out] at ho38 | (simp only [Int.reduceToNat] at ho38; rw [← Ny276.out] at ho38)); have n0_ := Aside0.mk (Kd.N_elder' (by (with_reducible repeat (first | apply Kd.N_alloc | apply Kd.N_drewN | apply Kd.N_drew)); exact HO249.out) (Kd.R_base ho38) hb); have n1_ := Aside0.mk (Kd.R_elder' (by (with_reducible repeat (first | apply Kd.R_alloc | apply Kd.R_drewN | apply Kd.R_drew)); exact HO252.out) (Kd.R_base ho38) hb); have n2_ := Aside0.mk (Kd.N_elder' (by (with_reducible repeat (first | apply Kd.N_alloc | apply Kd.N_drewN | apply Kd.N_drew)); exact HO258.out) (Kd.R_base ho38) hb); have n3_ := Aside0.mk (Kd.N_elder' (by (with_reducible repeat (first | apply Kd.N_alloc | apply Kd.N_drewN | apply Kd.N_drew)); exact HO261.out) (Kd.R_base ho38) hb); have n4_ := Aside0.mk (Kd.R_elder' (by (with_reducible repeat (first | apply Kd.R_alloc | apply Kd.R_drewN | apply Kd.R_drew)); exact HO267.out) (Kd.R_base ho38) hb); have n5_ := Aside0.mk (Kd.N_elder' (by (with_reducible repeat (first | apply Kd.N_alloc | apply Kd.N_drewN | apply Kd.N_drew)); exact HO274.out) (Kd.R_base ho38) hb); have n6_ := Aside0.mk (Kd.R_lower (Kd.R_new' (Kd.R_new' ho38 (Kd.R_lt (by (with_reducible repeat (first | apply Kd.R_alloc | apply Kd.R_drewN | apply Kd.R_drew)); exact HO252.out))) (Kd.R_lt (by (with_reducible repeat (first | apply Kd.R_alloc | apply Kd.R_drewN | apply Kd.R_drew)); exact HO267.out))) (below_size (by repeat (first | (with_reducible first | exact HB.out | apply below_alloc | apply pw_below_drewN | apply below_drew1 | refine below_set ?_ GE255.out | refine below_set ?_ GE264.out) | exact HB.out)))); have n7_ := Aside0.mk (blk_below (g := gb255) (o := .cells #[.int .i64 t253, .int .i64 t254] 24 (0, 0)) (by (with_reducible repeat (first | refine blk_drewN ?_ _ | refine blk_drew ?_ | refine blk_alloc ?_ _)); exact BK255.out) hb); have n8_ := Aside0.mk (blk_below (g := gb264) (o := .cells #[.int .i64 t262, .int .i64 t263] 24 (0, 0)) (by (with_reducible repeat (first | refine blk_drewN ?_ _ | refine blk_drew ?_ | refine blk_alloc ?_ _)); exact BK264.out) hb); have n9_ := Aside0.mk (below_step (by repeat (first | (with_reducible first | exact HB.out | apply below_alloc | apply pw_below_drewN | apply below_drew1 | refine below_set ?_ GE255.out | refine below_set ?_ GE264.out) | exact HB.out)) hb); clear HO249; clear HO252; clear HO258; clear HO261; clear HO267; clear HO274; clear BK255; clear BK264; clear HB; have HO249 := n0_; have HO252 := n1_; have HO258 := n2_; have HO261 := n3_; have HO267 := n4_; have HO274 := n5_; have HO278 := n6_; have BK255 := n7_; have BK264 := n8_; have HB := n9_; clear n0_ n1_ n2_ n3_ n4_ n5_ n6_ n7_ n8_ n9_; clear hb ho38; obtain ⟨Ao39, co39, eo39⟩ := Kd.R_slice HO278.out; subst eo39) | ((with_reducible refine gate_dst (N := 40) rfl ?_); (try (refine gate_guard (by rfl) ?_; dsimp only)); refine Kd.N_lit k33 _ 33 ?hg (N' := 40) ?hd (xs := ([(⟨1, ([] : List Int)⟩ : S33), (⟨3, y276⟩ : S33)] : List (S33))) (inner := [.int .i64 1, .slice none 0 0, .int .i64 3, .slice Ao39 y276.length co39]) (ok := (fun k_ => some k_ ≠ (.slice Ao14 t247.length co14 : Value).ownBlock ∧ some k_ ≠ (.slice Ao27 t250.length co27 : Value).ownBlock ∧ some k_ ≠ (.slice Ao19 t256.length co19 : Value).ownBlock ∧ some k_ ≠ (.slice Ao34 t259.length co34 : Value).ownBlock ∧ some k_ ≠ (.slice Ao28 y265.length co28 : Value).ownBlock ∧ some k_ ≠ (.slice Ao35 y272.length co35 : Value).ownBlock ∧ k_ ≠ gb255 ∧ k_ ≠ gb264)) (okp := (fun k_ => some k_ ≠ (.slice Ao14 t247.length co14 : Value).ownBlock ∧ some k_ ≠ (.slice Ao27 t250.length co27 : Value).ownBlock ∧ some k_ ≠ (.slice Ao19 t256.length co19 : Value).ownBlock ∧ some k_ ≠ (.slice Ao34 t259.length co34 : Value).ownBlock ∧ some k_ ≠ (.slice Ao28 y265.length co28 : Value).ownBlock ∧ some k_ ≠ (.slice Ao35 y272.length co35 : Value).ownBlock ∧ k_ ≠ gb255 ∧ k_ ≠ gb264)) ?hr ?hp (fun _ hk => hk) ((show ∀ k_, w37.heap.size ≤ k_ → (fun k_ => some k_ ≠ (.slice Ao14 t247.length co14 : Value).ownBlock ∧ some k_ ≠ (.slice Ao27 t250.length co27 : Value).ownBlock ∧ some k_ ≠ (.slice Ao19 t256.length co19 : Value).ownBlock ∧ some k_ ≠ (.slice Ao34 t259.length co34 : Value).ownBlock ∧ some k_ ≠ (.slice Ao28 y265.length co28 : Value).ownBlock ∧ some k_ ≠ (.slice Ao35 y272.length co35 : Value).ownBlock ∧ k_ ≠ gb255 ∧ k_ ≠ gb264) k_ from fun k_ hk => ⟨Kd.fresh' (Kd.N_lt (by (with_reducible repeat (first | apply Kd.N_alloc | apply Kd.N_drewN | apply Kd.N_drew)); exact HO249.out)) k_ hk, Kd.fresh' (Kd.R_lt (by (with_reducible repeat (first | apply Kd.R_alloc | apply Kd.R_drewN | apply Kd.R_drew)); exact HO252.out)) k_ hk, Kd.fresh' (Kd.N_lt (by (with_reducible repeat (first | apply Kd.N_alloc | apply Kd.N_drewN | apply Kd.N_drew)); exact HO258.out)) k_ hk, Kd.fresh' (Kd.N_lt (by (with_reducible repeat (first | apply Kd.N_alloc | apply Kd.N_drewN | apply Kd.N_drew)); exact HO261.out)) k_ hk, Kd.fresh' (Kd.R_lt (by (with_reducible repeat (first | apply Kd.R_alloc | apply Kd.R_drewN | apply Kd.R_drew)); exact HO267.out)) k_ hk, Kd.fresh' (Kd.N_lt (by (with_reducible repeat (first | apply Kd.N_alloc | apply Kd.N_drewN | apply Kd.N_drew)); exact HO274.out)) k_ hk, Kd.freshB (g := gb255) (o := .cells #[.int .i64 t253, .int .i64 t254] 24 (0, 0)) (by (with_reducible repeat (first | refine blk_drewN ?_ _ | refine blk_drew ?_ | refine blk_alloc ?_ _)); exact BK255.out) k_ hk, Kd.freshB (g := gb264) (o := .cells #[.int .i64 t262, .int .i64 t263] 24 (0, 0)) (by (with_reducible repeat (first | refine blk_drewN ?_ _ | refine blk_drew ?_ | refine blk_alloc ?_ _)); exact BK264.out) k_ hk⟩) _ (Nat.le_refl _)) (Below.refl _ _) (Nat.le_refl _) (by simp) ?_; (case hd => rfl); (case hg => rfl); (case hr => first | (go_simp; done) | (go_simp; rfl)); (case hp => exact (Reps.c2 (show Kd.FK k33 _ _ (⟨1, ([] : List Int)⟩ : S33) [.int .i64 1, .slice none 0 0] from (k33_mkF _ _ (⟨1, ([] : List Int)⟩ : S33) (Nat.le_refl _) (Kd.F_nil _ _ _))) (Reps.c2 (show Kd.FK k33 _ _ (⟨3, y276⟩ : S33) [.int .i64 3, .slice Ao39 y276.length co39] from (k33_mkF _ _ (⟨3, y276⟩ : S33) (Kd.R_reads' (Kd.R_mono (ok' := (fun k_ => some k_ ≠ (.slice Ao14 t247.length co14 : Value).ownBlock ∧ some k_ ≠ (.slice Ao27 t250.length co27 : Value).ownBlock ∧ some k_ ≠ (.slice Ao19 t256.length co19 : Value).ownBlock ∧ some k_ ≠ (.slice Ao34 t259.length co34 : Value).ownBlock ∧ some k_ ≠ (.slice Ao28 y265.length co28 : Value).ownBlock ∧ some k_ ≠ (.slice Ao35 y272.length co35 : Value).ownBlock ∧ k_ ≠ gb255 ∧ k_ ≠ gb264)) (Kd.R_types (Kd.R_types (Kd.R_apart' (Kd.R_apart' (Kd.R_apart' (Kd.R_apart' (HO278.out) (Kd.N_typed HO249.out) (by decide)) (Kd.N_typed HO258.out) (by decide)) (Kd.N_typed HO261.out) (by decide)) (Kd.N_typed HO274.out) (by decide)) BK255.out (by decide)) BK264.out (by decide)) (fun k_ hk => ⟨hk.1.1.1.1.1.2, ⟨hk.1.1.1.1.1.1.1.2, ⟨hk.1.1.1.1.2, ⟨hk.1.1.1.2, ⟨hk.1.1.1.1.1.1.2, ⟨hk.1.1.2, ⟨hk.1.2, hk.2⟩⟩⟩⟩⟩⟩⟩))).2.1 (Kd.R_F (Kd.R_mono (ok' := (fun k_ => some k_ ≠ (.slice Ao14 t247.length co14 : Value).ownBlock ∧ some k_ ≠ (.slice Ao27 t250.length co27 : Value).ownBlock ∧ some k_ ≠ (.slice Ao19 t256.length co19 : Value).ownBlock ∧ some k_ ≠ (.slice Ao34 t259.length co34 : Value).ownBlock ∧ some k_ ≠ (.slice Ao28 y265.length co28 : Value).ownBlock ∧ some k_ ≠ (.slice Ao35 y272.length co35 : Value).ownBlock ∧ k_ ≠ gb255 ∧ k_ ≠ gb264)) (Kd.R_types (Kd.R_types (Kd.R_apart' (Kd.R_apart' (Kd.R_apart' (Kd.R_apart' (HO278.out) (Kd.N_typed HO249.out) (by decide)) (Kd.N_typed HO258.out) (by decide)) (Kd.N_typed HO261.out) (by decide)) (Kd.N_typed HO274.out) (by decide)) BK255.out (by decide)) BK264.out (by decide)) (fun k_ hk => ⟨hk.1.1.1.1.1.2, ⟨hk.1.1.1.1.1.1.1.2, ⟨hk.1.1.1.1.2, ⟨hk.1.1.1.2, ⟨hk.1.1.1.1.1.1.2, ⟨hk.1.1.2, ⟨hk.1.2, hk.2⟩⟩⟩⟩⟩⟩⟩))))) (Reps.none _ _)))); intro v280 w40 ho41 hb hg_ hnew_; clear hg_ hnew_; (first | rw [← Ny279.out] at ho41 | (simp only [Int.reduceToNat] at ho41; rw [← Ny279.out] at ho41)); have n0_ := Aside0.mk (Kd.N_elder' (by (with_reducible repeat (first | apply Kd.N_alloc | apply Kd.N_drewN | apply Kd.N_drew)); exact HO249.out) (by first | exact Kd.N_base ho41 | exact Kd.S_base ho41 | exact Kd.R_base ho41) hb); have n1_ := Aside0.mk (Kd.R_below (by (with_reducible repeat (first | apply Kd.R_alloc | apply Kd.R_drewN | apply Kd.R_drew)); exact HO252.out) hb); have n2_ := Aside0.mk (Kd.N_elder' (by (with_reducible repeat (first | apply Kd.N_alloc | apply Kd.N_drewN | apply Kd.N_drew)); exact HO258.out) (by first | exact Kd.N_base ho41 | exact Kd.S_base ho41 | exact Kd.R_base ho41) hb); have n3_ := Aside0.mk (Kd.N_elder' (by (with_reducible repeat (first | apply Kd.N_alloc | apply Kd.N_drewN | apply Kd.N_drew)); exact HO261.out) (by first | exact Kd.N_base ho41 | exact Kd.S_base ho41 | exact Kd.R_base ho41) hb); have n4_ := Aside0.mk (Kd.R_below (by (with_reducible repeat (first | apply Kd.R_alloc | apply Kd.R_drewN | apply Kd.R_drew)); exact HO267.out) hb); have n5_ := Aside0.mk (Kd.N_elder' (by (with_reducible repeat (first | apply Kd.N_alloc | apply Kd.N_drewN | apply Kd.N_drew)); exact HO274.out) (by first | exact Kd.N_base ho41 | exact Kd.S_base ho41 | exact Kd.R_base ho41) hb); have n6_ := Aside0.mk (Kd.N_lower ho41 (below_size (by repeat (first | (with_reducible first | exact HB.out | apply below_alloc | apply pw_below_drewN | apply below_drew1 | refine below_set ?_ GE255.out | refine below_set ?_ GE264.out) | exact HB.out)))); have n7_ := Aside0.mk (blk_below (g := gb255) (o := .cells #[.int .i64 t253, .int .i64 t254] 24 (0, 0)) (by (with_reducible repeat (first | refine blk_drewN ?_ _ | refine blk_drew ?_ | refine blk_alloc ?_ _)); exact BK255.out) hb); have n8_ := Aside0.mk (blk_below (g := gb264) (o := .cells #[.int .i64 t262, .int .i64 t263] 24 (0, 0)) (by (with_reducible repeat (first | refine blk_drewN ?_ _ | refine blk_drew ?_ | refine blk_alloc ?_ _)); exact BK264.out) hb); have n9_ := Aside0.mk (below_step (by repeat (first | (with_reducible first | exact HB.out | apply below_alloc | apply pw_below_drewN | apply below_drew1 | refine below_set ?_ GE255.out | refine below_set ?_ GE264.out) | exact HB.out)) hb); clear HO249; clear HO252; clear HO258; clear HO261; clear HO267; clear HO274; clear BK255; clear BK264; clear HB; clear HO278; have HO249 := n0_; have HO252 := n1_; have HO258 := n2_; have HO261 := n3_; have HO267 := n4_; have HO274 := n5_; have HO281 := n6_; have BK255 := n7_; have BK264 := n8_; have HB := n9_; clear n0_ n1_ n2_ n3_ n4_ n5_ n6_ n7_ n8_ n9_; clear hb ho41; obtain ⟨Ao42, co42, eo42⟩ := Kd.N_slice HO281.out; subst eo42) | (go_at_call 11; (with_reducible refine (rules_Validate.calls k _ _ y279 t282 t283 _ ?side1 ?side2 ?side3 A11.out).mono ?_); (case side1 => repeat (first | exact (Kd.N_reads' HO281.out).2.2 | (with_reducible refine Kd.C_alloc ?_ _) | (with_reducible refine Kd.C_drewN ?_ _) | (with_reducible refine Kd.C_drew ?_))); (case side2 => exact (Kd.N_reads' HO281.out).2.1); (case side3 => exact Glob.below HG.out (by repeat (first | (with_reducible first | exact HB.out | apply below_alloc | apply pw_below_drewN | apply below_drew1 | refine below_set ?_ GE255.out | refine below_set ?_ GE264.out) | exact HB.out))); rintro e w43 ⟨rfl, hb⟩; have n0_ := Aside0.mk (Kd.N_below (by (with_reducible repeat (first | apply Kd.N_alloc | apply Kd.N_drewN | apply Kd.N_drew)); exact HO249.out) hb); have n1_ := Aside0.mk (Kd.R_below (by (with_reducible repeat (first | apply Kd.R_alloc | apply Kd.R_drewN | apply Kd.R_drew)); exact HO252.out) hb); have n2_ := Aside0.mk (Kd.N_below (by (with_reducible repeat (first | apply Kd.N_alloc | apply Kd.N_drewN | apply Kd.N_drew)); exact HO258.out) hb); have n3_ := Aside0.mk (Kd.N_below (by (with_reducible repeat (first | apply Kd.N_alloc | apply Kd.N_drewN | apply Kd.N_drew)); exact HO261.out) hb); have n4_ := Aside0.mk (Kd.R_below (by (with_reducible repeat (first | apply Kd.R_alloc | apply Kd.R_drewN | apply Kd.R_drew)); exact HO267.out) hb); have n5_ := Aside0.mk (Kd.N_below (by (with_reducible repeat (first | apply Kd.N_alloc | apply Kd.N_drewN | apply Kd.N_drew)); exact HO274.out) hb); have n6_ := Aside0.mk (Kd.N_below (by (with_reducible repeat (first | apply Kd.N_alloc | apply Kd.N_drewN | apply Kd.N_drew)); exact HO281.out) hb); have n7_ := Aside0.mk (blk_below (g := gb255) (o := .cells #[.int .i64 t253, .int .i64 t254] 24 (0, 0)) (by (with_reducible repeat (first | refine blk_drewN ?_ _ | refine blk_drew ?_ | refine blk_alloc ?_ _)); exact BK255.out) hb); have n8_ := Aside0.mk (blk_below (g := gb264) (o := .cells #[.int .i64 t262, .int .i64 t263] 24 (0, 0)) (by (with_reducible repeat (first | refine blk_drewN ?_ _ | refine blk_drew ?_ | refine blk_alloc ?_ _)); exact BK264.out) hb); have n9_ := Aside0.mk (below_step (by repeat (first | (with_reducible first | exact HB.out | apply below_alloc | apply pw_below_drewN | apply below_drew1 | refine below_set ?_ GE255.out | refine below_set ?_ GE264.out) | exact HB.out)) hb); clear HO249; clear HO252; clear HO258; clear HO261; clear HO267; clear HO274; clear HO281; clear BK255; clear BK264; clear HB; have HO249 := n0_; have HO252 := n1_; have HO258 := n2_; have HO261 := n3_; have HO267 := n4_; have HO274 := n5_; have HO281 := n6_; have BK255 := n7_; have BK264 := n8_; have HB := n9_; clear n0_ n1_ n2_ n3_ n4_ n5_ n6_ n7_ n8_ n9_; (try clear hb); (try clear hb2); (try clear hk); (try clear hi)) | (go_at_call 13; (with_reducible refine (changeforgelaw6_fault.calls 8 1 t284 t285 _ A12.out).mono ?_); rintro e w44 ⟨rfl, hb⟩; have n0_ := Aside0.mk (Kd.N_below (by (with_reducible repeat (first | apply Kd.N_alloc | apply Kd.N_drewN | apply Kd.N_drew)); exact HO249.out) hb); have n1_ := Aside0.mk (Kd.R_below (by (with_reducible repeat (first | apply Kd.R_alloc | apply Kd.R_drewN | apply Kd.R_drew)); exact HO252.out) hb); have n2_ := Aside0.mk (Kd.N_below (by (with_reducible repeat (first | apply Kd.N_alloc | apply Kd.N_drewN | apply Kd.N_drew)); exact HO258.out) hb); have n3_ := Aside0.mk (Kd.N_below (by (with_reducible repeat (first | apply Kd.N_alloc | apply Kd.N_drewN | apply Kd.N_drew)); exact HO261.out) hb); have n4_ := Aside0.mk (Kd.R_below (by (with_reducible repeat (first | apply Kd.R_alloc | apply Kd.R_drewN | apply Kd.R_drew)); exact HO267.out) hb); have n5_ := Aside0.mk (Kd.N_below (by (with_reducible repeat (first | apply Kd.N_alloc | apply Kd.N_drewN | apply Kd.N_drew)); exact HO274.out) hb); have n6_ := Aside0.mk (Kd.N_below (by (with_reducible repeat (first | apply Kd.N_alloc | apply Kd.N_drewN | apply Kd.N_drew)); exact HO281.out) hb); have n7_ := Aside0.mk (blk_below (g := gb255) (o := .cells #[.int .i64 t253, .int .i64 t254] 24 (0, 0)) (by (with_reducible repeat (first | refine blk_drewN ?_ _ | refine blk_drew ?_ | refine blk_alloc ?_ _)); exact BK255.out) hb); have n8_ := Aside0.mk (blk_below (g := gb264) (o := .cells #[.int .i64 t262, .int .i64 t263] 24 (0, 0)) (by (with_reducible repeat (first | refine blk_drewN ?_ _ | refine blk_drew ?_ | refine blk_alloc ?_ _)); exact BK264.out) hb); have n9_ := Aside0.mk (below_step (by repeat (first | (with_reducible first | exact HB.out | apply below_alloc | apply pw_below_drewN | apply below_drew1 | refine below_set ?_ GE255.out | refine below_set ?_ GE264.out) | exact HB.out)) hb); clear HO249; clear HO252; clear HO258; clear HO261; clear HO267; clear HO274; clear HO281; clear BK255; clear BK264; clear HB; have HO249 := n0_; have HO252 := n1_; have HO258 := n2_; have HO261 := n3_; have HO267 := n4_; have HO274 := n5_; have HO281 := n6_; have BK255 := n7_; have BK264 := n8_; have HB := n9_; clear n0_ n1_ n2_ n3_ n4_ n5_ n6_ n7_ n8_ n9_; (try clear hb); (try clear hb2); (try clear hk); (try clear hi)))
          go_ret
          exact ⟨by first | rfl | (simp [errW_none, errW_some] <;> rfl) | (simp [*, errW_none, errW_some] <;> rfl), by repeat (first | (with_reducible first | exact HB.out | apply below_alloc | apply pw_below_drewN | apply below_drew1 | refine below_set ?_ GE255.out | refine below_set ?_ GE264.out) | exact HB.out)⟩
        · replace c10 := Bool.eq_false_iff.mpr c10
          subst c10
          have H1 : (none) = some r := by rw [if_neg (show ¬ (false = true) by decide)] at H; exact H
          clear H
          have H := H1
          clear H1
          exact absurd H (by simp)
      · replace c8 := Bool.eq_false_iff.mpr c8
        subst c8
        have H1 : (none) = some r := by rw [if_neg (show ¬ (false = true) by decide)] at H; exact H
        clear H
        have H := H1
        clear H1
        exact absurd H (by simp)
    · rw [if_neg c6] at H
      exact absurd H (by simp)
  · rw [if_neg c5] at H
    exact absurd H (by simp)

mutual
def changeforgeref6_Expanded.l0 : Nat → List (S33) → List (S44) → Int → Option ((List (S44)))
  | 0, _, _, _ => none
  | k + 1, x0, x3, x4 => if x4 < (x0.length : Int) then (if 0 ≤ x4 then (if ((rd_T33 x0 x4).f0) = 6 then (changeforgeref6_Expanded.l0 k x0 x3 (wrap64 (x4 + 1))) else ((changeforgeref6_RuleLeaves.f k x0 x4).bind fun t289 => (changeforgeref6_Expanded.l1 k x0 x3 x4 t289 0 x4 ((rd_T33 x0 x4).f0) ([] : List Int)))) else (none)) else (some x3)
def changeforgeref6_Expanded.l1 : Nat → List (S33) → List (S44) → Int → List Int → Int → Int → Int → List Int → Option ((List (S44)))
  | 0, _, _, _, _, _, _, _, _ => none
  | k + 1, x0, x3, x4, x6, x7, x289000, x289001, x289002 => if x7 < (x6.length : Int) then (changeforgeref6_Expanded.l2 k x0 x3 x4 x6 x7 0 x289000 x289001 x289002) else (if x3.length < 3518437208883 then (changeforgeref6_Expanded.l0 k x0 (x3 ++ [(⟨x289000, x289001, x289002⟩ : S44)]) (wrap64 (x4 + 1))) else (none))
def changeforgeref6_Expanded.l2 : Nat → List (S33) → List (S44) → Int → List Int → Int → Int → Int → Int → List Int → Option ((List (S44)))
  | 0, _, _, _, _, _, _, _, _, _ => none
  | k + 1, x0, x3, x4, x6, x7, x8, x289000, x289001, x289002 => if x8 < (x3.length : Int) then (if 0 ≤ x8 then (if 0 ≤ x7 then (if x7 < (x6.length : Int) then (if ((rd_T44 x3 x8).f0) = (rd x6 x7) then (if x289002.length < 17592186044416 then (changeforgeref6_Expanded.l2 k x0 x3 x4 x6 x7 (wrap64 (x8 + 1)) x289000 x289001 (x289002 ++ [x8])) else (none)) else (changeforgeref6_Expanded.l2 k x0 x3 x4 x6 x7 (wrap64 (x8 + 1)) x289000 x289001 x289002)) else (none)) else (none)) else (none)) else (changeforgeref6_Expanded.l1 k x0 x3 x4 x6 (wrap64 (x7 + 1)) x289000 x289001 x289002)
end
def changeforgeref6_Expanded.f (k : Nat) (l0 : List (S33)) : Option ((List (S44))) := changeforgeref6_Expanded.l0 k l0 ([] : List (S44)) 0
theorem changeforgeref6_Expanded.mono_l : ∀ k, (∀ y0 y1 y2, LeO (changeforgeref6_Expanded.l0 k y0 y1 y2) (changeforgeref6_Expanded.l0 (k + 1) y0 y1 y2)) ∧ (∀ y0 y1 y2 y3 y4 y5 y6 y7, LeO (changeforgeref6_Expanded.l1 k y0 y1 y2 y3 y4 y5 y6 y7) (changeforgeref6_Expanded.l1 (k + 1) y0 y1 y2 y3 y4 y5 y6 y7)) ∧ (∀ y0 y1 y2 y3 y4 y5 y6 y7 y8, LeO (changeforgeref6_Expanded.l2 k y0 y1 y2 y3 y4 y5 y6 y7 y8) (changeforgeref6_Expanded.l2 (k + 1) y0 y1 y2 y3 y4 y5 y6 y7 y8))
  | 0 => ⟨fun _ _ _ r h => by simp [changeforgeref6_Expanded.l0] at h, fun _ _ _ _ _ _ _ _ r h => by simp [changeforgeref6_Expanded.l1] at h, fun _ _ _ _ _ _ _ _ _ r h => by simp [changeforgeref6_Expanded.l2] at h⟩
  | k + 1 => by
    obtain ⟨ih0, ih1, ih2⟩ := changeforgeref6_Expanded.mono_l k
    refine ⟨?_, ?_, ?_⟩
    · intro y0 y1 y2
      unfold changeforgeref6_Expanded.l0
      repeat' first
      | (with_reducible exact ih0 _ _ _)
      | (with_reducible exact ih1 _ _ _ _ _ _ _ _)
      | (with_reducible exact ih2 _ _ _ _ _ _ _ _ _)
      | (with_reducible exact changeforgeref6_RuleLeaves.mono _ _ _)
      | (with_reducible exact LeO.refl _)
      | (with_reducible exact LeO.none _)
      | (with_reducible refine LeO.ite ?_ ?_)
      | (with_reducible refine LeO.bind ?_ (fun _ => ?_))
      | exact ih0 _ _ _
      | exact ih1 _ _ _ _ _ _ _ _
      | exact ih2 _ _ _ _ _ _ _ _ _
      | exact changeforgeref6_RuleLeaves.mono _ _ _
      | exact LeO.none _
      | refine LeO.ite ?_ ?_
      | refine LeO.bind ?_ (fun _ => ?_)
    · intro y0 y1 y2 y3 y4 y5 y6 y7
      unfold changeforgeref6_Expanded.l1
      repeat' first
      | (with_reducible exact ih0 _ _ _)
      | (with_reducible exact ih1 _ _ _ _ _ _ _ _)
      | (with_reducible exact ih2 _ _ _ _ _ _ _ _ _)
      | (with_reducible exact changeforgeref6_RuleLeaves.mono _ _ _)
      | (with_reducible exact LeO.refl _)
      | (with_reducible exact LeO.none _)
      | (with_reducible refine LeO.ite ?_ ?_)
      | (with_reducible refine LeO.bind ?_ (fun _ => ?_))
      | exact ih0 _ _ _
      | exact ih1 _ _ _ _ _ _ _ _
      | exact ih2 _ _ _ _ _ _ _ _ _
      | exact changeforgeref6_RuleLeaves.mono _ _ _
      | exact LeO.none _
      | refine LeO.ite ?_ ?_
      | refine LeO.bind ?_ (fun _ => ?_)
    · intro y0 y1 y2 y3 y4 y5 y6 y7 y8
      unfold changeforgeref6_Expanded.l2
      repeat' first
      | (with_reducible exact ih0 _ _ _)
      | (with_reducible exact ih1 _ _ _ _ _ _ _ _)
      | (with_reducible exact ih2 _ _ _ _ _ _ _ _ _)
      | (with_reducible exact changeforgeref6_RuleLeaves.mono _ _ _)
      | (with_reducible exact LeO.refl _)
      | (with_reducible exact LeO.none _)
      | (with_reducible refine LeO.ite ?_ ?_)
      | (with_reducible refine LeO.bind ?_ (fun _ => ?_))
      | exact ih0 _ _ _
      | exact ih1 _ _ _ _ _ _ _ _
      | exact ih2 _ _ _ _ _ _ _ _ _
      | exact changeforgeref6_RuleLeaves.mono _ _ _
      | exact LeO.none _
      | refine LeO.ite ?_ ?_
      | refine LeO.bind ?_ (fun _ => ?_)
theorem changeforgeref6_Expanded.mono : ∀ a0 k, LeO (changeforgeref6_Expanded.f k a0) (changeforgeref6_Expanded.f (k + 1) a0) := by
  intro a0 k
  obtain ⟨ih0, ih1, ih2⟩ := changeforgeref6_Expanded.mono_l k
  unfold changeforgeref6_Expanded.f
  repeat' first
      | (with_reducible exact ih0 _ _ _)
      | (with_reducible exact ih1 _ _ _ _ _ _ _ _)
      | (with_reducible exact ih2 _ _ _ _ _ _ _ _ _)
      | (with_reducible exact changeforgeref6_RuleLeaves.mono _ _ _)
      | (with_reducible exact LeO.refl _)
      | (with_reducible exact LeO.none _)
      | (with_reducible refine LeO.ite ?_ ?_)
      | (with_reducible refine LeO.bind ?_ (fun _ => ?_))
      | exact ih0 _ _ _
      | exact ih1 _ _ _ _ _ _ _ _
      | exact ih2 _ _ _ _ _ _ _ _ _
      | exact changeforgeref6_RuleLeaves.mono _ _ _
      | exact LeO.none _
      | refine LeO.ite ?_ ?_
      | refine LeO.bind ?_ (fun _ => ?_)
def changeforgelaw6_RulesExpandMatchesSpec.f (k : Nat) (l0 : List (S33)) : Option (Bool) := (changeforgeref6_RulesFault.f k l0).bind fun bt300 => ((rules_Expand.f k l0).bind fun bt303 => ((changeforgelaw6_expands.f k).bind fun t309 => (if t309 = true then (if (bt303.2.1 == bt300.1 && (bt303.2.2 == bt300.2)) = true then (if bt300.1 = 0 then ((changeforgeref6_Expanded.f k l0).bind fun t310 => ((changeforgeref6_SameSteps.f k bt303.1 t310).bind fun t313 => (some t313))) else (if (bt303.1.length : Int) = 0 then (some true) else (some false))) else (some false)) else (some false))))
theorem changeforgelaw6_RulesExpandMatchesSpec.mono : ∀ a0 k, LeO (changeforgelaw6_RulesExpandMatchesSpec.f k a0) (changeforgelaw6_RulesExpandMatchesSpec.f (k + 1) a0) := by
  intro a0 k
  unfold changeforgelaw6_RulesExpandMatchesSpec.f
  repeat' first
      | (with_reducible exact changeforgelaw6_expands.mono _)
      | (with_reducible exact changeforgeref6_Expanded.mono _ _)
      | (with_reducible exact changeforgeref6_RulesFault.mono _ _)
      | (with_reducible exact changeforgeref6_SameSteps.mono _ _ _)
      | (with_reducible exact rules_Expand.mono _ _)
      | (with_reducible exact LeO.refl _)
      | (with_reducible exact LeO.none _)
      | (with_reducible refine LeO.ite ?_ ?_)
      | (with_reducible refine LeO.bind ?_ (fun _ => ?_))
      | exact changeforgelaw6_expands.mono _
      | exact changeforgeref6_Expanded.mono _ _
      | exact changeforgeref6_RulesFault.mono _ _
      | exact changeforgeref6_SameSteps.mono _ _ _
      | exact rules_Expand.mono _ _
      | exact LeO.none _
      | refine LeO.ite ?_ ?_
      | refine LeO.bind ?_ (fun _ => ?_)
end Go.Proofs.YtepflpmngegdiaaDoor.H
end
section
namespace Go.Proofs.YtepflpmngegdiaaDoor.H
open Go.RowKit Go.Proofs.YtepflpmngegdiaaDoorW.PrintWords Go.Proofs.YtepflpmngegdiaaDoorW.PrintLast Go.Proofs.YtepflpmngegdiaaDoorW.PrintMore
set_option linter.unusedVariables false
set_option linter.unusedSimpArgs false

def changeforgelaw6_in.f (a0 : Int) (a1 : Int) (a2 : Int) : Option (Bool) := if a0 ≥ a1 then (some (decide (a0 ≤ a2))) else (some false)
set_option maxHeartbeats 8000000 in
set_option maxRecDepth 100000 in
theorem changeforgelaw6_in.calls (a0 : Int) (a1 : Int) (a2 : Int) (r : Bool) (w : World) (h : changeforgelaw6_in.f a0 a1 a2 = some r) :
    Calls Tryd.prog 12 #[.int .i64 a0, .int .i64 a1, .int .i64 a2] w fun e w' => e = .returned (.bool r) ∧ Drawn0 w w' := by
  have H : (if a0 ≥ a1 then (some (decide (a0 ≤ a2))) else (some false)) = some r := h
  clear h
  by_cases c4 : a0 ≥ a1
  · rw [if_pos c4] at H
    have c4b0 : decide (a1 ≤ a0) = true := decide_eq_true c4
    clear c4
    obtain rfl := Option.some.inj H
    go_enter Tryd.func12, Tryd.ntmps12
    go_wp2
    go_ret
    exact ⟨by first | rfl | (simp; done) | (simp [*]; done), by repeat (first | exact Drawn0.refl _ | apply Drawn0.step)⟩
  · rw [if_neg c4] at H
    have c4b0 : decide (a1 ≤ a0) = false := decide_eq_false c4
    clear c4
    obtain rfl := Option.some.inj H
    go_enter Tryd.func12, Tryd.ntmps12
    go_wp2
    go_ret
    exact ⟨by first | rfl | (simp; done) | (simp [*]; done), by repeat (first | exact Drawn0.refl _ | apply Drawn0.step)⟩

mutual
def changeforgelaw6_RulesLaterRulesDoNotMatter.j0 : Nat → List (S33) → Int → List (S44) → Bool → Int → Int → Option (Bool)
  | 0, _, _, _, _, _, _ => none
  | k + 1, x0, x1, x5, x25, x381000, x381001 => if x25 = true then (some false) else (if x381000 = 0 then ((changeforgelaw6_in.f x1 0 (x0.length : Int)).bind fun t382 => (changeforgelaw6_RulesLaterRulesDoNotMatter.j1 k x0 x1 x5 (!t382))) else (changeforgelaw6_RulesLaterRulesDoNotMatter.j1 k x0 x1 x5 true))
def changeforgelaw6_RulesLaterRulesDoNotMatter.j1 : Nat → List (S33) → Int → List (S44) → Bool → Option (Bool)
  | 0, _, _, _, _ => none
  | k + 1, x0, x1, x5, x35 => if x35 = true then (some true) else (if 0 ≤ x1 then (if x1 ≤ (x0.length : Int) then ((rules_Expand.f k (x0.take (x1 : Int).toNat)).bind fun bt387 => (if bt387.2.1 = 0 then (if (bt387.1.length : Int) ≤ (x5.length : Int) then (if 0 ≤ (bt387.1.length : Int) then ((changeforgeref6_SameSteps.f k bt387.1 (x5.take ((bt387.1.length : Int) : Int).toNat)).bind fun t397 => (some t397)) else (none)) else (some false)) else (some false))) else (none)) else (none))
end
def changeforgelaw6_RulesLaterRulesDoNotMatter.f (k : Nat) (l0 : List (S33)) (a1 : Int) : Option (Bool) := (rules_Expand.f k l0).bind fun bt375 => ((changeforgelaw6_expands.f k).bind fun t381 => (if t381 = true then (if bt375.2.1 = 0 then (changeforgelaw6_RulesLaterRulesDoNotMatter.j0 k l0 a1 bt375.1 false bt375.2.1 bt375.2.2) else (changeforgelaw6_RulesLaterRulesDoNotMatter.j0 k l0 a1 bt375.1 (decide ((bt375.1.length : Int) > 0)) bt375.2.1 bt375.2.2)) else (changeforgelaw6_RulesLaterRulesDoNotMatter.j0 k l0 a1 bt375.1 true bt375.2.1 bt375.2.2)))
theorem changeforgelaw6_RulesLaterRulesDoNotMatter.mono_l : ∀ k, (∀ y0 y1 y2 y3 y4 y5, LeO (changeforgelaw6_RulesLaterRulesDoNotMatter.j0 k y0 y1 y2 y3 y4 y5) (changeforgelaw6_RulesLaterRulesDoNotMatter.j0 (k + 1) y0 y1 y2 y3 y4 y5)) ∧ (∀ y0 y1 y2 y3, LeO (changeforgelaw6_RulesLaterRulesDoNotMatter.j1 k y0 y1 y2 y3) (changeforgelaw6_RulesLaterRulesDoNotMatter.j1 (k + 1) y0 y1 y2 y3))
  | 0 => ⟨fun _ _ _ _ _ _ r h => by simp [changeforgelaw6_RulesLaterRulesDoNotMatter.j0] at h, fun _ _ _ _ r h => by simp [changeforgelaw6_RulesLaterRulesDoNotMatter.j1] at h⟩
  | k + 1 => by
    obtain ⟨ih0, ih1⟩ := changeforgelaw6_RulesLaterRulesDoNotMatter.mono_l k
    refine ⟨?_, ?_⟩
    · intro y0 y1 y2 y3 y4 y5
      unfold changeforgelaw6_RulesLaterRulesDoNotMatter.j0
      repeat' first
      | (with_reducible exact ih0 _ _ _ _ _ _)
      | (with_reducible exact ih1 _ _ _ _)
      | (with_reducible exact changeforgelaw6_expands.mono _)
      | (with_reducible exact changeforgeref6_SameSteps.mono _ _ _)
      | (with_reducible exact rules_Expand.mono _ _)
      | (with_reducible exact LeO.refl _)
      | (with_reducible exact LeO.none _)
      | (with_reducible refine LeO.ite ?_ ?_)
      | (with_reducible refine LeO.bind ?_ (fun _ => ?_))
      | exact ih0 _ _ _ _ _ _
      | exact ih1 _ _ _ _
      | exact changeforgelaw6_expands.mono _
      | exact changeforgeref6_SameSteps.mono _ _ _
      | exact rules_Expand.mono _ _
      | exact LeO.none _
      | refine LeO.ite ?_ ?_
      | refine LeO.bind ?_ (fun _ => ?_)
    · intro y0 y1 y2 y3
      unfold changeforgelaw6_RulesLaterRulesDoNotMatter.j1
      repeat' first
      | (with_reducible exact ih0 _ _ _ _ _ _)
      | (with_reducible exact ih1 _ _ _ _)
      | (with_reducible exact changeforgelaw6_expands.mono _)
      | (with_reducible exact changeforgeref6_SameSteps.mono _ _ _)
      | (with_reducible exact rules_Expand.mono _ _)
      | (with_reducible exact LeO.refl _)
      | (with_reducible exact LeO.none _)
      | (with_reducible refine LeO.ite ?_ ?_)
      | (with_reducible refine LeO.bind ?_ (fun _ => ?_))
      | exact ih0 _ _ _ _ _ _
      | exact ih1 _ _ _ _
      | exact changeforgelaw6_expands.mono _
      | exact changeforgeref6_SameSteps.mono _ _ _
      | exact rules_Expand.mono _ _
      | exact LeO.none _
      | refine LeO.ite ?_ ?_
      | refine LeO.bind ?_ (fun _ => ?_)
theorem changeforgelaw6_RulesLaterRulesDoNotMatter.mono : ∀ a0 a1 k, LeO (changeforgelaw6_RulesLaterRulesDoNotMatter.f k a0 a1) (changeforgelaw6_RulesLaterRulesDoNotMatter.f (k + 1) a0 a1) := by
  intro a0 a1 k
  obtain ⟨ih0, ih1⟩ := changeforgelaw6_RulesLaterRulesDoNotMatter.mono_l k
  unfold changeforgelaw6_RulesLaterRulesDoNotMatter.f
  repeat' first
      | (with_reducible exact ih0 _ _ _ _ _ _)
      | (with_reducible exact ih1 _ _ _ _)
      | (with_reducible exact changeforgelaw6_expands.mono _)
      | (with_reducible exact changeforgeref6_SameSteps.mono _ _ _)
      | (with_reducible exact rules_Expand.mono _ _)
      | (with_reducible exact LeO.refl _)
      | (with_reducible exact LeO.none _)
      | (with_reducible refine LeO.ite ?_ ?_)
      | (with_reducible refine LeO.bind ?_ (fun _ => ?_))
      | exact ih0 _ _ _ _ _ _
      | exact ih1 _ _ _ _
      | exact changeforgelaw6_expands.mono _
      | exact changeforgeref6_SameSteps.mono _ _ _
      | exact rules_Expand.mono _ _
      | exact LeO.none _
      | refine LeO.ite ?_ ?_
      | refine LeO.bind ?_ (fun _ => ?_)
end Go.Proofs.YtepflpmngegdiaaDoor.H
end
section
namespace Go.Proofs.YtepflpmngegdiaaDoor.H
open Go.RowKit Go.Proofs.YtepflpmngegdiaaDoorW.PrintWords Go.Proofs.YtepflpmngegdiaaDoorW.PrintLast Go.Proofs.YtepflpmngegdiaaDoorW.PrintMore
set_option linter.unusedVariables false
set_option linter.unusedSimpArgs false

attribute [local go_sem high] eqA24
mutual
def changeforgelaw6_RulesMatchSpec.j0 : Nat → List (S33) → Int → Bool → Int → Int → Option (Bool)
  | 0, _, _, _, _, _ => none
  | k + 1, x0, x1, x17, x401000, x401001 => if x17 = true then (some false) else (if x401000 = 0 then ((changeforgelaw6_in.f x1 0 (wrap64 ((x0.length : Int) - 1))).bind fun t404 => (changeforgelaw6_RulesMatchSpec.j1 k x0 x1 (!t404) x401000 x401001)) else (changeforgelaw6_RulesMatchSpec.j1 k x0 x1 false x401000 x401001))
def changeforgelaw6_RulesMatchSpec.j1 : Nat → List (S33) → Int → Bool → Int → Int → Option (Bool)
  | 0, _, _, _, _, _ => none
  | k + 1, x0, x1, x28, x401000, x401001 => if x28 = true then ((changeforgelaw6_fault.f 3 (-2)).bind fun bt405 => (changeforgelaw6_RulesMatchSpec.j2 k x0 x1 bt405.1 bt405.2)) else (changeforgelaw6_RulesMatchSpec.j2 k x0 x1 x401000 x401001)
def changeforgelaw6_RulesMatchSpec.j2 : Nat → List (S33) → Int → Int → Int → Option (Bool)
  | 0, _, _, _, _ => none
  | k + 1, x0, x1, x401000, x401001 => (rules_Leaves.f k x0 x1).bind fun bt407 => (if (!(bt407.2.1 == x401000) || (!(bt407.2.2 == x401001))) = true then (changeforgelaw6_RulesMatchSpec.j3 k x0 x1 bt407.1 true x401000 x401001 bt407.2.1 bt407.2.2) else (changeforgelaw6_RulesMatchSpec.j3 k x0 x1 bt407.1 (x401000 != 0) x401000 x401001 bt407.2.1 bt407.2.2))
def changeforgelaw6_RulesMatchSpec.j3 : Nat → List (S33) → Int → List Int → Bool → Int → Int → Int → Int → Option (Bool)
  | 0, _, _, _, _, _, _, _, _ => none
  | k + 1, x0, x1, x6, x43, x401000, x401001, x413000, x413001 => if x43 = true then (if (x413000 == x401000 && (x413001 == x401001)) = true then (some ((x6.length : Int) == 0)) else (some false)) else (if 0 ≤ x1 then (if x1 < (x0.length : Int) then (if ((rd_T33 x0 x1).f0) = 6 then ((changeforgeref6_RuleLeaves.f k x0 x1).bind fun t414 => ((changeforgeref5_Ints.f k x6 t414).bind fun t417 => (some t417))) else ((changeforgeref5_Ints.f k x6 (([x1] : List Int))).bind fun t421 => (some t421))) else (none)) else (none))
end
def changeforgelaw6_RulesMatchSpec.f (k : Nat) (l0 : List (S33)) (a1 : Int) : Option (Bool) := (changeforgeref6_RulesFault.f k l0).bind fun bt398 => ((changeforgelaw6_expands.f k).bind fun t401 => (if t401 = true then ((rules_Validate.f k l0).bind fun bt402 => (changeforgelaw6_RulesMatchSpec.j0 k l0 a1 (!(bt402.1 == bt398.1) || (!(bt402.2 == bt398.2))) bt398.1 bt398.2)) else (changeforgelaw6_RulesMatchSpec.j0 k l0 a1 true bt398.1 bt398.2)))
theorem changeforgelaw6_RulesMatchSpec.mono_l : ∀ k, (∀ y0 y1 y2 y3 y4, LeO (changeforgelaw6_RulesMatchSpec.j0 k y0 y1 y2 y3 y4) (changeforgelaw6_RulesMatchSpec.j0 (k + 1) y0 y1 y2 y3 y4)) ∧ (∀ y0 y1 y2 y3 y4, LeO (changeforgelaw6_RulesMatchSpec.j1 k y0 y1 y2 y3 y4) (changeforgelaw6_RulesMatchSpec.j1 (k + 1) y0 y1 y2 y3 y4)) ∧ (∀ y0 y1 y2 y3, LeO (changeforgelaw6_RulesMatchSpec.j2 k y0 y1 y2 y3) (changeforgelaw6_RulesMatchSpec.j2 (k + 1) y0 y1 y2 y3)) ∧ (∀ y0 y1 y2 y3 y4 y5 y6 y7, LeO (changeforgelaw6_RulesMatchSpec.j3 k y0 y1 y2 y3 y4 y5 y6 y7) (changeforgelaw6_RulesMatchSpec.j3 (k + 1) y0 y1 y2 y3 y4 y5 y6 y7))
  | 0 => ⟨fun _ _ _ _ _ r h => by simp [changeforgelaw6_RulesMatchSpec.j0] at h, fun _ _ _ _ _ r h => by simp [changeforgelaw6_RulesMatchSpec.j1] at h, fun _ _ _ _ r h => by simp [changeforgelaw6_RulesMatchSpec.j2] at h, fun _ _ _ _ _ _ _ _ r h => by simp [changeforgelaw6_RulesMatchSpec.j3] at h⟩
  | k + 1 => by
    obtain ⟨ih0, ih1, ih2, ih3⟩ := changeforgelaw6_RulesMatchSpec.mono_l k
    refine ⟨?_, ?_, ?_, ?_⟩
    · intro y0 y1 y2 y3 y4
      unfold changeforgelaw6_RulesMatchSpec.j0
      repeat' first
      | (with_reducible exact ih0 _ _ _ _ _)
      | (with_reducible exact ih1 _ _ _ _ _)
      | (with_reducible exact ih2 _ _ _ _)
      | (with_reducible exact ih3 _ _ _ _ _ _ _ _)
      | (with_reducible exact changeforgelaw6_expands.mono _)
      | (with_reducible exact changeforgeref5_Ints.mono _ _ _)
      | (with_reducible exact changeforgeref6_RuleLeaves.mono _ _ _)
      | (with_reducible exact changeforgeref6_RulesFault.mono _ _)
      | (with_reducible exact rules_Leaves.mono _ _ _)
      | (with_reducible exact rules_Validate.mono _ _)
      | (with_reducible exact LeO.refl _)
      | (with_reducible exact LeO.none _)
      | (with_reducible refine LeO.ite ?_ ?_)
      | (with_reducible refine LeO.bind ?_ (fun _ => ?_))
      | exact ih0 _ _ _ _ _
      | exact ih1 _ _ _ _ _
      | exact ih2 _ _ _ _
      | exact ih3 _ _ _ _ _ _ _ _
      | exact changeforgelaw6_expands.mono _
      | exact changeforgeref5_Ints.mono _ _ _
      | exact changeforgeref6_RuleLeaves.mono _ _ _
      | exact changeforgeref6_RulesFault.mono _ _
      | exact rules_Leaves.mono _ _ _
      | exact rules_Validate.mono _ _
      | exact LeO.none _
      | refine LeO.ite ?_ ?_
      | refine LeO.bind ?_ (fun _ => ?_)
    · intro y0 y1 y2 y3 y4
      unfold changeforgelaw6_RulesMatchSpec.j1
      repeat' first
      | (with_reducible exact ih0 _ _ _ _ _)
      | (with_reducible exact ih1 _ _ _ _ _)
      | (with_reducible exact ih2 _ _ _ _)
      | (with_reducible exact ih3 _ _ _ _ _ _ _ _)
      | (with_reducible exact changeforgelaw6_expands.mono _)
      | (with_reducible exact changeforgeref5_Ints.mono _ _ _)
      | (with_reducible exact changeforgeref6_RuleLeaves.mono _ _ _)
      | (with_reducible exact changeforgeref6_RulesFault.mono _ _)
      | (with_reducible exact rules_Leaves.mono _ _ _)
      | (with_reducible exact rules_Validate.mono _ _)
      | (with_reducible exact LeO.refl _)
      | (with_reducible exact LeO.none _)
      | (with_reducible refine LeO.ite ?_ ?_)
      | (with_reducible refine LeO.bind ?_ (fun _ => ?_))
      | exact ih0 _ _ _ _ _
      | exact ih1 _ _ _ _ _
      | exact ih2 _ _ _ _
      | exact ih3 _ _ _ _ _ _ _ _
      | exact changeforgelaw6_expands.mono _
      | exact changeforgeref5_Ints.mono _ _ _
      | exact changeforgeref6_RuleLeaves.mono _ _ _
      | exact changeforgeref6_RulesFault.mono _ _
      | exact rules_Leaves.mono _ _ _
      | exact rules_Validate.mono _ _
      | exact LeO.none _
      | refine LeO.ite ?_ ?_
      | refine LeO.bind ?_ (fun _ => ?_)
    · intro y0 y1 y2 y3
      unfold changeforgelaw6_RulesMatchSpec.j2
      repeat' first
      | (with_reducible exact ih0 _ _ _ _ _)
      | (with_reducible exact ih1 _ _ _ _ _)
      | (with_reducible exact ih2 _ _ _ _)
      | (with_reducible exact ih3 _ _ _ _ _ _ _ _)
      | (with_reducible exact changeforgelaw6_expands.mono _)
      | (with_reducible exact changeforgeref5_Ints.mono _ _ _)
      | (with_reducible exact changeforgeref6_RuleLeaves.mono _ _ _)
      | (with_reducible exact changeforgeref6_RulesFault.mono _ _)
      | (with_reducible exact rules_Leaves.mono _ _ _)
      | (with_reducible exact rules_Validate.mono _ _)
      | (with_reducible exact LeO.refl _)
      | (with_reducible exact LeO.none _)
      | (with_reducible refine LeO.ite ?_ ?_)
      | (with_reducible refine LeO.bind ?_ (fun _ => ?_))
      | exact ih0 _ _ _ _ _
      | exact ih1 _ _ _ _ _
      | exact ih2 _ _ _ _
      | exact ih3 _ _ _ _ _ _ _ _
      | exact changeforgelaw6_expands.mono _
      | exact changeforgeref5_Ints.mono _ _ _
      | exact changeforgeref6_RuleLeaves.mono _ _ _
      | exact changeforgeref6_RulesFault.mono _ _
      | exact rules_Leaves.mono _ _ _
      | exact rules_Validate.mono _ _
      | exact LeO.none _
      | refine LeO.ite ?_ ?_
      | refine LeO.bind ?_ (fun _ => ?_)
    · intro y0 y1 y2 y3 y4 y5 y6 y7
      unfold changeforgelaw6_RulesMatchSpec.j3
      repeat' first
      | (with_reducible exact ih0 _ _ _ _ _)
      | (with_reducible exact ih1 _ _ _ _ _)
      | (with_reducible exact ih2 _ _ _ _)
      | (with_reducible exact ih3 _ _ _ _ _ _ _ _)
      | (with_reducible exact changeforgelaw6_expands.mono _)
      | (with_reducible exact changeforgeref5_Ints.mono _ _ _)
      | (with_reducible exact changeforgeref6_RuleLeaves.mono _ _ _)
      | (with_reducible exact changeforgeref6_RulesFault.mono _ _)
      | (with_reducible exact rules_Leaves.mono _ _ _)
      | (with_reducible exact rules_Validate.mono _ _)
      | (with_reducible exact LeO.refl _)
      | (with_reducible exact LeO.none _)
      | (with_reducible refine LeO.ite ?_ ?_)
      | (with_reducible refine LeO.bind ?_ (fun _ => ?_))
      | exact ih0 _ _ _ _ _
      | exact ih1 _ _ _ _ _
      | exact ih2 _ _ _ _
      | exact ih3 _ _ _ _ _ _ _ _
      | exact changeforgelaw6_expands.mono _
      | exact changeforgeref5_Ints.mono _ _ _
      | exact changeforgeref6_RuleLeaves.mono _ _ _
      | exact changeforgeref6_RulesFault.mono _ _
      | exact rules_Leaves.mono _ _ _
      | exact rules_Validate.mono _ _
      | exact LeO.none _
      | refine LeO.ite ?_ ?_
      | refine LeO.bind ?_ (fun _ => ?_)
theorem changeforgelaw6_RulesMatchSpec.mono : ∀ a0 a1 k, LeO (changeforgelaw6_RulesMatchSpec.f k a0 a1) (changeforgelaw6_RulesMatchSpec.f (k + 1) a0 a1) := by
  intro a0 a1 k
  obtain ⟨ih0, ih1, ih2, ih3⟩ := changeforgelaw6_RulesMatchSpec.mono_l k
  unfold changeforgelaw6_RulesMatchSpec.f
  repeat' first
      | (with_reducible exact ih0 _ _ _ _ _)
      | (with_reducible exact ih1 _ _ _ _ _)
      | (with_reducible exact ih2 _ _ _ _)
      | (with_reducible exact ih3 _ _ _ _ _ _ _ _)
      | (with_reducible exact changeforgelaw6_expands.mono _)
      | (with_reducible exact changeforgeref5_Ints.mono _ _ _)
      | (with_reducible exact changeforgeref6_RuleLeaves.mono _ _ _)
      | (with_reducible exact changeforgeref6_RulesFault.mono _ _)
      | (with_reducible exact rules_Leaves.mono _ _ _)
      | (with_reducible exact rules_Validate.mono _ _)
      | (with_reducible exact LeO.refl _)
      | (with_reducible exact LeO.none _)
      | (with_reducible refine LeO.ite ?_ ?_)
      | (with_reducible refine LeO.bind ?_ (fun _ => ?_))
      | exact ih0 _ _ _ _ _
      | exact ih1 _ _ _ _ _
      | exact ih2 _ _ _ _
      | exact ih3 _ _ _ _ _ _ _ _
      | exact changeforgelaw6_expands.mono _
      | exact changeforgeref5_Ints.mono _ _ _
      | exact changeforgeref6_RuleLeaves.mono _ _ _
      | exact changeforgeref6_RulesFault.mono _ _
      | exact rules_Leaves.mono _ _ _
      | exact rules_Validate.mono _ _
      | exact LeO.none _
      | refine LeO.ite ?_ ?_
      | refine LeO.bind ?_ (fun _ => ?_)
def changeforgelaw6_RulesMatchSpec.T2 : Bool × List (List Nat × List Nat) := (true, [([], []), ([0], [0]), ([1, 0], [1]), ([2], [2]), ([3, 2, 2], [2, 3]), ([2], [2]), ([4, 5, 2], [2, 4, 5]), ([2, 6], [2, 6])])
def changeforgelaw6_RulesMatchSpec.B2 : List Nat := [0, 1, 3, 7, 15, 7, 63, 127]
theorem changeforgelaw6_RulesMatchSpec.tab2 : rtab .any (opsOf Tryd.f3 2) = changeforgelaw6_RulesMatchSpec.T2 := by kernel_rfl
theorem changeforgelaw6_RulesMatchSpec.bits2 : waitsOk changeforgelaw6_RulesMatchSpec.T2.2 changeforgelaw6_RulesMatchSpec.B2 = true := by kernel_rfl
set_option maxHeartbeats 8000000 in
set_option maxRecDepth 100000 in
theorem changeforgelaw6_RulesMatchSpec.calls (k : Nat) (A0 : Option Addr) (c0 : Nat) (l0 : List (S33)) (a1 : Int) (r : Bool) (w : World) (hr0 : Kd.C k33 w A0 l0.length l0) (hc0 : l0.length ≤ c0) (hG : Glob w) (h : changeforgelaw6_RulesMatchSpec.f k l0 a1 = some r) :
    Calls Tryd.prog 3 #[.slice A0 l0.length c0, .int .i64 a1] w fun e w' => e = .returned (.bool r) ∧ Below w.heap.size w w' := by
  have hu24 := Tryd.underlying24
  have HR0 := Aside0.mk hr0
  have HC0 := Aside0.mk hc0
  clear hr0 hc0
  have HG := Aside0.mk hG
  clear hG
  have HB := Aside0.mk (Below.refl w.heap.size w)
  have H : ((changeforgeref6_RulesFault.f k l0).bind fun bt398 => ((changeforgelaw6_expands.f k).bind fun t401 => (if t401 = true then ((rules_Validate.f k l0).bind fun bt402 => (changeforgelaw6_RulesMatchSpec.j0 k l0 a1 (!(bt402.1 == bt398.1) || (!(bt402.2 == bt398.2))) bt398.1 bt398.2)) else (changeforgelaw6_RulesMatchSpec.j0 k l0 a1 true bt398.1 bt398.2)))) = some r := h
  clear h
  replace H := Option.bind_eq_some_iff.mp H
  obtain ⟨⟨t398, t399⟩, A30, H⟩ := H
  replace H : ((changeforgelaw6_expands.f k).bind fun t401 => (if t401 = true then ((rules_Validate.f k l0).bind fun bt402 => (changeforgelaw6_RulesMatchSpec.j0 k l0 a1 (!(bt402.1 == t398) || (!(bt402.2 == t399))) t398 t399)) else (changeforgelaw6_RulesMatchSpec.j0 k l0 a1 true t398 t399))) = some r := H
  have A3 := Aside0.mk A30
  clear A30
  have HC4 := Aside0.mk H
  clear H
  go_enter Tryd.func3, Tryd.ntmps3
  go_upto_region 2 with (first | ((with_reducible refine gate_callee (f := 9) rfl ?_); refine goesL_ (some 9) rfl rfl Tryd.func9 (by kernel_rfl) rfl #[.slice A0 l0.length c0] rfl (by (try simp only [List.map_toArray, List.map_cons, List.map_nil]); first | done | rfl | (simp only [List.length_drop, List.length_take]; rfl)) ?_; (with_reducible refine (changeforgeref6_RulesFault.calls k _ _ l0 t398 t399 _ ?side1 ?side2 A3.out).mono ?_); (case side1 => repeat (first | exact HR0.out | (with_reducible refine Kd.C_alloc ?_ _) | (with_reducible refine Kd.C_drewN ?_ _) | (with_reducible refine Kd.C_drew ?_))); (case side2 => exact HC0.out); rintro e w5 ⟨rfl, hb⟩; refine ⟨_, rfl, ?_⟩; have n0_ := Aside0.mk (below_step (by repeat (first | (with_reducible first | exact HB.out | apply below_alloc | apply pw_below_drewN | apply below_drew1) | exact HB.out)) hb); clear HB; have HB := n0_; clear n0_; (try clear hb); (try clear hb2); (try clear hk); (try clear hi)) | ((with_reducible refine gate_dst (N := 5) rfl ?_); (try (refine gate_guard (by rfl) ?_; dsimp only)); refine box_event ?hg (N := 5) ?hd (cs := #[.int .i64 0, .int .i64 0]) (t := 24) ?hr ?_; (case hd => rfl); (case hg => rfl); (case hr => first | (go_simp; done) | (go_simp; rfl)); intro gb400 hg w6 hbox hb; have n0_ := Aside0.mk (below_step (by repeat (first | (with_reducible first | exact HB.out | apply below_alloc | apply pw_below_drewN | apply below_drew1) | exact HB.out)) hb); have n1_ := Aside0.mk (hbox); have n2_ := Aside0.mk ((by rw [hg]; exact (below_size (by repeat (first | (with_reducible first | exact HB.out | apply below_alloc | apply pw_below_drewN | apply below_drew1) | exact HB.out))) : w.heap.size ≤ gb400)); have n3_ := Aside0.mk ((by rw [hg]; exact (below_size (by repeat (first | (with_reducible first | exact HB.out | apply below_alloc | apply pw_below_drewN | apply below_drew1) | exact HB.out))) : w.heap.size ≤ gb400)); clear HB; have HB := n0_; have BK400 := n1_; have GW400 := n2_; have GE400 := n3_; clear n0_ n1_ n2_ n3_; clear hb hbox hg; have hcz7_0 : w6.cell? ⟨gb400, 0, none⟩ = some (.int .i64 0) := (blk_cell BK400.out 0).trans rfl; have hcz7_1 : w6.cell? ⟨gb400, 1, none⟩ = some (.int .i64 0) := (blk_cell BK400.out 1).trans rfl; have hfz7_0 := blk_frozen BK400.out 0; have hfz7_1 := blk_frozen BK400.out 1))
  (try simp only [Act.put, List.setIfInBounds_toArray, List.set_cons_zero, List.set_cons_succ])
  go_cut [17] (fun v17 wc => ∃ (kq : Nat) (x17_3 : Bool), v17 = .bool x17_3 ∧ Aside0 (changeforgelaw6_RulesMatchSpec.j0 kq l0 a1 x17_3 t398 t399 = some r) ∧ Aside0 (kq ≤ k) ∧ Aside0 (wc.heap[gb400]? = some (.cells #[.int .i64 t398, .int .i64 t399] 24 (0, 0))) ∧ Aside0 (Below w.heap.size w wc))
  case first =>
    have H := HC4.out
    clear HC4
    replace H := Option.bind_eq_some_iff.mp H
    obtain ⟨t401, A80, H⟩ := H
    replace H : (if t401 = true then ((rules_Validate.f k l0).bind fun bt402 => (changeforgelaw6_RulesMatchSpec.j0 k l0 a1 (!(bt402.1 == t398) || (!(bt402.2 == t399))) t398 t399)) else (changeforgelaw6_RulesMatchSpec.j0 k l0 a1 true t398 t399)) = some r := H
    have A8 := Aside0.mk A80
    clear A80
    by_cases c9 : t401 = true
    · subst c9
      have H1 : ((rules_Validate.f k l0).bind fun bt402 => (changeforgelaw6_RulesMatchSpec.j0 k l0 a1 (!(bt402.1 == t398) || (!(bt402.2 == t399))) t398 t399)) = some r := by rw [if_pos rfl] at H; exact H
      clear H
      have H := H1
      clear H1
      replace H := Option.bind_eq_some_iff.mp H
      obtain ⟨⟨t402, t403⟩, A100, H⟩ := H
      replace H : (changeforgelaw6_RulesMatchSpec.j0 k l0 a1 (!(t402 == t398) || (!(t403 == t399))) t398 t399) = some r := H
      have A10 := Aside0.mk A100
      clear A100
      have H' := Aside0.mk H
      clear H
      try go_wp2
      have n0_ : Aside0 (((w6.setCell ⟨gb400, 0, none⟩ (.int .i64 t398)).setCell ⟨gb400, 1, none⟩ (.int .i64 t399)).heap[gb400]? = some (.cells #[.int .i64 t398, .int .i64 t399] 24 (0, 0))) := ⟨by (with_reducible repeat (first | refine blk_drewN ?_ _ | refine blk_drew ?_ | refine blk_alloc ?_ _)); refine blk_put (cs := #[.int .i64 t398, .int .i64 0]) ?_ 1 _ rfl; (with_reducible repeat (first | refine blk_drewN ?_ _ | refine blk_drew ?_ | refine blk_alloc ?_ _)); refine blk_put (cs := #[.int .i64 0, .int .i64 0]) ?_ 0 _ rfl; (with_reducible repeat (first | refine blk_drewN ?_ _ | refine blk_drew ?_ | refine blk_alloc ?_ _)); exact BK400.out⟩
      have n1_ : Aside0 (Below w.heap.size w ((w6.setCell ⟨gb400, 0, none⟩ (.int .i64 t398)).setCell ⟨gb400, 1, none⟩ (.int .i64 t399))) := ⟨by repeat (first | (with_reducible first | exact HB.out | apply below_alloc | apply pw_below_drewN | apply below_drew1 | refine below_set ?_ GE400.out) | exact HB.out)⟩
      (try clear BK400)
      (try clear HB)
      generalize ((w6.setCell ⟨gb400, 0, none⟩ (.int .i64 t398)).setCell ⟨gb400, 1, none⟩ (.int .i64 t399)) = w11 at n0_ n1_ ⊢
      have BK400 := n0_
      have HB := n1_
      clear n0_ n1_
      have n0_ := Aside0.mk (blk_drew BK400.out)
      have n1_ := Aside0.mk (below_drew1 HB.out)
      clear BK400
      clear HB
      have BK400 := n0_
      have HB := n1_
      clear n0_ n1_
      refine start_ (n := 8) (S := fun w' => w'.cell? ⟨gb400, 0, none⟩ = some (.int .i64 t398) ∧ w'.cell? ⟨gb400, 1, none⟩ = some (.int .i64 t399)) (ds := []) #[false, false, false, false, false, false, false, false] (by kernel_rfl) rfl rfl ⟨(blk_cell BK400.out 0).trans rfl, (blk_cell BK400.out 1).trans rfl⟩ (fun hHeld => ?_); refine with_tabW changeforgelaw6_RulesMatchSpec.tab2 changeforgelaw6_RulesMatchSpec.bits2 (fun HT_ HW_ => ?_)
      generalize w11.drew = w12 at BK400 HB hHeld ⊢
      refine one_ (i := 0) (N := some 10) #[true, false, false, false, false, false, false, false] rfl rfl (one_of HT_.out (by kernel_rfl)) (by decide) (fun K hK => ?_)
      refine goes_ Tryd.func10 (by kernel_rfl) rfl #[] (by rfl) rfl rfl (by (try simp only [List.map_toArray, List.map_cons, List.map_nil]); first | done | rfl | (simp only [List.length_drop, List.length_take]; rfl)) ?_
      with_reducible refine (changeforgelaw6_expands.calls k  true _ ?side1 A8.out).mono ?_
      (case side1 => exact Glob.below HG.out (by repeat (first | (with_reducible first | exact HB.out | apply below_alloc | apply pw_below_drewN | apply below_drew1 | refine below_set ?_ GE400.out) | exact HB.out)))
      rintro e w13 ⟨rfl, hb⟩
      refine ⟨_, rfl, ?_⟩
      have n0_ := Aside0.mk (blk_below (g := gb400) (o := .cells #[.int .i64 t398, .int .i64 t399] 24 (0, 0)) (by (with_reducible repeat (first | refine blk_drewN ?_ _ | refine blk_drew ?_ | refine blk_alloc ?_ _)); exact BK400.out) hb)
      have n1_ := Aside0.mk (below_step (by repeat (first | (with_reducible first | exact HB.out | apply below_alloc | apply pw_below_drewN | apply below_drew1 | refine below_set ?_ GE400.out) | exact HB.out)) hb)
      clear BK400
      clear HB
      have BK400 := n0_
      have HB := n1_
      clear n0_ n1_
      (try clear hb)
      (try clear hb2)
      (try clear hk)
      (try clear hi)
      refine hK.out _ _ ⟨(blk_cell BK400.out 0).trans rfl, (blk_cell BK400.out 1).trans rfl⟩ (fun hHeld => ?_)
      clear hK K
      refine norm_ (a' := ?_) ?_ ?_
      rotate_left
      · show Act.put _ (some 10) _ = _
        simp only [Act.put, List.setIfInBounds_toArray, List.set_cons_zero, List.set_cons_succ, i64_w, i32_w]
        rfl
      refine pure_ (i := 1) (N := some 11) (v := ?_) (a' := ?_) #[true, true, false, false, false, false, false, false] rfl rfl (any_of HT_.out (by kernel_rfl)) (fun _ _ _ h => h) (Or.inl ⟨by rfl, ?_⟩) ?_ ?_
      rotate_left
      · intro w'
        go_simp
        with_reducible rfl
      rotate_left
      · simp only [Act.put, List.setIfInBounds_toArray, List.set_cons_zero, List.set_cons_succ, i64_w, i32_w]
        rfl
      refine pure_ (i := 2) (N := some 12) (v := ?_) (a' := ?_) #[true, true, true, false, false, false, false, false] rfl rfl (any_of HT_.out (by kernel_rfl)) (fun _ _ _ h => h) (Or.inl ⟨by rfl, ?_⟩) ?_ ?_
      rotate_left
      · intro w'
        go_simp
        with_reducible rfl
      rotate_left
      · simp only [Act.put, List.setIfInBounds_toArray, List.set_cons_zero, List.set_cons_succ, i64_w, i32_w]
        rfl
      refine pure_ (i := 3) (N := some 13) (v := ?_) (a' := ?_) #[true, true, true, true, false, false, false, false] rfl rfl (any_of HT_.out (by kernel_rfl)) (fun _ _ _ h => h) (Or.inl ⟨by rfl, ?_⟩) ?_ ?_
      rotate_left
      · intro w'
        go_simp
        with_reducible rfl
      rotate_left
      · simp only [Act.put, List.setIfInBounds_toArray, List.set_cons_zero, List.set_cons_succ, i64_w, i32_w]
        rfl
      refine take_ (i := 5) (N := some 15) (v := ?_) (a' := ?_) #[true, true, true, true, false, true, false, false] rfl rfl (take_ofW HT_.out HW_.out (by kernel_rfl)) (fun _ _ _ h => h) (Or.inl ⟨by rfl, ?_⟩) hHeld ?_ ?_
      rotate_left
      · rintro w' ⟨s0, s1⟩
        go_simp
        with_reducible rfl
      rotate_left
      · simp only [Act.put, List.setIfInBounds_toArray, List.set_cons_zero, List.set_cons_succ, i64_w, i32_w]
        rfl
      refine one_ (i := 4) (N := some 14) #[true, true, true, true, true, true, false, false] rfl rfl (one_of HT_.out (by kernel_rfl)) (by decide) (fun K hK => ?_)
      refine goes_ Tryd.func11 (by kernel_rfl) rfl #[.slice A0 l0.length c0] (by rfl) rfl rfl (by (try simp only [List.map_toArray, List.map_cons, List.map_nil]); first | done | rfl | (simp only [List.length_drop, List.length_take]; rfl)) ?_
      with_reducible refine (rules_Validate.calls k _ _ l0 t402 t403 _ ?side1 ?side2 ?side3 A10.out).mono ?_
      (case side1 => repeat (first | exact (Kd.C_below HR0.out HB.out) | (with_reducible refine Kd.C_alloc ?_ _) | (with_reducible refine Kd.C_drewN ?_ _) | (with_reducible refine Kd.C_drew ?_)))
      (case side2 => exact HC0.out)
      (case side3 => exact Glob.below HG.out (by repeat (first | (with_reducible first | exact HB.out | apply below_alloc | apply pw_below_drewN | apply below_drew1 | refine below_set ?_ GE400.out) | exact HB.out)))
      rintro e w14 ⟨rfl, hb⟩
      refine ⟨_, rfl, ?_⟩
      have n0_ := Aside0.mk (blk_below (g := gb400) (o := .cells #[.int .i64 t398, .int .i64 t399] 24 (0, 0)) (by (with_reducible repeat (first | refine blk_drewN ?_ _ | refine blk_drew ?_ | refine blk_alloc ?_ _)); exact BK400.out) hb)
      have n1_ := Aside0.mk (below_step (by repeat (first | (with_reducible first | exact HB.out | apply below_alloc | apply pw_below_drewN | apply below_drew1 | refine below_set ?_ GE400.out) | exact HB.out)) hb)
      clear BK400
      clear HB
      have BK400 := n0_
      have HB := n1_
      clear n0_ n1_
      (try clear hb)
      (try clear hb2)
      (try clear hk)
      (try clear hi)
      refine hK.out _ _ ⟨(blk_cell BK400.out 0).trans rfl, (blk_cell BK400.out 1).trans rfl⟩ (fun hHeld => ?_)
      clear hK K
      refine norm_ (a' := ?_) ?_ ?_
      rotate_left
      · show Act.put _ (some 14) _ = _
        simp only [Act.put, List.setIfInBounds_toArray, List.set_cons_zero, List.set_cons_succ, i64_w, i32_w]
        rfl
      refine pure_ (i := 6) (N := some 16) (v := ?_) (a' := ?_) #[true, true, true, true, true, true, true, false] rfl rfl (any_of HT_.out (by kernel_rfl)) (fun _ _ _ h => h) (Or.inl ⟨by rfl, ?_⟩) ?_ ?_
      rotate_left
      · intro w'
        go_simp
        with_reducible rfl
      rotate_left
      · simp only [Act.put, List.setIfInBounds_toArray, List.set_cons_zero, List.set_cons_succ, i64_w, i32_w]
        rfl
      refine pure_ (i := 7) (N := some 17) (v := ?_) (a' := ?_) #[true, true, true, true, true, true, true, true] rfl rfl (any_of HT_.out (by kernel_rfl)) (fun _ _ _ h => h) (Or.inl ⟨by rfl, ?_⟩) ?_ ?_
      rotate_left
      · intro w'
        go_simp
        with_reducible rfl
      rotate_left
      · simp only [Act.put, List.setIfInBounds_toArray, List.set_cons_zero, List.set_cons_succ, i64_w, i32_w]
        rfl
      refine done_ (done_of HT_.out (by kernel_rfl)) ?_
      try go_wp2
      go_meet
      case rel => exact ⟨_, ((!(t402 == t398) || (!(t403 == t399)))), (by first | rfl | (simp; done) | (simp [*]; done)), H', ⟨by first | omega | exact Nat.le_refl _⟩, ⟨by (with_reducible repeat (first | refine blk_drewN ?_ _ | refine blk_drew ?_ | refine blk_alloc ?_ _)); exact BK400.out⟩, ⟨by repeat (first | (with_reducible first | exact HB.out | apply below_alloc | apply pw_below_drewN | apply below_drew1 | refine below_set ?_ GE400.out) | exact HB.out)⟩⟩
    · replace c9 := Bool.eq_false_iff.mpr c9
      subst c9
      have H1 : (changeforgelaw6_RulesMatchSpec.j0 k l0 a1 true t398 t399) = some r := by rw [if_neg (show ¬ (false = true) by decide)] at H; exact H
      clear H
      have H := H1
      clear H1
      have H' := Aside0.mk H
      clear H
      try go_wp2
      have n0_ : Aside0 (((w6.setCell ⟨gb400, 0, none⟩ (.int .i64 t398)).setCell ⟨gb400, 1, none⟩ (.int .i64 t399)).heap[gb400]? = some (.cells #[.int .i64 t398, .int .i64 t399] 24 (0, 0))) := ⟨by (with_reducible repeat (first | refine blk_drewN ?_ _ | refine blk_drew ?_ | refine blk_alloc ?_ _)); refine blk_put (cs := #[.int .i64 t398, .int .i64 0]) ?_ 1 _ rfl; (with_reducible repeat (first | refine blk_drewN ?_ _ | refine blk_drew ?_ | refine blk_alloc ?_ _)); refine blk_put (cs := #[.int .i64 0, .int .i64 0]) ?_ 0 _ rfl; (with_reducible repeat (first | refine blk_drewN ?_ _ | refine blk_drew ?_ | refine blk_alloc ?_ _)); exact BK400.out⟩
      have n1_ : Aside0 (Below w.heap.size w ((w6.setCell ⟨gb400, 0, none⟩ (.int .i64 t398)).setCell ⟨gb400, 1, none⟩ (.int .i64 t399))) := ⟨by repeat (first | (with_reducible first | exact HB.out | apply below_alloc | apply pw_below_drewN | apply below_drew1 | refine below_set ?_ GE400.out) | exact HB.out)⟩
      (try clear BK400)
      (try clear HB)
      generalize ((w6.setCell ⟨gb400, 0, none⟩ (.int .i64 t398)).setCell ⟨gb400, 1, none⟩ (.int .i64 t399)) = w15 at n0_ n1_ ⊢
      have BK400 := n0_
      have HB := n1_
      clear n0_ n1_
      have n0_ := Aside0.mk (blk_drew BK400.out)
      have n1_ := Aside0.mk (below_drew1 HB.out)
      clear BK400
      clear HB
      have BK400 := n0_
      have HB := n1_
      clear n0_ n1_
      refine start_ (n := 8) (S := fun w' => True) (ds := []) #[false, false, false, false, false, false, false, false] (by kernel_rfl) rfl rfl trivial (fun hHeld => ?_); refine with_tabW changeforgelaw6_RulesMatchSpec.tab2 changeforgelaw6_RulesMatchSpec.bits2 (fun HT_ HW_ => ?_)
      generalize w15.drew = w16 at BK400 HB hHeld ⊢
      refine one_ (i := 0) (N := some 10) #[true, false, false, false, false, false, false, false] rfl rfl (one_of HT_.out (by kernel_rfl)) (by decide) (fun K hK => ?_)
      refine goes_ Tryd.func10 (by kernel_rfl) rfl #[] (by rfl) rfl rfl (by (try simp only [List.map_toArray, List.map_cons, List.map_nil]); first | done | rfl | (simp only [List.length_drop, List.length_take]; rfl)) ?_
      with_reducible refine (changeforgelaw6_expands.calls k  false _ ?side1 A8.out).mono ?_
      (case side1 => exact Glob.below HG.out (by repeat (first | (with_reducible first | exact HB.out | apply below_alloc | apply pw_below_drewN | apply below_drew1 | refine below_set ?_ GE400.out) | exact HB.out)))
      rintro e w17 ⟨rfl, hb⟩
      refine ⟨_, rfl, ?_⟩
      have n0_ := Aside0.mk (blk_below (g := gb400) (o := .cells #[.int .i64 t398, .int .i64 t399] 24 (0, 0)) (by (with_reducible repeat (first | refine blk_drewN ?_ _ | refine blk_drew ?_ | refine blk_alloc ?_ _)); exact BK400.out) hb)
      have n1_ := Aside0.mk (below_step (by repeat (first | (with_reducible first | exact HB.out | apply below_alloc | apply pw_below_drewN | apply below_drew1 | refine below_set ?_ GE400.out) | exact HB.out)) hb)
      clear BK400
      clear HB
      have BK400 := n0_
      have HB := n1_
      clear n0_ n1_
      (try clear hb)
      (try clear hb2)
      (try clear hk)
      (try clear hi)
      refine hK.out _ _ trivial (fun hHeld => ?_)
      clear hK K
      refine norm_ (a' := ?_) ?_ ?_
      rotate_left
      · show Act.put _ (some 10) _ = _
        simp only [Act.put, List.setIfInBounds_toArray, List.set_cons_zero, List.set_cons_succ, i64_w, i32_w]
        rfl
      refine pure_ (i := 1) (N := some 11) (v := ?_) (a' := ?_) #[true, true, false, false, false, false, false, false] rfl rfl (any_of HT_.out (by kernel_rfl)) (fun _ _ _ h => h) (Or.inl ⟨by rfl, ?_⟩) ?_ ?_
      rotate_left
      · intro w'
        go_simp
        with_reducible rfl
      rotate_left
      · simp only [Act.put, List.setIfInBounds_toArray, List.set_cons_zero, List.set_cons_succ, i64_w, i32_w]
        rfl
      refine pure_ (i := 2) (N := some 12) (v := ?_) (a' := ?_) #[true, true, true, false, false, false, false, false] rfl rfl (any_of HT_.out (by kernel_rfl)) (fun _ _ _ h => h) (Or.inl ⟨by rfl, ?_⟩) ?_ ?_
      rotate_left
      · intro w'
        go_simp
        with_reducible rfl
      rotate_left
      · simp only [Act.put, List.setIfInBounds_toArray, List.set_cons_zero, List.set_cons_succ, i64_w, i32_w]
        rfl
      refine pure_ (i := 3) (N := some 13) (v := undef) (a' := ?_) #[true, true, true, true, false, false, false, false] rfl rfl (any_of HT_.out (by kernel_rfl)) (fun _ _ _ h => h) (Or.inr ⟨by rfl, rfl⟩) ?_ ?_
      rotate_left
      · simp only [Act.put, List.setIfInBounds_toArray, List.set_cons_zero, List.set_cons_succ, i64_w, i32_w]
        rfl
      refine pure_ (i := 4) (N := some 14) (v := undef) (a' := ?_) #[true, true, true, true, true, false, false, false] rfl rfl (any_of HT_.out (by kernel_rfl)) (fun _ _ _ h => h) (Or.inr ⟨by rfl, rfl⟩) ?_ ?_
      rotate_left
      · simp only [Act.put, List.setIfInBounds_toArray, List.set_cons_zero, List.set_cons_succ, i64_w, i32_w]
        rfl
      refine pure_ (i := 5) (N := some 15) (v := undef) (a' := ?_) #[true, true, true, true, true, true, false, false] rfl rfl (any_of HT_.out (by kernel_rfl)) (fun _ _ _ h => h) (Or.inr ⟨by rfl, rfl⟩) ?_ ?_
      rotate_left
      · simp only [Act.put, List.setIfInBounds_toArray, List.set_cons_zero, List.set_cons_succ, i64_w, i32_w]
        rfl
      refine pure_ (i := 6) (N := some 16) (v := undef) (a' := ?_) #[true, true, true, true, true, true, true, false] rfl rfl (any_of HT_.out (by kernel_rfl)) (fun _ _ _ h => h) (Or.inr ⟨by rfl, rfl⟩) ?_ ?_
      rotate_left
      · simp only [Act.put, List.setIfInBounds_toArray, List.set_cons_zero, List.set_cons_succ, i64_w, i32_w]
        rfl
      refine pure_ (i := 7) (N := some 17) (v := ?_) (a' := ?_) #[true, true, true, true, true, true, true, true] rfl rfl (any_of HT_.out (by kernel_rfl)) (fun _ _ _ h => h) (Or.inl ⟨by rfl, ?_⟩) ?_ ?_
      rotate_left
      · intro w'
        go_simp
        with_reducible rfl
      rotate_left
      · simp only [Act.put, List.setIfInBounds_toArray, List.set_cons_zero, List.set_cons_succ, i64_w, i32_w]
        rfl
      refine done_ (done_of HT_.out (by kernel_rfl)) ?_
      try go_wp2
      go_meet
      case rel => exact ⟨_, (true), (by first | rfl | (simp; done) | (simp [*]; done)), H', ⟨by first | omega | exact Nat.le_refl _⟩, ⟨by (with_reducible repeat (first | refine blk_drewN ?_ _ | refine blk_drew ?_ | refine blk_alloc ?_ _)); exact BK400.out⟩, ⟨by repeat (first | (with_reducible first | exact HB.out | apply below_alloc | apply pw_below_drewN | apply below_drew1 | refine below_set ?_ GE400.out) | exact HB.out)⟩⟩
  case rest =>
    clear HC4
    try clear c1
    try clear p2
    try clear c3
    try clear c9
    try clear c10
    try clear c11
    try clear hcz7_0
    try clear hcz7_1
    try clear hfz7_0
    try clear hfz7_1
    obtain ⟨kq, x17_3, rfl, HA, HJ3, BK400, HB⟩ := hcut
    cases kq with
    | zero => exact absurd HA.out (by simp [changeforgelaw6_RulesMatchSpec.j0])
    | succ kj3 =>
      have H := HA.out
      clear HA
      simp only [changeforgelaw6_RulesMatchSpec.j0] at H
      by_cases c18 : x17_3 = true
      · subst c18
        have H1 : (some false) = some r := by rw [if_pos rfl] at H; exact H
        clear H
        have H := H1
        clear H1
        obtain rfl := Option.some.inj H
        go_wp2
        go_ret
        exact ⟨by first | rfl | (simp [errW_none, errW_some] <;> rfl) | (simp [*, errW_none, errW_some] <;> rfl), by repeat (first | (with_reducible first | exact HB.out | apply below_alloc | apply pw_below_drewN | apply below_drew1 | refine below_set ?_ GE400.out) | exact HB.out)⟩
      · replace c18 := Bool.eq_false_iff.mpr c18
        subst c18
        have H1 : (if t398 = 0 then ((changeforgelaw6_in.f a1 0 (wrap64 ((l0.length : Int) - 1))).bind fun t404 => (changeforgelaw6_RulesMatchSpec.j1 kj3 l0 a1 (!t404) t398 t399)) else (changeforgelaw6_RulesMatchSpec.j1 kj3 l0 a1 false t398 t399)) = some r := by rw [if_neg (show ¬ (false = true) by decide)] at H; exact H
        clear H
        have H := H1
        clear H1
        have HC19 := Aside0.mk H
        clear H
        go_upto_region 4 with (fail)
        go_cut [28] (fun v28 wc => ∃ (kq : Nat) (x28_18 : Bool), v28 = .bool x28_18 ∧ Aside0 (changeforgelaw6_RulesMatchSpec.j1 kq l0 a1 x28_18 t398 t399 = some r) ∧ Aside0 (kq ≤ kj3) ∧ Aside0 (wc.heap[gb400]? = some (.cells #[.int .i64 t398, .int .i64 t399] 24 (0, 0))) ∧ Aside0 (Below w.heap.size w wc))
        case first =>
          have H := HC19.out
          clear HC19
          by_cases c20 : t398 = 0
          · rw [if_pos c20] at H
            have c20b0 : (t398 == 0) = true := beq_iff_eq.mpr c20
            have c20b1 : (t398 != 0) = false := bne_eq_false_iff_eq.mpr c20
            clear c20
            (first | rw [c20b0] | (simp only [i64_w, i32_w]; rw [c20b0]) | skip)
            replace H := Option.bind_eq_some_iff.mp H
            obtain ⟨t404, A210, H⟩ := H
            replace H : (changeforgelaw6_RulesMatchSpec.j1 kj3 l0 a1 (!t404) t398 t399) = some r := H
            have A21 := Aside0.mk A210
            clear A210
            have H' := Aside0.mk H
            clear H
            have hcz22_0 : wc.cell? ⟨gb400, 0, none⟩ = some (.int .i64 t398) := (blk_cell BK400.out 0).trans rfl
            have hcz22_1 : wc.cell? ⟨gb400, 1, none⟩ = some (.int .i64 t399) := (blk_cell BK400.out 1).trans rfl
            have hfz22_0 := blk_frozen BK400.out 0
            have hfz22_1 := blk_frozen BK400.out 1
            go_wp2_with (first | (go_at_call 12; (with_reducible refine (changeforgelaw6_in.calls a1 0 (wrap64 ((l0.length : Int) - 1)) t404 _ A21.out).mono ?_); rintro e w' ⟨rfl, ⟨nd, rfl⟩⟩))
            go_meet
            case rel => exact ⟨_, (!t404), (by first | rfl | (simp; done) | (simp [*]; done)), H', ⟨by have := HJ3.out; first | omega | exact Nat.le_refl _⟩, ⟨by (with_reducible repeat (first | refine blk_drewN ?_ _ | refine blk_drew ?_ | refine blk_alloc ?_ _)); exact BK400.out⟩, ⟨by repeat (first | (with_reducible first | exact HB.out | apply below_alloc | apply pw_below_drewN | apply below_drew1 | refine below_set ?_ GE400.out) | exact HB.out)⟩⟩
          · rw [if_neg c20] at H
            have c20b0 : (t398 == 0) = false := beq_eq_false_iff_ne.mpr c20
            have c20b1 : (t398 != 0) = true := bne_iff_ne.mpr c20
            (first | rw [c20b0] | (simp only [i64_w, i32_w]; rw [c20b0]) | skip)
            have H' := Aside0.mk H
            clear H
            have hcz23_0 : wc.cell? ⟨gb400, 0, none⟩ = some (.int .i64 t398) := (blk_cell BK400.out 0).trans rfl
            have hcz23_1 : wc.cell? ⟨gb400, 1, none⟩ = some (.int .i64 t399) := (blk_cell BK400.out 1).trans rfl
            have hfz23_0 := blk_frozen BK400.out 0
            have hfz23_1 := blk_frozen BK400.out 1
            go_wp2
            go_meet
            case rel => exact ⟨_, (false), (by first | rfl | (simp; done) | (simp [*]; done)), H', ⟨by have := HJ3.out; first | omega | exact Nat.le_refl _⟩, ⟨by (with_reducible repeat (first | refine blk_drewN ?_ _ | refine blk_drew ?_ | refine blk_alloc ?_ _)); exact BK400.out⟩, ⟨by repeat (first | (with_reducible first | exact HB.out | apply below_alloc | apply pw_below_drewN | apply below_drew1 | refine below_set ?_ GE400.out) | exact HB.out)⟩⟩
        case rest =>
          clear HC19
          try clear c1
          try clear c2
          try clear p2
          try clear c3
          try clear p6
          try clear c9
          try clear c10
          try clear c11
          try clear c18
          try clear c20
          try clear c20b0
          try clear c20b1
          try clear hcz22_0
          try clear hcz22_1
          try clear hcz23_0
          try clear hcz23_1
          try clear hcz7_0
          try clear hcz7_1
          try clear hfz22_0
          try clear hfz22_1
          try clear hfz23_0
          try clear hfz23_1
          try clear hfz7_0
          try clear hfz7_1
          try clear p2
          obtain ⟨kq, x28_18, rfl, HA, HJ18, BK400, HB⟩ := hcut
          cases kq with
          | zero => exact absurd HA.out (by simp [changeforgelaw6_RulesMatchSpec.j1])
          | succ kj18 =>
            have H := HA.out
            clear HA
            simp only [changeforgelaw6_RulesMatchSpec.j1] at H
            have HC24 := Aside0.mk H
            clear H
            go_upto_if 28 with (fail)
            go_cut [] (fun wc => ∃ (kq : Nat) (x401000_23 : Int) (x401001_23 : Int), Aside0 (changeforgelaw6_RulesMatchSpec.j2 kq l0 a1 x401000_23 x401001_23 = some r) ∧ Aside0 (kq ≤ kj18) ∧ Aside0 (wc.heap[gb400]? = some (.cells #[.int .i64 x401000_23, .int .i64 x401001_23] 24 (0, 0))) ∧ Aside0 (Below w.heap.size w wc))
            case first =>
              have H := HC24.out
              clear HC24
              by_cases c25 : x28_18 = true
              · subst c25
                have H1 : ((changeforgelaw6_fault.f 3 (-2)).bind fun bt405 => (changeforgelaw6_RulesMatchSpec.j2 kj18 l0 a1 bt405.1 bt405.2)) = some r := by rw [if_pos rfl] at H; exact H
                clear H
                have H := H1
                clear H1
                replace H := Option.bind_eq_some_iff.mp H
                obtain ⟨⟨t405, t406⟩, A260, H⟩ := H
                replace H : (changeforgelaw6_RulesMatchSpec.j2 kj18 l0 a1 t405 t406) = some r := H
                have A26 := Aside0.mk A260
                clear A260
                have H' := Aside0.mk H
                clear H
                go_wp2_with (first | ((with_reducible refine gate_callee (f := 13) rfl ?_); refine goesL_ (some 29) rfl rfl Tryd.func13 (by kernel_rfl) rfl #[.int .i64 3, .int .i64 (-2)] rfl (by (try simp only [List.map_toArray, List.map_cons, List.map_nil]); first | done | rfl | (simp only [List.length_drop, List.length_take]; rfl)) ?_; (with_reducible refine (changeforgelaw6_fault.calls 3 (-2) t405 t406 _ A26.out).mono ?_); rintro e w27 ⟨rfl, hb⟩; refine ⟨_, rfl, ?_⟩; have n0_ := Aside0.mk (blk_below (g := gb400) (o := .cells #[.int .i64 t398, .int .i64 t399] 24 (0, 0)) (by (with_reducible repeat (first | refine blk_drewN ?_ _ | refine blk_drew ?_ | refine blk_alloc ?_ _)); exact BK400.out) hb); have n1_ := Aside0.mk (below_step (by repeat (first | (with_reducible first | exact HB.out | apply below_alloc | apply pw_below_drewN | apply below_drew1 | refine below_set ?_ GE400.out) | exact HB.out)) hb); clear BK400; clear HB; have BK400 := n0_; have HB := n1_; clear n0_ n1_; (try clear hb); (try clear hb2); (try clear hk); (try clear hi); have hcz28_0 : w27.cell? ⟨gb400, 0, none⟩ = some (.int .i64 t398) := (blk_cell BK400.out 0).trans rfl; have hcz28_1 : w27.cell? ⟨gb400, 1, none⟩ = some (.int .i64 t399) := (blk_cell BK400.out 1).trans rfl; have hfz28_0 := blk_frozen BK400.out 0; have hfz28_1 := blk_frozen BK400.out 1))
                go_meet
                case rel => exact ⟨_, (t405), (t406), H', ⟨by have := HJ3.out; have := HJ18.out; first | omega | exact Nat.le_refl _⟩, ⟨by (with_reducible repeat (first | refine blk_drewN ?_ _ | refine blk_drew ?_ | refine blk_alloc ?_ _)); refine blk_put (cs := #[.int .i64 t405, .int .i64 t399]) ?_ 1 _ rfl; (with_reducible repeat (first | refine blk_drewN ?_ _ | refine blk_drew ?_ | refine blk_alloc ?_ _)); refine blk_put (cs := #[.int .i64 t398, .int .i64 t399]) ?_ 0 _ rfl; (with_reducible repeat (first | refine blk_drewN ?_ _ | refine blk_drew ?_ | refine blk_alloc ?_ _)); exact BK400.out⟩, ⟨by repeat (first | (with_reducible first | exact HB.out | apply below_alloc | apply pw_below_drewN | apply below_drew1 | refine below_set ?_ GE400.out) | exact HB.out)⟩⟩
              · replace c25 := Bool.eq_false_iff.mpr c25
                subst c25
                have H1 : (changeforgelaw6_RulesMatchSpec.j2 kj18 l0 a1 t398 t399) = some r := by rw [if_neg (show ¬ (false = true) by decide)] at H; exact H
                clear H
                have H := H1
                clear H1
                have H' := Aside0.mk H
                clear H
                go_wp2
                go_meet
                case rel => exact ⟨_, (t398), (t399), H', ⟨by have := HJ3.out; have := HJ18.out; first | omega | exact Nat.le_refl _⟩, ⟨by (with_reducible repeat (first | refine blk_drewN ?_ _ | refine blk_drew ?_ | refine blk_alloc ?_ _)); exact BK400.out⟩, ⟨by repeat (first | (with_reducible first | exact HB.out | apply below_alloc | apply pw_below_drewN | apply below_drew1 | refine below_set ?_ GE400.out) | exact HB.out)⟩⟩
            case rest =>
              clear HC24
              try clear c1
              try clear c2
              try clear p2
              try clear c3
              try clear p6
              try clear c9
              try clear c10
              try clear c11
              try clear c13
              try clear c18
              try clear c20
              try clear c20b0
              try clear c20b1
              try clear c25
              try clear hcz22_0
              try clear hcz22_1
              try clear hcz23_0
              try clear hcz23_1
              try clear hcz28_0
              try clear hcz28_1
              try clear hcz7_0
              try clear hcz7_1
              try clear hfz22_0
              try clear hfz22_1
              try clear hfz23_0
              try clear hfz23_1
              try clear hfz28_0
              try clear hfz28_1
              try clear hfz7_0
              try clear hfz7_1
              try clear p2
              try clear p6
              obtain ⟨kq, x401000_23, x401001_23, HA, HJ23, BK400, HB⟩ := hcut
              cases kq with
              | zero => exact absurd HA.out (by simp [changeforgelaw6_RulesMatchSpec.j2])
              | succ kj23 =>
                have H := HA.out
                clear HA
                simp only [changeforgelaw6_RulesMatchSpec.j2] at H
                replace H := Option.bind_eq_some_iff.mp H
                obtain ⟨⟨t407, t410, t411⟩, A290, H⟩ := H
                replace H : (if (!(t410 == x401000_23) || (!(t411 == x401001_23))) = true then (changeforgelaw6_RulesMatchSpec.j3 kj23 l0 a1 t407 true x401000_23 x401001_23 t410 t411) else (changeforgelaw6_RulesMatchSpec.j3 kj23 l0 a1 t407 (x401000_23 != 0) x401000_23 x401001_23 t410 t411)) = some r := H
                have A29 := Aside0.mk A290
                clear A290
                have HC30 := Aside0.mk H
                clear H
                go_upto_region 7 with (first | ((with_reducible refine gate_callee (f := 14) rfl ?_); refine goesL_ (some 33) rfl rfl Tryd.func14 (by kernel_rfl) rfl #[.slice A0 l0.length c0, .int .i64 a1] rfl (by (try simp only [List.map_toArray, List.map_cons, List.map_nil]); first | done | rfl | (simp only [List.length_drop, List.length_take]; rfl)) ?_; (with_reducible refine (rules_Leaves.calls kj23 _ _ l0 a1 t407 t410 t411 _ ?side1 ?side2 ?side3 A29.out).mono ?_); (case side1 => repeat (first | exact (Kd.C_below HR0.out HB.out) | (with_reducible refine Kd.C_alloc ?_ _) | (with_reducible refine Kd.C_drewN ?_ _) | (with_reducible refine Kd.C_drew ?_))); (case side2 => exact HC0.out); (case side3 => exact Glob.below HG.out (by repeat (first | (with_reducible first | exact HB.out | apply below_alloc | apply pw_below_drewN | apply below_drew1 | refine below_set ?_ GE400.out) | exact HB.out))); rintro e w31 ⟨v408, rfl, ho0, hb⟩; refine ⟨_, rfl, ?_⟩; have n0_ := Aside0.mk (Kd.R_lower ho0 (below_size (by repeat (first | (with_reducible first | exact HB.out | apply below_alloc | apply pw_below_drewN | apply below_drew1 | refine below_set ?_ GE400.out) | exact HB.out)))); have n1_ := Aside0.mk (blk_below (g := gb400) (o := .cells #[.int .i64 x401000_23, .int .i64 x401001_23] 24 (0, 0)) (by (with_reducible repeat (first | refine blk_drewN ?_ _ | refine blk_drew ?_ | refine blk_alloc ?_ _)); exact BK400.out) hb); have n2_ := Aside0.mk (below_step (by repeat (first | (with_reducible first | exact HB.out | apply below_alloc | apply pw_below_drewN | apply below_drew1 | refine below_set ?_ GE400.out) | exact HB.out)) hb); clear BK400; clear HB; have HO409 := n0_; have BK400 := n1_; have HB := n2_; clear n0_ n1_ n2_; (try clear hb); (try clear hb2); (try clear hk); (try clear hi); (try clear ho0)) | ((with_reducible refine gate_dst (N := 7) rfl ?_); (try (refine gate_guard (by rfl) ?_; dsimp only)); refine box_event ?hg (N := 7) ?hd (cs := #[.int .i64 0, .int .i64 0]) (t := 24) ?hr ?_; (case hd => rfl); (case hg => rfl); (case hr => first | (go_simp; done) | (go_simp; rfl)); intro gb412 hg w32 hbox hb; have n0_ := Aside0.mk (Kd.R_below (by (with_reducible repeat (first | apply Kd.R_alloc | apply Kd.R_drewN | apply Kd.R_drew)); exact HO409.out) hb); have n1_ := Aside0.mk (blk_below (g := gb400) (o := .cells #[.int .i64 x401000_23, .int .i64 x401001_23] 24 (0, 0)) (by (with_reducible repeat (first | refine blk_drewN ?_ _ | refine blk_drew ?_ | refine blk_alloc ?_ _)); exact BK400.out) hb); have n2_ := Aside0.mk (below_step (by repeat (first | (with_reducible first | exact HB.out | apply below_alloc | apply pw_below_drewN | apply below_drew1 | refine below_set ?_ GE400.out) | exact HB.out)) hb); have n3_ := Aside0.mk (hbox); have n4_ := Aside0.mk ((by rw [hg]; exact (below_size (by repeat (first | (with_reducible first | exact HB.out | apply below_alloc | apply pw_below_drewN | apply below_drew1 | refine below_set ?_ GE400.out) | exact HB.out))) : w.heap.size ≤ gb412)); have n5_ := Aside0.mk ((by rw [hg]; exact (below_size (by repeat (first | (with_reducible first | exact HB.out | apply below_alloc | apply pw_below_drewN | apply below_drew1 | refine below_set ?_ GE400.out) | exact HB.out))) : w.heap.size ≤ gb412)); have n6_ := Aside0.mk ((by rw [hg]; exact Nat.ne_of_lt (blk_lt (g := gb400) (o := .cells #[.int .i64 x401000_23, .int .i64 x401001_23] 24 (0, 0)) (by (with_reducible repeat (first | refine blk_drewN ?_ _ | refine blk_drew ?_ | refine blk_alloc ?_ _)); exact BK400.out)) : gb400 ≠ gb412)); have n7_ := Aside0.mk ((by rw [hg]; exact Nat.ne_of_gt (blk_lt (g := gb400) (o := .cells #[.int .i64 x401000_23, .int .i64 x401001_23] 24 (0, 0)) (by (with_reducible repeat (first | refine blk_drewN ?_ _ | refine blk_drew ?_ | refine blk_alloc ?_ _)); exact BK400.out)) : gb412 ≠ gb400)); clear HO409; clear BK400; clear HB; have HO409 := n0_; have BK400 := n1_; have HB := n2_; have BK412 := n3_; have GW412 := n4_; have GE412 := n5_; have NB400_412 := n6_; have NB412_400 := n7_; clear n0_ n1_ n2_ n3_ n4_ n5_ n6_ n7_; clear hb hbox hg; have hnb33 := NB412_400.out; have hnc33 := NB400_412.out; have hcz34_0 : w32.cell? ⟨gb412, 0, none⟩ = some (.int .i64 0) := (blk_cell BK412.out 0).trans rfl; have hcz34_1 : w32.cell? ⟨gb412, 1, none⟩ = some (.int .i64 0) := (blk_cell BK412.out 1).trans rfl; have hfz34_0 := blk_frozen BK412.out 0; have hfz34_1 := blk_frozen BK412.out 1))
                (try simp only [Act.put, List.setIfInBounds_toArray, List.set_cons_zero, List.set_cons_succ])
                go_cut [43] (fun v43 wc => ∃ (kq : Nat) (x43_29 : Bool), v43 = .bool x43_29 ∧ Aside0 (changeforgelaw6_RulesMatchSpec.j3 kq l0 a1 t407 x43_29 x401000_23 x401001_23 t410 t411 = some r) ∧ Aside0 (kq ≤ kj23) ∧ Aside0 (Kd.R (Kd.int .i64) 3 wc w.heap.size (fun _ => True) v408 t407) ∧ Aside0 (wc.heap[gb400]? = some (.cells #[.int .i64 x401000_23, .int .i64 x401001_23] 24 (0, 0))) ∧ Aside0 (wc.heap[gb412]? = some (.cells #[.int .i64 t410, .int .i64 t411] 24 (0, 0))) ∧ Aside0 (Below w.heap.size w wc))
                case first =>
                  have H := HC30.out
                  clear HC30
                  by_cases c35 : (!(t410 == x401000_23) || (!(t411 == x401001_23))) = true
                  · rw [if_pos c35] at H
                    have c35b0 : (!(t410 == x401000_23) || (!(t411 == x401001_23))) = true := c35
                    clear c35
                    (first | rw [c35b0] | (simp only [i64_w, i32_w]; rw [c35b0]) | skip)
                    have H' := Aside0.mk H
                    clear H
                    have hnb36 := NB412_400.out
                    have hnc36 := NB400_412.out
                    have hcz37_0 : w32.cell? ⟨gb412, 0, none⟩ = some (.int .i64 0) := (blk_cell BK412.out 0).trans rfl
                    have hcz37_1 : w32.cell? ⟨gb412, 1, none⟩ = some (.int .i64 0) := (blk_cell BK412.out 1).trans rfl
                    have hfz37_0 := blk_frozen BK412.out 0
                    have hfz37_1 := blk_frozen BK412.out 1
                    have hcz38_0 : w32.cell? ⟨gb400, 0, none⟩ = some (.int .i64 x401000_23) := (blk_cell BK400.out 0).trans rfl
                    have hcz38_1 : w32.cell? ⟨gb400, 1, none⟩ = some (.int .i64 x401001_23) := (blk_cell BK400.out 1).trans rfl
                    have hfz38_0 := blk_frozen BK400.out 0
                    have hfz38_1 := blk_frozen BK400.out 1
                    go_wp2
                    go_meet
                    case rel => exact ⟨_, (true), (by first | rfl | (simp; done) | (simp [*]; done)), H', ⟨by have := HJ3.out; have := HJ18.out; have := HJ23.out; first | omega | exact Nat.le_refl _⟩, ⟨by (with_reducible repeat (first | apply Kd.R_alloc | apply Kd.R_drewN | apply Kd.R_drew)); exact Kd.R_mono (Kd.R_far (p := ⟨gb412, 1, none⟩) (Kd.R_far (p := ⟨gb412, 0, none⟩) (Kd.R_types HO409.out BK412.out (by decide)) (fun _ hk => hk.2) (.int .i64 t410)) (fun _ hk => hk.2) (.int .i64 t411)) (fun _ hk => trivial)⟩, ⟨by (with_reducible repeat (first | refine blk_drewN ?_ _ | refine blk_drew ?_ | refine blk_alloc ?_ _)); refine blk_far ?_ NB400_412.out _; (with_reducible repeat (first | refine blk_drewN ?_ _ | refine blk_drew ?_ | refine blk_alloc ?_ _)); refine blk_far ?_ NB400_412.out _; (with_reducible repeat (first | refine blk_drewN ?_ _ | refine blk_drew ?_ | refine blk_alloc ?_ _)); exact BK400.out⟩, ⟨by (with_reducible repeat (first | refine blk_drewN ?_ _ | refine blk_drew ?_ | refine blk_alloc ?_ _)); refine blk_put (cs := #[.int .i64 t410, .int .i64 0]) ?_ 1 _ rfl; (with_reducible repeat (first | refine blk_drewN ?_ _ | refine blk_drew ?_ | refine blk_alloc ?_ _)); refine blk_put (cs := #[.int .i64 0, .int .i64 0]) ?_ 0 _ rfl; (with_reducible repeat (first | refine blk_drewN ?_ _ | refine blk_drew ?_ | refine blk_alloc ?_ _)); exact BK412.out⟩, ⟨by repeat (first | (with_reducible first | exact HB.out | apply below_alloc | apply pw_below_drewN | apply below_drew1 | refine below_set ?_ GE400.out | refine below_set ?_ GE412.out) | exact HB.out)⟩⟩
                  · rw [if_neg c35] at H
                    have c35b0 : (!(t410 == x401000_23) || (!(t411 == x401001_23))) = false := by simpa using c35
                    clear c35
                    (first | rw [c35b0] | (simp only [i64_w, i32_w]; rw [c35b0]) | skip)
                    have H' := Aside0.mk H
                    clear H
                    have hnb39 := NB412_400.out
                    have hnc39 := NB400_412.out
                    have hcz40_0 : w32.cell? ⟨gb412, 0, none⟩ = some (.int .i64 0) := (blk_cell BK412.out 0).trans rfl
                    have hcz40_1 : w32.cell? ⟨gb412, 1, none⟩ = some (.int .i64 0) := (blk_cell BK412.out 1).trans rfl
                    have hfz40_0 := blk_frozen BK412.out 0
                    have hfz40_1 := blk_frozen BK412.out 1
                    have hcz41_0 : w32.cell? ⟨gb400, 0, none⟩ = some (.int .i64 x401000_23) := (blk_cell BK400.out 0).trans rfl
                    have hcz41_1 : w32.cell? ⟨gb400, 1, none⟩ = some (.int .i64 x401001_23) := (blk_cell BK400.out 1).trans rfl
                    have hfz41_0 := blk_frozen BK400.out 0
                    have hfz41_1 := blk_frozen BK400.out 1
                    go_wp2
                    go_meet
                    case rel => exact ⟨_, ((x401000_23 != 0)), (by first | rfl | (simp; done) | (simp [*]; done)), H', ⟨by have := HJ3.out; have := HJ18.out; have := HJ23.out; first | omega | exact Nat.le_refl _⟩, ⟨by (with_reducible repeat (first | apply Kd.R_alloc | apply Kd.R_drewN | apply Kd.R_drew)); exact Kd.R_mono (Kd.R_far (p := ⟨gb412, 1, none⟩) (Kd.R_far (p := ⟨gb412, 0, none⟩) (Kd.R_types HO409.out BK412.out (by decide)) (fun _ hk => hk.2) (.int .i64 t410)) (fun _ hk => hk.2) (.int .i64 t411)) (fun _ hk => trivial)⟩, ⟨by (with_reducible repeat (first | refine blk_drewN ?_ _ | refine blk_drew ?_ | refine blk_alloc ?_ _)); refine blk_far ?_ NB400_412.out _; (with_reducible repeat (first | refine blk_drewN ?_ _ | refine blk_drew ?_ | refine blk_alloc ?_ _)); refine blk_far ?_ NB400_412.out _; (with_reducible repeat (first | refine blk_drewN ?_ _ | refine blk_drew ?_ | refine blk_alloc ?_ _)); exact BK400.out⟩, ⟨by (with_reducible repeat (first | refine blk_drewN ?_ _ | refine blk_drew ?_ | refine blk_alloc ?_ _)); refine blk_put (cs := #[.int .i64 t410, .int .i64 0]) ?_ 1 _ rfl; (with_reducible repeat (first | refine blk_drewN ?_ _ | refine blk_drew ?_ | refine blk_alloc ?_ _)); refine blk_put (cs := #[.int .i64 0, .int .i64 0]) ?_ 0 _ rfl; (with_reducible repeat (first | refine blk_drewN ?_ _ | refine blk_drew ?_ | refine blk_alloc ?_ _)); exact BK412.out⟩, ⟨by repeat (first | (with_reducible first | exact HB.out | apply below_alloc | apply pw_below_drewN | apply below_drew1 | refine below_set ?_ GE400.out | refine below_set ?_ GE412.out) | exact HB.out)⟩⟩
                case rest =>
                  clear HC30
                  try clear c1
                  try clear c2
                  try clear p2
                  try clear c3
                  try clear p6
                  try clear c9
                  try clear c10
                  try clear c11
                  try clear c13
                  try clear c14
                  try clear c18
                  try clear c20
                  try clear c20b0
                  try clear c20b1
                  try clear c25
                  try clear c33
                  try clear c35
                  try clear c35b0
                  try clear c36
                  try clear c39
                  try clear hcz22_0
                  try clear hcz22_1
                  try clear hcz23_0
                  try clear hcz23_1
                  try clear hcz28_0
                  try clear hcz28_1
                  try clear hcz34_0
                  try clear hcz34_1
                  try clear hcz37_0
                  try clear hcz37_1
                  try clear hcz38_0
                  try clear hcz38_1
                  try clear hcz40_0
                  try clear hcz40_1
                  try clear hcz41_0
                  try clear hcz41_1
                  try clear hcz7_0
                  try clear hcz7_1
                  try clear hfz22_0
                  try clear hfz22_1
                  try clear hfz23_0
                  try clear hfz23_1
                  try clear hfz28_0
                  try clear hfz28_1
                  try clear hfz34_0
                  try clear hfz34_1
                  try clear hfz37_0
                  try clear hfz37_1
                  try clear hfz38_0
                  try clear hfz38_1
                  try clear hfz40_0
                  try clear hfz40_1
                  try clear hfz41_0
                  try clear hfz41_1
                  try clear hfz7_0
                  try clear hfz7_1
                  try clear p2
                  try clear p6
                  obtain ⟨kq, x43_29, rfl, HA, HJ29, HO_6, BK400, BK412, HB⟩ := hcut
                  cases kq with
                  | zero => exact absurd HA.out (by simp [changeforgelaw6_RulesMatchSpec.j3])
                  | succ kj29 =>
                    have H := HA.out
                    clear HA
                    simp only [changeforgelaw6_RulesMatchSpec.j3] at H
                    by_cases c42 : x43_29 = true
                    · subst c42
                      have H1 : (if (t410 == x401000_23 && (t411 == x401001_23)) = true then (some ((t407.length : Int) == 0)) else (some false)) = some r := by rw [if_pos rfl] at H; exact H
                      clear H
                      have H := H1
                      clear H1
                      by_cases c43 : (t410 == x401000_23 && (t411 == x401001_23)) = true
                      · rw [if_pos c43] at H
                        have c43b0 : (t410 == x401000_23 && (t411 == x401001_23)) = true := c43
                        (try (have c43b1 : decide (t410 = x401000_23 && (t411 == x401001_23)) = true := by simpa using c43))
                        (try (have c43b2 : (t410 == x401000_23 && (t411 == x401001_23)) = true := by simpa using c43))
                        clear c43
                        obtain rfl := Option.some.inj H
                        have hnb44 := NB412_400.out
                        have hnc44 := NB400_412.out
                        have hcz45_0 : wc.cell? ⟨gb412, 0, none⟩ = some (.int .i64 t410) := (blk_cell BK412.out 0).trans rfl
                        have hcz45_1 : wc.cell? ⟨gb412, 1, none⟩ = some (.int .i64 t411) := (blk_cell BK412.out 1).trans rfl
                        have hfz45_0 := blk_frozen BK412.out 0
                        have hfz45_1 := blk_frozen BK412.out 1
                        have hcz46_0 : wc.cell? ⟨gb400, 0, none⟩ = some (.int .i64 x401000_23) := (blk_cell BK400.out 0).trans rfl
                        have hcz46_1 : wc.cell? ⟨gb400, 1, none⟩ = some (.int .i64 x401001_23) := (blk_cell BK400.out 1).trans rfl
                        have hfz46_0 := blk_frozen BK400.out 0
                        have hfz46_1 := blk_frozen BK400.out 1
                        obtain ⟨Ao47, co47, eo47⟩ := Kd.R_slice HO_6.out
                        subst eo47
                        go_wp2
                        go_ret
                        exact ⟨by first | rfl | (simp [errW_none, errW_some] <;> rfl) | (simp [*, errW_none, errW_some] <;> rfl), by repeat (first | (with_reducible first | exact HB.out | apply below_alloc | apply pw_below_drewN | apply below_drew1 | refine below_set ?_ GE400.out | refine below_set ?_ GE412.out) | exact HB.out)⟩
                      · rw [if_neg c43] at H
                        have c43b0 : (t410 == x401000_23 && (t411 == x401001_23)) = false := by simpa using c43
                        (try (have c43b1 : decide (t410 = x401000_23 && (t411 == x401001_23)) = false := by simpa using c43))
                        (try (have c43b2 : (t410 == x401000_23 && (t411 == x401001_23)) = false := by simpa using c43))
                        (try (have c43b3 : ¬ (t410 = x401000_23 && (t411 == x401001_23)) := by simpa using c43))
                        clear c43
                        obtain rfl := Option.some.inj H
                        have hnb48 := NB412_400.out
                        have hnc48 := NB400_412.out
                        have hcz49_0 : wc.cell? ⟨gb412, 0, none⟩ = some (.int .i64 t410) := (blk_cell BK412.out 0).trans rfl
                        have hcz49_1 : wc.cell? ⟨gb412, 1, none⟩ = some (.int .i64 t411) := (blk_cell BK412.out 1).trans rfl
                        have hfz49_0 := blk_frozen BK412.out 0
                        have hfz49_1 := blk_frozen BK412.out 1
                        have hcz50_0 : wc.cell? ⟨gb400, 0, none⟩ = some (.int .i64 x401000_23) := (blk_cell BK400.out 0).trans rfl
                        have hcz50_1 : wc.cell? ⟨gb400, 1, none⟩ = some (.int .i64 x401001_23) := (blk_cell BK400.out 1).trans rfl
                        have hfz50_0 := blk_frozen BK400.out 0
                        have hfz50_1 := blk_frozen BK400.out 1
                        go_wp2
                        go_ret
                        exact ⟨by first | rfl | (simp [errW_none, errW_some] <;> rfl) | (simp [*, errW_none, errW_some] <;> rfl), by repeat (first | (with_reducible first | exact HB.out | apply below_alloc | apply pw_below_drewN | apply below_drew1 | refine below_set ?_ GE400.out | refine below_set ?_ GE412.out) | exact HB.out)⟩
                    · replace c42 := Bool.eq_false_iff.mpr c42
                      subst c42
                      have H1 : (if 0 ≤ a1 then (if a1 < (l0.length : Int) then (if ((rd_T33 l0 a1).f0) = 6 then ((changeforgeref6_RuleLeaves.f kj29 l0 a1).bind fun t414 => ((changeforgeref5_Ints.f kj29 t407 t414).bind fun t417 => (some t417))) else ((changeforgeref5_Ints.f kj29 t407 (([a1] : List Int))).bind fun t421 => (some t421))) else (none)) else (none)) = some r := by rw [if_neg (show ¬ (false = true) by decide)] at H; exact H
                      clear H
                      have H := H1
                      clear H1
                      by_cases c51 : 0 ≤ a1
                      · rw [if_pos c51] at H
                        have c51b0 : decide (0 ≤ a1) = true := decide_eq_true c51
                        clear c51
                        by_cases c52 : a1 < (l0.length : Int)
                        · rw [if_pos c52] at H
                          have c52b0 : decide (a1 < (l0.length : Int)) = true := decide_eq_true c52
                          clear c52
                          by_cases c53 : ((rd_T33 l0 a1).f0) = 6
                          · rw [if_pos c53] at H
                            have c53b0 : (((rd_T33 l0 a1).f0) == 6) = true := beq_iff_eq.mpr c53
                            have c53b1 : (((rd_T33 l0 a1).f0) != 6) = false := bne_eq_false_iff_eq.mpr c53
                            clear c53
                            replace H := Option.bind_eq_some_iff.mp H
                            obtain ⟨t414, A540, H⟩ := H
                            replace H : ((changeforgeref5_Ints.f kj29 t407 t414).bind fun t417 => (some t417)) = some r := H
                            have A54 := Aside0.mk A540
                            clear A540
                            replace H := Option.bind_eq_some_iff.mp H
                            obtain ⟨t417, A550, H⟩ := H
                            replace H : (some t417) = some r := H
                            have A55 := Aside0.mk A550
                            clear A550
                            obtain rfl := Option.some.inj H
                            have p413 : 0 ≤ (a1 : Int) := of_decide_eq_true (by first | (with_reducible assumption) | assumption)
                            have q413 : a1 < (l0.length : Int) := of_decide_eq_true (by first | (with_reducible assumption) | assumption)
                            obtain ⟨ad413, A413_1, c413_1, e413, hx413_0, hx413_1, hl413_1, hi413_1⟩ := at_T33 HR0.out a1 p413 q413
                            cases e413
                            replace hx413_0 := (HB.out.cell (World.block_lt_of_cell? w _ hx413_0)).trans hx413_0
                            replace hx413_1 := (HB.out.cell (World.block_lt_of_cell? w _ hx413_1)).trans hx413_1
                            have HR413_1 := Aside0.mk hi413_1
                            have HC413_1 := Aside0.mk hl413_1
                            clear hi413_1 hl413_1
                            replace p413 := eq_true p413
                            replace q413 := eq_true q413
                            go_wp2_with (first | ((with_reducible refine gate_callee (f := 16) rfl ?_); refine goesL_ (some 65) rfl rfl Tryd.func16 (by kernel_rfl) rfl #[.slice (some ad413) l0.length c0, .int .i64 a1] rfl (by (try simp only [List.map_toArray, List.map_cons, List.map_nil]); first | done | rfl | (simp only [List.length_drop, List.length_take]; rfl)) ?_; (with_reducible refine (changeforgeref6_RuleLeaves.calls kj29 _ _ l0 a1 t414 _ ?side1 ?side2 A54.out).mono ?_); (case side1 => repeat (first | exact (Kd.C_below HR0.out HB.out) | (with_reducible refine Kd.C_alloc ?_ _) | (with_reducible refine Kd.C_drewN ?_ _) | (with_reducible refine Kd.C_drew ?_))); (case side2 => exact HC0.out); rintro e w56 ⟨v415, rfl, ho0, hb⟩; refine ⟨_, rfl, ?_⟩; have n0_ := Aside0.mk (Kd.R_elder' (by (with_reducible repeat (first | apply Kd.R_alloc | apply Kd.R_drewN | apply Kd.R_drew)); exact HO_6.out) (Kd.R_base ho0) hb); have n1_ := Aside0.mk (Kd.R_lower (Kd.R_new' ho0 (Kd.R_lt (by (with_reducible repeat (first | apply Kd.R_alloc | apply Kd.R_drewN | apply Kd.R_drew)); exact HO_6.out))) (below_size (by repeat (first | (with_reducible first | exact HB.out | apply below_alloc | apply pw_below_drewN | apply below_drew1 | refine below_set ?_ GE400.out | refine below_set ?_ GE412.out) | exact HB.out)))); have n2_ := Aside0.mk (blk_below (g := gb400) (o := .cells #[.int .i64 x401000_23, .int .i64 x401001_23] 24 (0, 0)) (by (with_reducible repeat (first | refine blk_drewN ?_ _ | refine blk_drew ?_ | refine blk_alloc ?_ _)); exact BK400.out) hb); have n3_ := Aside0.mk (blk_below (g := gb412) (o := .cells #[.int .i64 t410, .int .i64 t411] 24 (0, 0)) (by (with_reducible repeat (first | refine blk_drewN ?_ _ | refine blk_drew ?_ | refine blk_alloc ?_ _)); exact BK412.out) hb); have n4_ := Aside0.mk (below_step (by repeat (first | (with_reducible first | exact HB.out | apply below_alloc | apply pw_below_drewN | apply below_drew1 | refine below_set ?_ GE400.out | refine below_set ?_ GE412.out) | exact HB.out)) hb); clear HO_6; clear BK400; clear BK412; clear HB; have HO_6 := n0_; have HO416 := n1_; have BK400 := n2_; have BK412 := n3_; have HB := n4_; clear n0_ n1_ n2_ n3_ n4_; (try clear hb); (try clear hb2); (try clear hk); (try clear hi); (try clear ho0); obtain ⟨Ao57, co57, eo57⟩ := Kd.R_slice HO_6.out; subst eo57; obtain ⟨Ao58, co58, eo58⟩ := Kd.R_slice HO416.out; subst eo58) | ((with_reducible refine gate_callee (f := 15) rfl ?_); refine goesL_ (some 66) rfl rfl Tryd.func15 (by kernel_rfl) rfl #[.slice Ao57 t407.length co57, .slice Ao58 t414.length co58] rfl (by (try simp only [List.map_toArray, List.map_cons, List.map_nil]); first | done | rfl | (simp only [List.length_drop, List.length_take]; rfl)) ?_; (with_reducible refine (changeforgeref5_Ints.calls kj29 _ _ t407 _ _ t414 t417 _ ?side1 ?side2 ?side3 ?side4 A55.out).mono ?_); (case side1 => repeat (first | exact (Kd.R_reads' HO_6.out).2.2 | (with_reducible refine Kd.C_alloc ?_ _) | (with_reducible refine Kd.C_drewN ?_ _) | (with_reducible refine Kd.C_drew ?_))); (case side2 => exact (Kd.R_reads' HO_6.out).2.1); (case side3 => repeat (first | exact (Kd.R_reads' HO416.out).2.2 | (with_reducible refine Kd.C_alloc ?_ _) | (with_reducible refine Kd.C_drewN ?_ _) | (with_reducible refine Kd.C_drew ?_))); (case side4 => exact (Kd.R_reads' HO416.out).2.1); rintro e w' ⟨rfl, ⟨nd, rfl⟩⟩; refine ⟨_, rfl, ?_⟩))
                            go_ret
                            exact ⟨by first | rfl | (simp [errW_none, errW_some] <;> rfl) | (simp [*, errW_none, errW_some] <;> rfl), by repeat (first | (with_reducible first | exact HB.out | apply below_alloc | apply pw_below_drewN | apply below_drew1 | refine below_set ?_ GE400.out | refine below_set ?_ GE412.out) | exact HB.out)⟩
                          · rw [if_neg c53] at H
                            have c53b0 : (((rd_T33 l0 a1).f0) == 6) = false := beq_eq_false_iff_ne.mpr c53
                            have c53b1 : (((rd_T33 l0 a1).f0) != 6) = true := bne_iff_ne.mpr c53
                            obtain ⟨y418, hy418⟩ : ∃ y_ : List Int, y_ = (([a1] : List Int)) := ⟨_, rfl⟩
                            replace H : ((changeforgeref5_Ints.f kj29 t407 y418).bind fun t421 => (some t421)) = some r := by first | (rw [hy418]; with_reducible exact H) | (have H2_ := (Option.bind_some _ _).symm.trans H; rw [hy418]; with_reducible exact H2_) | (have H2_ := (Option.bind_some _ _).symm.trans H; with_reducible exact H2_) | with_reducible exact H | (rw [hy418]; exact H) | exact H
                            have Ny418 := Aside0.mk hy418
                            clear hy418
                            replace H := Option.bind_eq_some_iff.mp H
                            obtain ⟨t421, A590, H⟩ := H
                            replace H : (some t421) = some r := H
                            have A59 := Aside0.mk A590
                            clear A590
                            obtain rfl := Option.some.inj H
                            have p413 : 0 ≤ (a1 : Int) := of_decide_eq_true (by first | (with_reducible assumption) | assumption)
                            have q413 : a1 < (l0.length : Int) := of_decide_eq_true (by first | (with_reducible assumption) | assumption)
                            obtain ⟨ad413, A413_1, c413_1, e413, hx413_0, hx413_1, hl413_1, hi413_1⟩ := at_T33 HR0.out a1 p413 q413
                            cases e413
                            replace hx413_0 := (HB.out.cell (World.block_lt_of_cell? w _ hx413_0)).trans hx413_0
                            replace hx413_1 := (HB.out.cell (World.block_lt_of_cell? w _ hx413_1)).trans hx413_1
                            have HR413_1 := Aside0.mk hi413_1
                            have HC413_1 := Aside0.mk hl413_1
                            clear hi413_1 hl413_1
                            replace p413 := eq_true p413
                            replace q413 := eq_true q413
                            go_wp2_with (first | ((with_reducible refine gate_dst (N := 60) rfl ?_); (try (refine gate_guard (by rfl) ?_; dsimp only)); refine Kd.R_lit (Kd.int .i64) _ 3 ?hg (N := 60) ?hd (xs := ([a1] : List Int)) (inner := [.int .i64 a1]) (ok := fun _ => True) (okp := fun _ => True) ?hr ?hp (fun _ hk => hk) trivial (Below.refl _ _) (Nat.le_refl _) (by simp) ?_; (case hd => rfl); (case hg => rfl); (case hr => first | (go_simp; done) | (go_simp; rfl)); (case hp => exact (Reps.one (show Kd.M (Kd.int .i64) _ _ _ a1 [.int .i64 a1] from rfl) (Reps.none _ _))); intro v419 w60 ho61 hb hg_ hnew_; clear hg_ hnew_; (first | rw [← Ny418.out] at ho61 | (simp only [Int.reduceToNat] at ho61; rw [← Ny418.out] at ho61)); have n0_ := Aside0.mk (Kd.R_elder' (by (with_reducible repeat (first | apply Kd.R_alloc | apply Kd.R_drewN | apply Kd.R_drew)); exact HO_6.out) (Kd.R_base ho61) hb); have n1_ := Aside0.mk (Kd.R_lower (Kd.R_new' ho61 (Kd.R_lt (by (with_reducible repeat (first | apply Kd.R_alloc | apply Kd.R_drewN | apply Kd.R_drew)); exact HO_6.out))) (below_size (by repeat (first | (with_reducible first | exact HB.out | apply below_alloc | apply pw_below_drewN | apply below_drew1 | refine below_set ?_ GE400.out | refine below_set ?_ GE412.out) | exact HB.out)))); have n2_ := Aside0.mk (blk_below (g := gb400) (o := .cells #[.int .i64 x401000_23, .int .i64 x401001_23] 24 (0, 0)) (by (with_reducible repeat (first | refine blk_drewN ?_ _ | refine blk_drew ?_ | refine blk_alloc ?_ _)); exact BK400.out) hb); have n3_ := Aside0.mk (blk_below (g := gb412) (o := .cells #[.int .i64 t410, .int .i64 t411] 24 (0, 0)) (by (with_reducible repeat (first | refine blk_drewN ?_ _ | refine blk_drew ?_ | refine blk_alloc ?_ _)); exact BK412.out) hb); have n4_ := Aside0.mk (below_step (by repeat (first | (with_reducible first | exact HB.out | apply below_alloc | apply pw_below_drewN | apply below_drew1 | refine below_set ?_ GE400.out | refine below_set ?_ GE412.out) | exact HB.out)) hb); clear HO_6; clear BK400; clear BK412; clear HB; have HO_6 := n0_; have HO420 := n1_; have BK400 := n2_; have BK412 := n3_; have HB := n4_; clear n0_ n1_ n2_ n3_ n4_; clear hb ho61; obtain ⟨Ao62, co62, eo62⟩ := Kd.R_slice HO_6.out; subst eo62; obtain ⟨Ao63, co63, eo63⟩ := Kd.R_slice HO420.out; subst eo63) | ((with_reducible refine gate_callee (f := 15) rfl ?_); refine goesL_ (some 61) rfl rfl Tryd.func15 (by kernel_rfl) rfl #[.slice Ao62 t407.length co62, .slice Ao63 y418.length co63] rfl (by (try simp only [List.map_toArray, List.map_cons, List.map_nil]); first | done | rfl | (simp only [List.length_drop, List.length_take]; rfl)) ?_; (with_reducible refine (changeforgeref5_Ints.calls kj29 _ _ t407 _ _ y418 t421 _ ?side1 ?side2 ?side3 ?side4 A59.out).mono ?_); (case side1 => repeat (first | exact (Kd.R_reads' HO_6.out).2.2 | (with_reducible refine Kd.C_alloc ?_ _) | (with_reducible refine Kd.C_drewN ?_ _) | (with_reducible refine Kd.C_drew ?_))); (case side2 => exact (Kd.R_reads' HO_6.out).2.1); (case side3 => repeat (first | exact (Kd.R_reads' HO420.out).2.2 | (with_reducible refine Kd.C_alloc ?_ _) | (with_reducible refine Kd.C_drewN ?_ _) | (with_reducible refine Kd.C_drew ?_))); (case side4 => exact (Kd.R_reads' HO420.out).2.1); rintro e w' ⟨rfl, ⟨nd, rfl⟩⟩; refine ⟨_, rfl, ?_⟩))
                            go_ret
                            exact ⟨by first | rfl | (simp [errW_none, errW_some] <;> rfl) | (simp [*, errW_none, errW_some] <;> rfl), by repeat (first | (with_reducible first | exact HB.out | apply below_alloc | apply pw_below_drewN | apply below_drew1 | refine below_set ?_ GE400.out | refine below_set ?_ GE412.out) | exact HB.out)⟩
                        · rw [if_neg c52] at H
                          exact absurd H (by simp)
                      · rw [if_neg c51] at H
                        exact absurd H (by simp)

end Go.Proofs.YtepflpmngegdiaaDoor.H
end
