/- Texts that the law TopBuildStepsAreOrdered comes to, printed and by hand, what is not used left out. -/
import Derived.Test.YtffcaglfcnmhdaaDoorCTopBuildStepsAreOrdered8
section
namespace Go.Proofs.YtffcaglfcnmhdaaDoor.H
open Go.RowKit Go.Proofs.YtffcaglfcnmhdaaDoorW.PrintWords Go.Proofs.YtffcaglfcnmhdaaDoorW.PrintLast Go.Proofs.YtffcaglfcnmhdaaDoorW.PrintMore
attribute [local go_sem] max2_int max_two
set_option linter.unusedVariables false
set_option linter.unusedSimpArgs false

mutual
def changeforgetop_TopBuildStepsAreOrdered.j0 : Nat → List (S30) → Bool → Option (Bool)
  | 0, _, _ => none
  | k + 1, x0, x46 => if x46 = true then (some false) else ((rules_Expand.f k x0).bind fun bt236 => (if bt236.2.1 = 0 then (changeforgetop_TopBuildStepsAreOrdered.j1 k bt236.1 (decide ((bt236.1.length : Int) > 24)) bt236.2.1 bt236.2.2) else (changeforgetop_TopBuildStepsAreOrdered.j1 k bt236.1 true bt236.2.1 bt236.2.2)))
def changeforgetop_TopBuildStepsAreOrdered.j1 : Nat → List (S36) → Bool → Int → Int → Option (Bool)
  | 0, _, _, _, _ => none
  | k + 1, x7, x59, x242000, x242001 => if x59 = true then (if x242000 = 0 then (some true) else (some ((x7.length : Int) == 0))) else (changeforgetop_TopBuildStepsAreOrdered.l0 k x7 ([] : List (List Int)) ([] : List Int) 0)
def changeforgetop_TopBuildStepsAreOrdered.l0 : Nat → List (S36) → List (List Int) → List Int → Int → Option (Bool)
  | 0, _, _, _, _ => none
  | k + 1, x7, x9, x10, x11 => if x11 < (x7.length : Int) then (if 0 ≤ x11 then (if x9.length < 5864062014805 then (if x10.length < 17592186044416 then (changeforgetop_TopBuildStepsAreOrdered.l0 k x7 (x9 ++ [(rd_T36 x7 x11).f2]) (x10 ++ [x11]) (wrap64 (x11 + 1))) else (none)) else (none)) else (none)) else ((depgraph_Order.f k x9).bind fun bt249 => ((depgraph_Levels.f k x9).bind fun bt255 => (if bt249.2.1 = 0 then (if bt255.2.1 = 0 then ((changeforgeref5_Ints.f k bt249.1 x10).bind fun t261 => (if t261 = true then (changeforgetop_TopBuildStepsAreOrdered.j3 k x7 bt255.1 ((bt255.1.length : Int) != (x7.length : Int))) else (changeforgetop_TopBuildStepsAreOrdered.j3 k x7 bt255.1 true))) else (changeforgetop_TopBuildStepsAreOrdered.j3 k x7 bt255.1 true)) else (changeforgetop_TopBuildStepsAreOrdered.j3 k x7 bt255.1 true))))
def changeforgetop_TopBuildStepsAreOrdered.j3 : Nat → List (S36) → List Int → Bool → Option (Bool)
  | 0, _, _, _ => none
  | k + 1, x7, x14, x116 => if x116 = true then (some false) else (changeforgetop_TopBuildStepsAreOrdered.l1 k x7 x14 0)
def changeforgetop_TopBuildStepsAreOrdered.l1 : Nat → List (S36) → List Int → Int → Option (Bool)
  | 0, _, _, _ => none
  | k + 1, x7, x14, x16 => if x16 < (x7.length : Int) then (if 0 ≤ x16 then (if ((rd_T36 x7 x16).f1) = 1 then (if x16 < (x14.length : Int) then (if (rd x14 x16) = 0 then (changeforgetop_TopBuildStepsAreOrdered.l1 k x7 x14 (wrap64 (x16 + 1))) else (some false)) else (none)) else (if x16 < (x14.length : Int) then (if (rd x14 x16) < 1 then (some false) else (changeforgetop_TopBuildStepsAreOrdered.l1 k x7 x14 (wrap64 (x16 + 1)))) else (none))) else (none)) else (some true)
end
def changeforgetop_TopBuildStepsAreOrdered.f (k : Nat) (l0 : List (S30)) : Option (Bool) := (rules_Expand.f k (([(⟨1, ([] : List Int)⟩ : S30)] : List (S30)))).bind fun bt217 => ((depgraph_Order.f k (([[]] : List (List Int)))).bind fun bt226 => (if bt217.2.1 = 0 then (if bt226.2.1 = 0 then (if (bt217.1.length : Int) = 1 then ((changeforgeref5_Ints.f k bt226.1 (([0] : List Int))).bind fun t235 => (changeforgetop_TopBuildStepsAreOrdered.j0 k l0 (!t235))) else (changeforgetop_TopBuildStepsAreOrdered.j0 k l0 true)) else (changeforgetop_TopBuildStepsAreOrdered.j0 k l0 true)) else (changeforgetop_TopBuildStepsAreOrdered.j0 k l0 true)))
theorem changeforgetop_TopBuildStepsAreOrdered.mono_l : ∀ k, (∀ y0 y1, LeO (changeforgetop_TopBuildStepsAreOrdered.j0 k y0 y1) (changeforgetop_TopBuildStepsAreOrdered.j0 (k + 1) y0 y1)) ∧ (∀ y0 y1 y2 y3, LeO (changeforgetop_TopBuildStepsAreOrdered.j1 k y0 y1 y2 y3) (changeforgetop_TopBuildStepsAreOrdered.j1 (k + 1) y0 y1 y2 y3)) ∧ (∀ y0 y1 y2 y3, LeO (changeforgetop_TopBuildStepsAreOrdered.l0 k y0 y1 y2 y3) (changeforgetop_TopBuildStepsAreOrdered.l0 (k + 1) y0 y1 y2 y3)) ∧ (∀ y0 y1 y2, LeO (changeforgetop_TopBuildStepsAreOrdered.j3 k y0 y1 y2) (changeforgetop_TopBuildStepsAreOrdered.j3 (k + 1) y0 y1 y2)) ∧ (∀ y0 y1 y2, LeO (changeforgetop_TopBuildStepsAreOrdered.l1 k y0 y1 y2) (changeforgetop_TopBuildStepsAreOrdered.l1 (k + 1) y0 y1 y2))
  | 0 => ⟨fun _ _ r h => by simp [changeforgetop_TopBuildStepsAreOrdered.j0] at h, fun _ _ _ _ r h => by simp [changeforgetop_TopBuildStepsAreOrdered.j1] at h, fun _ _ _ _ r h => by simp [changeforgetop_TopBuildStepsAreOrdered.l0] at h, fun _ _ _ r h => by simp [changeforgetop_TopBuildStepsAreOrdered.j3] at h, fun _ _ _ r h => by simp [changeforgetop_TopBuildStepsAreOrdered.l1] at h⟩
  | k + 1 => by
    obtain ⟨ih0, ih1, ih2, ih3, ih4⟩ := changeforgetop_TopBuildStepsAreOrdered.mono_l k
    refine ⟨?_, ?_, ?_, ?_, ?_⟩
    · intro y0 y1
      unfold changeforgetop_TopBuildStepsAreOrdered.j0
      repeat' first
      | (with_reducible exact ih0 _ _)
      | (with_reducible exact ih1 _ _ _ _)
      | (with_reducible exact ih2 _ _ _ _)
      | (with_reducible exact ih3 _ _ _)
      | (with_reducible exact ih4 _ _ _)
      | (with_reducible exact changeforgeref5_Ints.mono _ _ _)
      | (with_reducible exact depgraph_Levels.mono _ _)
      | (with_reducible exact depgraph_Order.mono _ _)
      | (with_reducible exact rules_Expand.mono _ _)
      | (with_reducible exact LeO.refl _)
      | (with_reducible exact LeO.none _)
      | (with_reducible refine LeO.ite ?_ ?_)
      | (with_reducible refine LeO.bind ?_ (fun _ => ?_))
      | exact ih0 _ _
      | exact ih1 _ _ _ _
      | exact ih2 _ _ _ _
      | exact ih3 _ _ _
      | exact ih4 _ _ _
      | exact changeforgeref5_Ints.mono _ _ _
      | exact depgraph_Levels.mono _ _
      | exact depgraph_Order.mono _ _
      | exact rules_Expand.mono _ _
      | exact LeO.none _
      | refine LeO.ite ?_ ?_
      | refine LeO.bind ?_ (fun _ => ?_)
    · intro y0 y1 y2 y3
      unfold changeforgetop_TopBuildStepsAreOrdered.j1
      repeat' first
      | (with_reducible exact ih0 _ _)
      | (with_reducible exact ih1 _ _ _ _)
      | (with_reducible exact ih2 _ _ _ _)
      | (with_reducible exact ih3 _ _ _)
      | (with_reducible exact ih4 _ _ _)
      | (with_reducible exact changeforgeref5_Ints.mono _ _ _)
      | (with_reducible exact depgraph_Levels.mono _ _)
      | (with_reducible exact depgraph_Order.mono _ _)
      | (with_reducible exact rules_Expand.mono _ _)
      | (with_reducible exact LeO.refl _)
      | (with_reducible exact LeO.none _)
      | (with_reducible refine LeO.ite ?_ ?_)
      | (with_reducible refine LeO.bind ?_ (fun _ => ?_))
      | exact ih0 _ _
      | exact ih1 _ _ _ _
      | exact ih2 _ _ _ _
      | exact ih3 _ _ _
      | exact ih4 _ _ _
      | exact changeforgeref5_Ints.mono _ _ _
      | exact depgraph_Levels.mono _ _
      | exact depgraph_Order.mono _ _
      | exact rules_Expand.mono _ _
      | exact LeO.none _
      | refine LeO.ite ?_ ?_
      | refine LeO.bind ?_ (fun _ => ?_)
    · intro y0 y1 y2 y3
      unfold changeforgetop_TopBuildStepsAreOrdered.l0
      repeat' first
      | (with_reducible exact ih0 _ _)
      | (with_reducible exact ih1 _ _ _ _)
      | (with_reducible exact ih2 _ _ _ _)
      | (with_reducible exact ih3 _ _ _)
      | (with_reducible exact ih4 _ _ _)
      | (with_reducible exact changeforgeref5_Ints.mono _ _ _)
      | (with_reducible exact depgraph_Levels.mono _ _)
      | (with_reducible exact depgraph_Order.mono _ _)
      | (with_reducible exact rules_Expand.mono _ _)
      | (with_reducible exact LeO.refl _)
      | (with_reducible exact LeO.none _)
      | (with_reducible refine LeO.ite ?_ ?_)
      | (with_reducible refine LeO.bind ?_ (fun _ => ?_))
      | exact ih0 _ _
      | exact ih1 _ _ _ _
      | exact ih2 _ _ _ _
      | exact ih3 _ _ _
      | exact ih4 _ _ _
      | exact changeforgeref5_Ints.mono _ _ _
      | exact depgraph_Levels.mono _ _
      | exact depgraph_Order.mono _ _
      | exact rules_Expand.mono _ _
      | exact LeO.none _
      | refine LeO.ite ?_ ?_
      | refine LeO.bind ?_ (fun _ => ?_)
    · intro y0 y1 y2
      unfold changeforgetop_TopBuildStepsAreOrdered.j3
      repeat' first
      | (with_reducible exact ih0 _ _)
      | (with_reducible exact ih1 _ _ _ _)
      | (with_reducible exact ih2 _ _ _ _)
      | (with_reducible exact ih3 _ _ _)
      | (with_reducible exact ih4 _ _ _)
      | (with_reducible exact changeforgeref5_Ints.mono _ _ _)
      | (with_reducible exact depgraph_Levels.mono _ _)
      | (with_reducible exact depgraph_Order.mono _ _)
      | (with_reducible exact rules_Expand.mono _ _)
      | (with_reducible exact LeO.refl _)
      | (with_reducible exact LeO.none _)
      | (with_reducible refine LeO.ite ?_ ?_)
      | (with_reducible refine LeO.bind ?_ (fun _ => ?_))
      | exact ih0 _ _
      | exact ih1 _ _ _ _
      | exact ih2 _ _ _ _
      | exact ih3 _ _ _
      | exact ih4 _ _ _
      | exact changeforgeref5_Ints.mono _ _ _
      | exact depgraph_Levels.mono _ _
      | exact depgraph_Order.mono _ _
      | exact rules_Expand.mono _ _
      | exact LeO.none _
      | refine LeO.ite ?_ ?_
      | refine LeO.bind ?_ (fun _ => ?_)
    · intro y0 y1 y2
      unfold changeforgetop_TopBuildStepsAreOrdered.l1
      repeat' first
      | (with_reducible exact ih0 _ _)
      | (with_reducible exact ih1 _ _ _ _)
      | (with_reducible exact ih2 _ _ _ _)
      | (with_reducible exact ih3 _ _ _)
      | (with_reducible exact ih4 _ _ _)
      | (with_reducible exact changeforgeref5_Ints.mono _ _ _)
      | (with_reducible exact depgraph_Levels.mono _ _)
      | (with_reducible exact depgraph_Order.mono _ _)
      | (with_reducible exact rules_Expand.mono _ _)
      | (with_reducible exact LeO.refl _)
      | (with_reducible exact LeO.none _)
      | (with_reducible refine LeO.ite ?_ ?_)
      | (with_reducible refine LeO.bind ?_ (fun _ => ?_))
      | exact ih0 _ _
      | exact ih1 _ _ _ _
      | exact ih2 _ _ _ _
      | exact ih3 _ _ _
      | exact ih4 _ _ _
      | exact changeforgeref5_Ints.mono _ _ _
      | exact depgraph_Levels.mono _ _
      | exact depgraph_Order.mono _ _
      | exact rules_Expand.mono _ _
      | exact LeO.none _
      | refine LeO.ite ?_ ?_
      | refine LeO.bind ?_ (fun _ => ?_)
theorem changeforgetop_TopBuildStepsAreOrdered.mono : ∀ a0 k, LeO (changeforgetop_TopBuildStepsAreOrdered.f k a0) (changeforgetop_TopBuildStepsAreOrdered.f (k + 1) a0) := by
  intro a0 k
  obtain ⟨ih0, ih1, ih2, ih3, ih4⟩ := changeforgetop_TopBuildStepsAreOrdered.mono_l k
  unfold changeforgetop_TopBuildStepsAreOrdered.f
  repeat' first
      | (with_reducible exact ih0 _ _)
      | (with_reducible exact ih1 _ _ _ _)
      | (with_reducible exact ih2 _ _ _ _)
      | (with_reducible exact ih3 _ _ _)
      | (with_reducible exact ih4 _ _ _)
      | (with_reducible exact changeforgeref5_Ints.mono _ _ _)
      | (with_reducible exact depgraph_Levels.mono _ _)
      | (with_reducible exact depgraph_Order.mono _ _)
      | (with_reducible exact rules_Expand.mono _ _)
      | (with_reducible exact LeO.refl _)
      | (with_reducible exact LeO.none _)
      | (with_reducible refine LeO.ite ?_ ?_)
      | (with_reducible refine LeO.bind ?_ (fun _ => ?_))
      | exact ih0 _ _
      | exact ih1 _ _ _ _
      | exact ih2 _ _ _ _
      | exact ih3 _ _ _
      | exact ih4 _ _ _
      | exact changeforgeref5_Ints.mono _ _ _
      | exact depgraph_Levels.mono _ _
      | exact depgraph_Order.mono _ _
      | exact rules_Expand.mono _ _
      | exact LeO.none _
      | refine LeO.ite ?_ ?_
      | refine LeO.bind ?_ (fun _ => ?_)
set_option maxHeartbeats 8000000 in
set_option maxRecDepth 100000 in
theorem changeforgetop_TopBuildStepsAreOrdered.calls (k : Nat) (A0 : Option Addr) (c0 : Nat) (l0 : List (S30)) (r : Bool) (w : World) (hr0 : Kd.C k30 w A0 l0.length l0) (hc0 : l0.length ≤ c0) (hG : Glob w) (h : changeforgetop_TopBuildStepsAreOrdered.f k l0 = some r) :
    Calls Tryd.prog 3 #[.slice A0 l0.length c0] w fun e w' => e = .returned (.bool r) ∧ Below w.heap.size w w' := by
  have hu30 := Tryd.underlying30
  have hu25 := Tryd.underlying25
  have HR0 := Aside0.mk hr0
  have HC0 := Aside0.mk hc0
  clear hr0 hc0
  have HG := Aside0.mk hG
  clear hG
  have HB := Aside0.mk (Below.refl w.heap.size w)
  have H : ((rules_Expand.f k (([(⟨1, ([] : List Int)⟩ : S30)] : List (S30)))).bind fun bt217 => ((depgraph_Order.f k (([[]] : List (List Int)))).bind fun bt226 => (if bt217.2.1 = 0 then (if bt226.2.1 = 0 then (if (bt217.1.length : Int) = 1 then ((changeforgeref5_Ints.f k bt226.1 (([0] : List Int))).bind fun t235 => (changeforgetop_TopBuildStepsAreOrdered.j0 k l0 (!t235))) else (changeforgetop_TopBuildStepsAreOrdered.j0 k l0 true)) else (changeforgetop_TopBuildStepsAreOrdered.j0 k l0 true)) else (changeforgetop_TopBuildStepsAreOrdered.j0 k l0 true)))) = some r := h
  clear h
  obtain ⟨y214, hy214⟩ : ∃ y_ : List (S30), y_ = (([(⟨1, ([] : List Int)⟩ : S30)] : List (S30))) := ⟨_, rfl⟩
  replace H : ((rules_Expand.f k y214).bind fun bt217 => ((depgraph_Order.f k (([[]] : List (List Int)))).bind fun bt226 => (if bt217.2.1 = 0 then (if bt226.2.1 = 0 then (if (bt217.1.length : Int) = 1 then ((changeforgeref5_Ints.f k bt226.1 (([0] : List Int))).bind fun t235 => (changeforgetop_TopBuildStepsAreOrdered.j0 k l0 (!t235))) else (changeforgetop_TopBuildStepsAreOrdered.j0 k l0 true)) else (changeforgetop_TopBuildStepsAreOrdered.j0 k l0 true)) else (changeforgetop_TopBuildStepsAreOrdered.j0 k l0 true)))) = some r := by first | (rw [hy214]; with_reducible exact H) | (have H2_ := (Option.bind_some _ _).symm.trans H; rw [hy214]; with_reducible exact H2_) | (have H2_ := (Option.bind_some _ _).symm.trans H; with_reducible exact H2_) | with_reducible exact H | (rw [hy214]; exact H) | exact H
  have Ny214 := Aside0.mk hy214
  clear hy214
  replace H := Option.bind_eq_some_iff.mp H
  obtain ⟨⟨t217, t220, t221⟩, A20, H⟩ := H
  replace H : ((depgraph_Order.f k (([[]] : List (List Int)))).bind fun bt226 => (if t220 = 0 then (if bt226.2.1 = 0 then (if (t217.length : Int) = 1 then ((changeforgeref5_Ints.f k bt226.1 (([0] : List Int))).bind fun t235 => (changeforgetop_TopBuildStepsAreOrdered.j0 k l0 (!t235))) else (changeforgetop_TopBuildStepsAreOrdered.j0 k l0 true)) else (changeforgetop_TopBuildStepsAreOrdered.j0 k l0 true)) else (changeforgetop_TopBuildStepsAreOrdered.j0 k l0 true))) = some r := H
  have A2 := Aside0.mk A20
  clear A20
  obtain ⟨y223, hy223⟩ : ∃ y_ : List (List Int), y_ = (([[]] : List (List Int))) := ⟨_, rfl⟩
  replace H : ((depgraph_Order.f k y223).bind fun bt226 => (if t220 = 0 then (if bt226.2.1 = 0 then (if (t217.length : Int) = 1 then ((changeforgeref5_Ints.f k bt226.1 (([0] : List Int))).bind fun t235 => (changeforgetop_TopBuildStepsAreOrdered.j0 k l0 (!t235))) else (changeforgetop_TopBuildStepsAreOrdered.j0 k l0 true)) else (changeforgetop_TopBuildStepsAreOrdered.j0 k l0 true)) else (changeforgetop_TopBuildStepsAreOrdered.j0 k l0 true))) = some r := by first | (rw [hy223]; with_reducible exact H) | (have H2_ := (Option.bind_some _ _).symm.trans H; rw [hy223]; with_reducible exact H2_) | (have H2_ := (Option.bind_some _ _).symm.trans H; with_reducible exact H2_) | with_reducible exact H | (rw [hy223]; exact H) | exact H
  have Ny223 := Aside0.mk hy223
  clear hy223
  replace H := Option.bind_eq_some_iff.mp H
  obtain ⟨⟨t226, t229, t230⟩, A30, H⟩ := H
  replace H : (if t220 = 0 then (if t229 = 0 then (if (t217.length : Int) = 1 then ((changeforgeref5_Ints.f k t226 (([0] : List Int))).bind fun t235 => (changeforgetop_TopBuildStepsAreOrdered.j0 k l0 (!t235))) else (changeforgetop_TopBuildStepsAreOrdered.j0 k l0 true)) else (changeforgetop_TopBuildStepsAreOrdered.j0 k l0 true)) else (changeforgetop_TopBuildStepsAreOrdered.j0 k l0 true)) = some r := H
  have A3 := Aside0.mk A30
  clear A30
  have HC4 := Aside0.mk H
  clear H
  go_enter Tryd.func3, Tryd.ntmps3
  go_upto_region 3 with (first | ((with_reducible refine gate_dst (N := 19) rfl ?_); (try (refine gate_guard (by rfl) ?_; dsimp only)); refine Kd.N_lit k30 _ 30 ?hg (N' := 19) ?hd (xs := ([(⟨1, ([] : List Int)⟩ : S30)] : List (S30))) (inner := [.int .i64 1, .slice none 0 0]) (ok := (fun _ => True)) (okp := (fun _ => True)) ?hr ?hp (fun _ hk => hk) ((show ∀ k_, w.heap.size ≤ k_ → (fun _ => True) k_ from fun k_ hk => trivial) _ (Nat.le_refl _)) (Below.refl _ _) (Nat.le_refl _) (by simp) ?_; (case hd => rfl); (case hg => rfl); (case hr => first | (go_simp; done) | (go_simp; rfl)); (case hp => exact (Reps.c2 (show Kd.FK k30 _ _ (⟨1, ([] : List Int)⟩ : S30) [.int .i64 1, .slice none 0 0] from (k30_mkF _ _ (⟨1, ([] : List Int)⟩ : S30) (Nat.le_refl _) (Kd.F_nil _ _ _))) (Reps.none _ _))); intro v215 w5 ho6 hb hg_ hnew_; clear hg_ hnew_; (first | rw [← Ny214.out] at ho6 | (simp only [Int.reduceToNat] at ho6; rw [← Ny214.out] at ho6)); have n0_ := Aside0.mk (Kd.N_lower ho6 (below_size (by repeat (first | (with_reducible first | exact HB.out | apply below_alloc | apply pw_below_drewN | apply below_drew1) | exact HB.out)))); have n1_ := Aside0.mk (below_step (by repeat (first | (with_reducible first | exact HB.out | apply below_alloc | apply pw_below_drewN | apply below_drew1) | exact HB.out)) hb); clear HB; have HO216 := n0_; have HB := n1_; clear n0_ n1_; clear hb ho6; obtain ⟨Ao7, co7, eo7⟩ := Kd.N_slice HO216.out; subst eo7) | ((with_reducible refine gate_callee (f := 4) rfl ?_); refine goesL_ (some 20) rfl rfl Tryd.func4 (by kernel_rfl) rfl #[.slice Ao7 y214.length co7] rfl (by (try simp only [List.map_toArray, List.map_cons, List.map_nil]); first | done | rfl | (simp only [List.length_drop, List.length_take]; rfl)) ?_; (with_reducible refine (rules_Expand.calls k _ _ y214 t217 t220 t221 _ ?side1 ?side2 ?side3 A2.out).mono ?_); (case side1 => repeat (first | exact (Kd.N_reads' HO216.out).2.2 | (with_reducible refine Kd.C_alloc ?_ _) | (with_reducible refine Kd.C_drewN ?_ _) | (with_reducible refine Kd.C_drew ?_))); (case side2 => exact (Kd.N_reads' HO216.out).2.1); (case side3 => exact Glob.below HG.out (by repeat (first | (with_reducible first | exact HB.out | apply below_alloc | apply pw_below_drewN | apply below_drew1) | exact HB.out))); rintro e w8 ⟨v218, rfl, ho0, hb⟩; refine ⟨_, rfl, ?_⟩; have n0_ := Aside0.mk (Kd.N_elder' (by (with_reducible repeat (first | apply Kd.N_alloc | apply Kd.N_drewN | apply Kd.N_drew)); exact HO216.out) (by first | exact Kd.N_base ho0 | exact Kd.S_base ho0 | exact Kd.R_base ho0) hb); have n1_ := Aside0.mk (Kd.N_lower (Kd.N_mono (ok' := fun k_ => some k_ ≠ (.slice Ao7 y214.length co7 : Value).ownBlock) (Kd.S_N (Kd.S_bound ho0)) (fun k_ hk_ => (Kd.fresh' (Kd.N_lt (by (with_reducible repeat (first | apply Kd.N_alloc | apply Kd.N_drewN | apply Kd.N_drew)); exact HO216.out)) k_ hk_.2.1))) (below_size (by repeat (first | (with_reducible first | exact HB.out | apply below_alloc | apply pw_below_drewN | apply below_drew1) | exact HB.out)))); have n2_ := Aside0.mk (below_step (by repeat (first | (with_reducible first | exact HB.out | apply below_alloc | apply pw_below_drewN | apply below_drew1) | exact HB.out)) hb); clear HO216; clear HB; have HO216 := n0_; have HO219 := n1_; have HB := n2_; clear n0_ n1_ n2_; (try clear hb); (try clear hb2); (try clear hk); (try clear hi); (try clear ho0)) | ((with_reducible refine gate_dst (N := 4) rfl ?_); (try (refine gate_guard (by rfl) ?_; dsimp only)); refine box_event ?hg (N := 4) ?hd (cs := #[.int .i64 0, .int .i64 0]) (t := 25) ?hr ?_; (case hd => rfl); (case hg => rfl); (case hr => first | (go_simp; done) | (go_simp; rfl)); intro gb222 hg w9 hbox hb; have n0_ := Aside0.mk (Kd.N_below (Kd.N_elderB (by (with_reducible repeat (first | apply Kd.N_alloc | apply Kd.N_drewN | apply Kd.N_drew)); exact HO216.out) gb222 (Nat.le_of_eq hg.symm)) hb); have n1_ := Aside0.mk (Kd.N_below (Kd.N_elderB (by (with_reducible repeat (first | apply Kd.N_alloc | apply Kd.N_drewN | apply Kd.N_drew)); exact HO219.out) gb222 (Nat.le_of_eq hg.symm)) hb); have n2_ := Aside0.mk (below_step (by repeat (first | (with_reducible first | exact HB.out | apply below_alloc | apply pw_below_drewN | apply below_drew1) | exact HB.out)) hb); have n3_ := Aside0.mk (hbox); have n4_ := Aside0.mk ((by rw [hg]; exact (below_size (by repeat (first | (with_reducible first | exact HB.out | apply below_alloc | apply pw_below_drewN | apply below_drew1) | exact HB.out))) : w.heap.size ≤ gb222)); have n5_ := Aside0.mk ((by rw [hg]; exact (below_size (by repeat (first | (with_reducible first | exact HB.out | apply below_alloc | apply pw_below_drewN | apply below_drew1) | exact HB.out))) : w.heap.size ≤ gb222)); clear HO216; clear HO219; clear HB; have HO216 := n0_; have HO219 := n1_; have HB := n2_; have BK222 := n3_; have GW222 := n4_; have GE222 := n5_; clear n0_ n1_ n2_ n3_ n4_ n5_; clear hb hbox hg; have hcz10_0 : w9.cell? ⟨gb222, 0, none⟩ = some (.int .i64 0) := (blk_cell BK222.out 0).trans rfl; have hcz10_1 : w9.cell? ⟨gb222, 1, none⟩ = some (.int .i64 0) := (blk_cell BK222.out 1).trans rfl; have hfz10_0 := blk_frozen BK222.out 0; have hfz10_1 := blk_frozen BK222.out 1) | ((with_reducible refine gate_dst (N := 24) rfl ?_); (try (refine gate_guard (by rfl) ?_; dsimp only)); refine Kd.N_lit (Kd.slice 3 (Kd.int .i64)) _ 28 ?hg (N' := 24) ?hd (xs := ([[]] : List (List Int))) (inner := [.slice none 0 0]) (ok := (fun k_ => some k_ ≠ (.slice Ao7 y214.length co7 : Value).ownBlock ∧ some k_ ≠ (v218 : Value).ownBlock ∧ k_ ≠ gb222)) (okp := (fun k_ => some k_ ≠ (.slice Ao7 y214.length co7 : Value).ownBlock ∧ some k_ ≠ (v218 : Value).ownBlock ∧ k_ ≠ gb222)) ?hr ?hp (fun _ hk => hk) ((show ∀ k_, _ ≤ k_ → (fun k_ => some k_ ≠ (.slice Ao7 y214.length co7 : Value).ownBlock ∧ some k_ ≠ (v218 : Value).ownBlock ∧ k_ ≠ gb222) k_ from fun k_ hk => ⟨Kd.fresh' (Kd.N_lt (by (with_reducible repeat (first | apply Kd.N_alloc | apply Kd.N_drewN | apply Kd.N_drew)); exact (Kd.N_mono (Kd.N_far (p := ⟨gb222, 1, none⟩) (Kd.N_far (p := ⟨gb222, 0, none⟩) (Kd.N_mono HO216.out (fun k_ hk => (⟨hk, hk.2⟩ : _ ∧ k_ ≠ gb222))) (fun _ hk => hk.2) (.int .i64 t220)) (fun _ hk => hk.2) (.int .i64 t221)) (fun _ h_ => h_.1)))) k_ hk, Kd.fresh' (Kd.N_lt (by (with_reducible repeat (first | apply Kd.N_alloc | apply Kd.N_drewN | apply Kd.N_drew)); exact (Kd.N_mono (Kd.N_far (p := ⟨gb222, 1, none⟩) (Kd.N_far (p := ⟨gb222, 0, none⟩) (Kd.N_mono HO219.out (fun k_ hk => (⟨hk, hk.2⟩ : _ ∧ k_ ≠ gb222))) (fun _ hk => hk.2) (.int .i64 t220)) (fun _ hk => hk.2) (.int .i64 t221)) (fun _ h_ => h_.1)))) k_ hk, Kd.freshB (g := gb222) (o := .cells #[.int .i64 t220, .int .i64 t221] 25 (0, 0)) (by (with_reducible repeat (first | refine blk_drewN ?_ _ | refine blk_drew ?_ | refine blk_alloc ?_ _)); refine blk_put (cs := #[.int .i64 t220, .int .i64 0]) ?_ 1 _ rfl; (with_reducible repeat (first | refine blk_drewN ?_ _ | refine blk_drew ?_ | refine blk_alloc ?_ _)); refine blk_put (cs := #[.int .i64 0, .int .i64 0]) ?_ 0 _ rfl; (with_reducible repeat (first | refine blk_drewN ?_ _ | refine blk_drew ?_ | refine blk_alloc ?_ _)); exact BK222.out) k_ hk⟩) _ (Nat.le_refl _)) (Below.refl _ _) (Nat.le_refl _) (by simp) ?_; (case hd => rfl); (case hg => rfl); (case hr => first | (go_simp; done) | (go_simp; rfl)); (case hp => exact (Reps.one (show Kd.FK (Kd.slice 3 (Kd.int .i64)) _ _ [] [.slice none 0 0] from (Kd.FK_slice_mk (Nat.le_refl _) (Kd.F_nil _ _ _))) (Reps.none _ _))); intro v224 w11 ho12 hb hg_ hnew_; clear hg_ hnew_; (first | rw [← Ny223.out] at ho12 | (simp only [Int.reduceToNat] at ho12; rw [← Ny223.out] at ho12)); have n0_ := Aside0.mk (Kd.N_elder' (by (with_reducible repeat (first | apply Kd.N_alloc | apply Kd.N_drewN | apply Kd.N_drew)); exact (Kd.N_mono (Kd.N_far (p := ⟨gb222, 1, none⟩) (Kd.N_far (p := ⟨gb222, 0, none⟩) (Kd.N_mono HO216.out (fun k_ hk => (⟨hk, hk.2⟩ : _ ∧ k_ ≠ gb222))) (fun _ hk => hk.2) (.int .i64 t220)) (fun _ hk => hk.2) (.int .i64 t221)) (fun _ h_ => h_.1))) (by first | exact Kd.N_base ho12 | exact Kd.S_base ho12 | exact Kd.R_base ho12) hb); have n1_ := Aside0.mk (Kd.N_elder' (by (with_reducible repeat (first | apply Kd.N_alloc | apply Kd.N_drewN | apply Kd.N_drew)); exact (Kd.N_mono (Kd.N_far (p := ⟨gb222, 1, none⟩) (Kd.N_far (p := ⟨gb222, 0, none⟩) (Kd.N_mono HO219.out (fun k_ hk => (⟨hk, hk.2⟩ : _ ∧ k_ ≠ gb222))) (fun _ hk => hk.2) (.int .i64 t220)) (fun _ hk => hk.2) (.int .i64 t221)) (fun _ h_ => h_.1))) (by first | exact Kd.N_base ho12 | exact Kd.S_base ho12 | exact Kd.R_base ho12) hb); have n2_ := Aside0.mk (Kd.N_lower ho12 (below_size (by repeat (first | (with_reducible first | exact HB.out | apply below_alloc | apply pw_below_drewN | apply below_drew1 | refine below_set ?_ GE222.out) | exact HB.out)))); have n3_ := Aside0.mk (blk_below (g := gb222) (o := .cells #[.int .i64 t220, .int .i64 t221] 25 (0, 0)) (by (with_reducible repeat (first | refine blk_drewN ?_ _ | refine blk_drew ?_ | refine blk_alloc ?_ _)); refine blk_put (cs := #[.int .i64 t220, .int .i64 0]) ?_ 1 _ rfl; (with_reducible repeat (first | refine blk_drewN ?_ _ | refine blk_drew ?_ | refine blk_alloc ?_ _)); refine blk_put (cs := #[.int .i64 0, .int .i64 0]) ?_ 0 _ rfl; (with_reducible repeat (first | refine blk_drewN ?_ _ | refine blk_drew ?_ | refine blk_alloc ?_ _)); exact BK222.out) hb); have n4_ := Aside0.mk (below_step (by repeat (first | (with_reducible first | exact HB.out | apply below_alloc | apply pw_below_drewN | apply below_drew1 | refine below_set ?_ GE222.out) | exact HB.out)) hb); clear HO216; clear HO219; clear BK222; clear HB; have HO216 := n0_; have HO219 := n1_; have HO225 := n2_; have BK222 := n3_; have HB := n4_; clear n0_ n1_ n2_ n3_ n4_; clear hb ho12; obtain ⟨Ao13, co13, eo13⟩ := Kd.N_slice HO225.out; subst eo13) | ((with_reducible refine gate_callee (f := 5) rfl ?_); refine goesL_ (some 25) rfl rfl Tryd.func5 (by kernel_rfl) rfl #[.slice Ao13 y223.length co13] rfl (by (try simp only [List.map_toArray, List.map_cons, List.map_nil]); first | done | rfl | (simp only [List.length_drop, List.length_take]; rfl)) ?_; (with_reducible refine (depgraph_Order.calls k _ _ y223 t226 t229 t230 _ ?side1 ?side2 A3.out).mono ?_); (case side1 => repeat (first | exact (Kd.N_reads' HO225.out).2.2 | (with_reducible refine Kd.C_alloc ?_ _) | (with_reducible refine Kd.C_drewN ?_ _) | (with_reducible refine Kd.C_drew ?_))); (case side2 => exact (Kd.N_reads' HO225.out).2.1); rintro e w14 ⟨v227, rfl, ho0, hb⟩; refine ⟨_, rfl, ?_⟩; have n0_ := Aside0.mk (Kd.N_elder' (by (with_reducible repeat (first | apply Kd.N_alloc | apply Kd.N_drewN | apply Kd.N_drew)); exact HO216.out) (Kd.R_base ho0) hb); have n1_ := Aside0.mk (Kd.N_elder' (by (with_reducible repeat (first | apply Kd.N_alloc | apply Kd.N_drewN | apply Kd.N_drew)); exact HO219.out) (Kd.R_base ho0) hb); have n2_ := Aside0.mk (Kd.N_elder' (by (with_reducible repeat (first | apply Kd.N_alloc | apply Kd.N_drewN | apply Kd.N_drew)); exact HO225.out) (Kd.R_base ho0) hb); have n3_ := Aside0.mk (Kd.R_lower ho0 (below_size (by repeat (first | (with_reducible first | exact HB.out | apply below_alloc | apply pw_below_drewN | apply below_drew1 | refine below_set ?_ GE222.out) | exact HB.out)))); have n4_ := Aside0.mk (blk_below (g := gb222) (o := .cells #[.int .i64 t220, .int .i64 t221] 25 (0, 0)) (by (with_reducible repeat (first | refine blk_drewN ?_ _ | refine blk_drew ?_ | refine blk_alloc ?_ _)); exact BK222.out) hb); have n5_ := Aside0.mk (below_step (by repeat (first | (with_reducible first | exact HB.out | apply below_alloc | apply pw_below_drewN | apply below_drew1 | refine below_set ?_ GE222.out) | exact HB.out)) hb); clear HO216; clear HO219; clear HO225; clear BK222; clear HB; have HO216 := n0_; have HO219 := n1_; have HO225 := n2_; have HO228 := n3_; have BK222 := n4_; have HB := n5_; clear n0_ n1_ n2_ n3_ n4_ n5_; (try clear hb); (try clear hb2); (try clear hk); (try clear hi); (try clear ho0)) | ((with_reducible refine gate_dst (N := 6) rfl ?_); (try (refine gate_guard (by rfl) ?_; dsimp only)); refine box_event ?hg (N := 6) ?hd (cs := #[.int .i64 0, .int .i64 0]) (t := 25) ?hr ?_; (case hd => rfl); (case hg => rfl); (case hr => first | (go_simp; done) | (go_simp; rfl)); intro gb231 hg w15 hbox hb; have n0_ := Aside0.mk (Kd.N_below (Kd.N_elderB (by (with_reducible repeat (first | apply Kd.N_alloc | apply Kd.N_drewN | apply Kd.N_drew)); exact HO216.out) gb231 (Nat.le_of_eq hg.symm)) hb); have n1_ := Aside0.mk (Kd.N_below (Kd.N_elderB (by (with_reducible repeat (first | apply Kd.N_alloc | apply Kd.N_drewN | apply Kd.N_drew)); exact HO219.out) gb231 (Nat.le_of_eq hg.symm)) hb); have n2_ := Aside0.mk (Kd.N_below (Kd.N_elderB (by (with_reducible repeat (first | apply Kd.N_alloc | apply Kd.N_drewN | apply Kd.N_drew)); exact HO225.out) gb231 (Nat.le_of_eq hg.symm)) hb); have n3_ := Aside0.mk (Kd.R_below (by (with_reducible repeat (first | apply Kd.R_alloc | apply Kd.R_drewN | apply Kd.R_drew)); exact HO228.out) hb); have n4_ := Aside0.mk (blk_below (g := gb222) (o := .cells #[.int .i64 t220, .int .i64 t221] 25 (0, 0)) (by (with_reducible repeat (first | refine blk_drewN ?_ _ | refine blk_drew ?_ | refine blk_alloc ?_ _)); exact BK222.out) hb); have n5_ := Aside0.mk (below_step (by repeat (first | (with_reducible first | exact HB.out | apply below_alloc | apply pw_below_drewN | apply below_drew1 | refine below_set ?_ GE222.out) | exact HB.out)) hb); have n6_ := Aside0.mk (hbox); have n7_ := Aside0.mk ((by rw [hg]; exact (below_size (by repeat (first | (with_reducible first | exact HB.out | apply below_alloc | apply pw_below_drewN | apply below_drew1 | refine below_set ?_ GE222.out) | exact HB.out))) : w.heap.size ≤ gb231)); have n8_ := Aside0.mk ((by rw [hg]; exact (below_size (by repeat (first | (with_reducible first | exact HB.out | apply below_alloc | apply pw_below_drewN | apply below_drew1 | refine below_set ?_ GE222.out) | exact HB.out))) : w.heap.size ≤ gb231)); have n9_ := Aside0.mk ((by rw [hg]; exact Nat.ne_of_lt (blk_lt (g := gb222) (o := .cells #[.int .i64 t220, .int .i64 t221] 25 (0, 0)) (by (with_reducible repeat (first | refine blk_drewN ?_ _ | refine blk_drew ?_ | refine blk_alloc ?_ _)); exact BK222.out)) : gb222 ≠ gb231)); have n10_ := Aside0.mk ((by rw [hg]; exact Nat.ne_of_gt (blk_lt (g := gb222) (o := .cells #[.int .i64 t220, .int .i64 t221] 25 (0, 0)) (by (with_reducible repeat (first | refine blk_drewN ?_ _ | refine blk_drew ?_ | refine blk_alloc ?_ _)); exact BK222.out)) : gb231 ≠ gb222)); clear HO216; clear HO219; clear HO225; clear HO228; clear BK222; clear HB; have HO216 := n0_; have HO219 := n1_; have HO225 := n2_; have HO228 := n3_; have BK222 := n4_; have HB := n5_; have BK231 := n6_; have GW231 := n7_; have GE231 := n8_; have NB222_231 := n9_; have NB231_222 := n10_; clear n0_ n1_ n2_ n3_ n4_ n5_ n6_ n7_ n8_ n9_ n10_; clear hb hbox hg; have hnb16 := NB231_222.out; have hnc16 := NB222_231.out; have hcz17_0 : w15.cell? ⟨gb231, 0, none⟩ = some (.int .i64 0) := (blk_cell BK231.out 0).trans rfl; have hcz17_1 : w15.cell? ⟨gb231, 1, none⟩ = some (.int .i64 0) := (blk_cell BK231.out 1).trans rfl; have hfz17_0 := blk_frozen BK231.out 0; have hfz17_1 := blk_frozen BK231.out 1))
  (try simp only [Act.put, List.setIfInBounds_toArray, List.set_cons_zero, List.set_cons_succ])
  go_cut [46] (fun v46 wc => ∃ (kq : Nat) (x46_3 : Bool), v46 = .bool x46_3 ∧ Aside0 (changeforgetop_TopBuildStepsAreOrdered.j0 kq l0 x46_3 = some r) ∧ Aside0 (kq ≤ k) ∧ Aside0 (wc.heap[gb222]? = some (.cells #[.int .i64 t220, .int .i64 t221] 25 (0, 0))) ∧ Aside0 (wc.heap[gb231]? = some (.cells #[.int .i64 t229, .int .i64 t230] 25 (0, 0))) ∧ Aside0 (Below w.heap.size w wc))
  case first =>
    have H := HC4.out
    clear HC4
    by_cases c18 : t220 = 0
    · rw [if_pos c18] at H
      have c18b0 : (t220 == 0) = true := beq_iff_eq.mpr c18
      have c18b1 : (t220 != 0) = false := bne_eq_false_iff_eq.mpr c18
      clear c18
      (first | rw [c18b0] | (simp only [i64_w, i32_w]; rw [c18b0]) | skip)
      by_cases c19 : t229 = 0
      · rw [if_pos c19] at H
        have c19b0 : (t229 == 0) = true := beq_iff_eq.mpr c19
        have c19b1 : (t229 != 0) = false := bne_eq_false_iff_eq.mpr c19
        clear c19
        by_cases c20 : (t217.length : Int) = 1
        · rw [if_pos c20] at H
          have c20b0 : ((t217.length : Int) == 1) = true := beq_iff_eq.mpr c20
          have c20b1 : ((t217.length : Int) != 1) = false := bne_eq_false_iff_eq.mpr c20
          clear c20
          obtain ⟨y232, hy232⟩ : ∃ y_ : List Int, y_ = (([0] : List Int)) := ⟨_, rfl⟩
          replace H : ((changeforgeref5_Ints.f k t226 y232).bind fun t235 => (changeforgetop_TopBuildStepsAreOrdered.j0 k l0 (!t235))) = some r := by first | (rw [hy232]; with_reducible exact H) | (have H2_ := (Option.bind_some _ _).symm.trans H; rw [hy232]; with_reducible exact H2_) | (have H2_ := (Option.bind_some _ _).symm.trans H; with_reducible exact H2_) | with_reducible exact H | (rw [hy232]; exact H) | exact H
          have Ny232 := Aside0.mk hy232
          clear hy232
          replace H := Option.bind_eq_some_iff.mp H
          obtain ⟨t235, A210, H⟩ := H
          replace H : (changeforgetop_TopBuildStepsAreOrdered.j0 k l0 (!t235)) = some r := H
          have A21 := Aside0.mk A210
          clear A210
          have H' := Aside0.mk H
          clear H
          have hnb22 := NB222_231.out
          have hnc22 := NB231_222.out
          have hcz23_0 : w15.cell? ⟨gb222, 0, none⟩ = some (.int .i64 t220) := (blk_cell BK222.out 0).trans rfl
          have hcz23_1 : w15.cell? ⟨gb222, 1, none⟩ = some (.int .i64 t221) := (blk_cell BK222.out 1).trans rfl
          have hfz23_0 := blk_frozen BK222.out 0
          have hfz23_1 := blk_frozen BK222.out 1
          have hcz24_0 : w15.cell? ⟨gb231, 0, none⟩ = some (.int .i64 0) := (blk_cell BK231.out 0).trans rfl
          have hcz24_1 : w15.cell? ⟨gb231, 1, none⟩ = some (.int .i64 0) := (blk_cell BK231.out 1).trans rfl
          have hfz24_0 := blk_frozen BK231.out 0
          have hfz24_1 := blk_frozen BK231.out 1
          obtain ⟨Ao25, co25, eo25⟩ := Kd.N_slice HO219.out
          subst eo25
          go_wp2_with (first | ((with_reducible refine gate_dst (N := 43) rfl ?_); (try (refine gate_guard (by rfl) ?_; dsimp only)); refine Kd.R_lit (Kd.int .i64) _ 3 ?hg (N := 43) ?hd (xs := ([0] : List Int)) (inner := [.int .i64 0]) (ok := fun _ => True) (okp := fun _ => True) ?hr ?hp (fun _ hk => hk) trivial (Below.refl _ _) (Nat.le_refl _) (by simp) ?_; (case hd => rfl); (case hg => rfl); (case hr => first | (go_simp; done) | (go_simp; rfl)); (case hp => exact (Reps.one (show Kd.M (Kd.int .i64) _ _ _ 0 [.int .i64 0] from rfl) (Reps.none _ _))); intro v233 w26 ho27 hb hg_ hnew_; clear hg_ hnew_; (first | rw [← Ny232.out] at ho27 | (simp only [Int.reduceToNat] at ho27; rw [← Ny232.out] at ho27)); have n0_ := Aside0.mk (Kd.N_elder' (by (with_reducible repeat (first | apply Kd.N_alloc | apply Kd.N_drewN | apply Kd.N_drew)); exact (Kd.N_mono (Kd.N_far (p := ⟨gb231, 1, none⟩) (Kd.N_far (p := ⟨gb231, 0, none⟩) (Kd.N_mono HO216.out (fun k_ hk => (⟨hk, hk.2⟩ : _ ∧ k_ ≠ gb231))) (fun _ hk => hk.2) (.int .i64 t229)) (fun _ hk => hk.2) (.int .i64 t230)) (fun _ h_ => h_.1))) (Kd.R_base ho27) hb); have n1_ := Aside0.mk (Kd.N_elder' (by (with_reducible repeat (first | apply Kd.N_alloc | apply Kd.N_drewN | apply Kd.N_drew)); exact (Kd.N_mono (Kd.N_far (p := ⟨gb231, 1, none⟩) (Kd.N_far (p := ⟨gb231, 0, none⟩) (Kd.N_mono HO219.out (fun k_ hk => (⟨hk, hk.2⟩ : _ ∧ k_ ≠ gb231))) (fun _ hk => hk.2) (.int .i64 t229)) (fun _ hk => hk.2) (.int .i64 t230)) (fun _ h_ => h_.1))) (Kd.R_base ho27) hb); have n2_ := Aside0.mk (Kd.N_elder' (by (with_reducible repeat (first | apply Kd.N_alloc | apply Kd.N_drewN | apply Kd.N_drew)); exact (Kd.N_mono (Kd.N_far (p := ⟨gb231, 1, none⟩) (Kd.N_far (p := ⟨gb231, 0, none⟩) (Kd.N_mono HO225.out (fun k_ hk => (⟨hk, hk.2⟩ : _ ∧ k_ ≠ gb231))) (fun _ hk => hk.2) (.int .i64 t229)) (fun _ hk => hk.2) (.int .i64 t230)) (fun _ h_ => h_.1))) (Kd.R_base ho27) hb); have n3_ := Aside0.mk (Kd.R_elder' (by (with_reducible repeat (first | apply Kd.R_alloc | apply Kd.R_drewN | apply Kd.R_drew)); exact (Kd.R_mono (Kd.R_far (p := ⟨gb231, 1, none⟩) (Kd.R_far (p := ⟨gb231, 0, none⟩) (Kd.R_types HO228.out BK231.out (by decide)) (fun _ hk => hk.2) (.int .i64 t229)) (fun _ hk => hk.2) (.int .i64 t230)) (fun _ h_ => h_.1))) (Kd.R_base ho27) hb); have n4_ := Aside0.mk (Kd.R_lower (Kd.R_new' ho27 (Kd.R_lt (by (with_reducible repeat (first | apply Kd.R_alloc | apply Kd.R_drewN | apply Kd.R_drew)); exact (Kd.R_mono (Kd.R_far (p := ⟨gb231, 1, none⟩) (Kd.R_far (p := ⟨gb231, 0, none⟩) (Kd.R_types HO228.out BK231.out (by decide)) (fun _ hk => hk.2) (.int .i64 t229)) (fun _ hk => hk.2) (.int .i64 t230)) (fun _ h_ => h_.1))))) (below_size (by repeat (first | (with_reducible first | exact HB.out | apply below_alloc | apply pw_below_drewN | apply below_drew1 | refine below_set ?_ GE222.out | refine below_set ?_ GE231.out) | exact HB.out)))); have n5_ := Aside0.mk (blk_below (g := gb222) (o := .cells #[.int .i64 t220, .int .i64 t221] 25 (0, 0)) (by (with_reducible repeat (first | refine blk_drewN ?_ _ | refine blk_drew ?_ | refine blk_alloc ?_ _)); refine blk_far ?_ NB222_231.out _; (with_reducible repeat (first | refine blk_drewN ?_ _ | refine blk_drew ?_ | refine blk_alloc ?_ _)); refine blk_far ?_ NB222_231.out _; (with_reducible repeat (first | refine blk_drewN ?_ _ | refine blk_drew ?_ | refine blk_alloc ?_ _)); exact BK222.out) hb); have n6_ := Aside0.mk (blk_below (g := gb231) (o := .cells #[.int .i64 t229, .int .i64 t230] 25 (0, 0)) (by (with_reducible repeat (first | refine blk_drewN ?_ _ | refine blk_drew ?_ | refine blk_alloc ?_ _)); refine blk_put (cs := #[.int .i64 t229, .int .i64 0]) ?_ 1 _ rfl; (with_reducible repeat (first | refine blk_drewN ?_ _ | refine blk_drew ?_ | refine blk_alloc ?_ _)); refine blk_put (cs := #[.int .i64 0, .int .i64 0]) ?_ 0 _ rfl; (with_reducible repeat (first | refine blk_drewN ?_ _ | refine blk_drew ?_ | refine blk_alloc ?_ _)); exact BK231.out) hb); have n7_ := Aside0.mk (below_step (by repeat (first | (with_reducible first | exact HB.out | apply below_alloc | apply pw_below_drewN | apply below_drew1 | refine below_set ?_ GE222.out | refine below_set ?_ GE231.out) | exact HB.out)) hb); clear HO216; clear HO219; clear HO225; clear HO228; clear BK222; clear BK231; clear HB; have HO216 := n0_; have HO219 := n1_; have HO225 := n2_; have HO228 := n3_; have HO234 := n4_; have BK222 := n5_; have BK231 := n6_; have HB := n7_; clear n0_ n1_ n2_ n3_ n4_ n5_ n6_ n7_; clear hb ho27; obtain ⟨Ao28, co28, eo28⟩ := Kd.R_slice HO228.out; subst eo28; obtain ⟨Ao29, co29, eo29⟩ := Kd.R_slice HO234.out; subst eo29) | (go_at_call 6; (with_reducible refine (changeforgeref5_Ints.calls k _ _ t226 _ _ y232 t235 _ ?side1 ?side2 ?side3 ?side4 A21.out).mono ?_); (case side1 => repeat (first | exact (Kd.R_reads' HO228.out).2.2 | (with_reducible refine Kd.C_alloc ?_ _) | (with_reducible refine Kd.C_drewN ?_ _) | (with_reducible refine Kd.C_drew ?_))); (case side2 => exact (Kd.R_reads' HO228.out).2.1); (case side3 => repeat (first | exact (Kd.R_reads' HO234.out).2.2 | (with_reducible refine Kd.C_alloc ?_ _) | (with_reducible refine Kd.C_drewN ?_ _) | (with_reducible refine Kd.C_drew ?_))); (case side4 => exact (Kd.R_reads' HO234.out).2.1); rintro e w' ⟨rfl, ⟨nd, rfl⟩⟩))
          go_meet
          case rel => exact ⟨_, (!t235), (by first | rfl | (simp; done) | (simp [*]; done)), H', ⟨by first | omega | exact Nat.le_refl _⟩, ⟨by (with_reducible repeat (first | refine blk_drewN ?_ _ | refine blk_drew ?_ | refine blk_alloc ?_ _)); exact BK222.out⟩, ⟨by (with_reducible repeat (first | refine blk_drewN ?_ _ | refine blk_drew ?_ | refine blk_alloc ?_ _)); exact BK231.out⟩, ⟨by repeat (first | (with_reducible first | exact HB.out | apply below_alloc | apply pw_below_drewN | apply below_drew1 | refine below_set ?_ GE222.out | refine below_set ?_ GE231.out) | exact HB.out)⟩⟩
        · rw [if_neg c20] at H
          have c20b0 : ((t217.length : Int) == 1) = false := beq_eq_false_iff_ne.mpr c20
          have c20b1 : ((t217.length : Int) != 1) = true := bne_iff_ne.mpr c20
          have H' := Aside0.mk H
          clear H
          have hnb30 := NB222_231.out
          have hnc30 := NB231_222.out
          have hcz31_0 : w15.cell? ⟨gb222, 0, none⟩ = some (.int .i64 t220) := (blk_cell BK222.out 0).trans rfl
          have hcz31_1 : w15.cell? ⟨gb222, 1, none⟩ = some (.int .i64 t221) := (blk_cell BK222.out 1).trans rfl
          have hfz31_0 := blk_frozen BK222.out 0
          have hfz31_1 := blk_frozen BK222.out 1
          have hcz32_0 : w15.cell? ⟨gb231, 0, none⟩ = some (.int .i64 0) := (blk_cell BK231.out 0).trans rfl
          have hcz32_1 : w15.cell? ⟨gb231, 1, none⟩ = some (.int .i64 0) := (blk_cell BK231.out 1).trans rfl
          have hfz32_0 := blk_frozen BK231.out 0
          have hfz32_1 := blk_frozen BK231.out 1
          obtain ⟨Ao33, co33, eo33⟩ := Kd.N_slice HO219.out
          subst eo33
          go_wp2
          go_meet
          case rel => exact ⟨_, (true), (by first | rfl | (simp; done) | (simp [*]; done)), H', ⟨by first | omega | exact Nat.le_refl _⟩, ⟨by (with_reducible repeat (first | refine blk_drewN ?_ _ | refine blk_drew ?_ | refine blk_alloc ?_ _)); refine blk_far ?_ NB222_231.out _; (with_reducible repeat (first | refine blk_drewN ?_ _ | refine blk_drew ?_ | refine blk_alloc ?_ _)); refine blk_far ?_ NB222_231.out _; (with_reducible repeat (first | refine blk_drewN ?_ _ | refine blk_drew ?_ | refine blk_alloc ?_ _)); exact BK222.out⟩, ⟨by (with_reducible repeat (first | refine blk_drewN ?_ _ | refine blk_drew ?_ | refine blk_alloc ?_ _)); refine blk_put (cs := #[.int .i64 t229, .int .i64 0]) ?_ 1 _ rfl; (with_reducible repeat (first | refine blk_drewN ?_ _ | refine blk_drew ?_ | refine blk_alloc ?_ _)); refine blk_put (cs := #[.int .i64 0, .int .i64 0]) ?_ 0 _ rfl; (with_reducible repeat (first | refine blk_drewN ?_ _ | refine blk_drew ?_ | refine blk_alloc ?_ _)); exact BK231.out⟩, ⟨by repeat (first | (with_reducible first | exact HB.out | apply below_alloc | apply pw_below_drewN | apply below_drew1 | refine below_set ?_ GE222.out | refine below_set ?_ GE231.out) | exact HB.out)⟩⟩
      · rw [if_neg c19] at H
        have c19b0 : (t229 == 0) = false := beq_eq_false_iff_ne.mpr c19
        have c19b1 : (t229 != 0) = true := bne_iff_ne.mpr c19
        have H' := Aside0.mk H
        clear H
        have hnb34 := NB222_231.out
        have hnc34 := NB231_222.out
        have hcz35_0 : w15.cell? ⟨gb222, 0, none⟩ = some (.int .i64 t220) := (blk_cell BK222.out 0).trans rfl
        have hcz35_1 : w15.cell? ⟨gb222, 1, none⟩ = some (.int .i64 t221) := (blk_cell BK222.out 1).trans rfl
        have hfz35_0 := blk_frozen BK222.out 0
        have hfz35_1 := blk_frozen BK222.out 1
        have hcz36_0 : w15.cell? ⟨gb231, 0, none⟩ = some (.int .i64 0) := (blk_cell BK231.out 0).trans rfl
        have hcz36_1 : w15.cell? ⟨gb231, 1, none⟩ = some (.int .i64 0) := (blk_cell BK231.out 1).trans rfl
        have hfz36_0 := blk_frozen BK231.out 0
        have hfz36_1 := blk_frozen BK231.out 1
        go_wp2
        go_meet
        case rel => exact ⟨_, (true), (by first | rfl | (simp; done) | (simp [*]; done)), H', ⟨by first | omega | exact Nat.le_refl _⟩, ⟨by (with_reducible repeat (first | refine blk_drewN ?_ _ | refine blk_drew ?_ | refine blk_alloc ?_ _)); refine blk_far ?_ NB222_231.out _; (with_reducible repeat (first | refine blk_drewN ?_ _ | refine blk_drew ?_ | refine blk_alloc ?_ _)); refine blk_far ?_ NB222_231.out _; (with_reducible repeat (first | refine blk_drewN ?_ _ | refine blk_drew ?_ | refine blk_alloc ?_ _)); exact BK222.out⟩, ⟨by (with_reducible repeat (first | refine blk_drewN ?_ _ | refine blk_drew ?_ | refine blk_alloc ?_ _)); refine blk_put (cs := #[.int .i64 t229, .int .i64 0]) ?_ 1 _ rfl; (with_reducible repeat (first | refine blk_drewN ?_ _ | refine blk_drew ?_ | refine blk_alloc ?_ _)); refine blk_put (cs := #[.int .i64 0, .int .i64 0]) ?_ 0 _ rfl; (with_reducible repeat (first | refine blk_drewN ?_ _ | refine blk_drew ?_ | refine blk_alloc ?_ _)); exact BK231.out⟩, ⟨by repeat (first | (with_reducible first | exact HB.out | apply below_alloc | apply pw_below_drewN | apply below_drew1 | refine below_set ?_ GE222.out | refine below_set ?_ GE231.out) | exact HB.out)⟩⟩
    · rw [if_neg c18] at H
      have c18b0 : (t220 == 0) = false := beq_eq_false_iff_ne.mpr c18
      have c18b1 : (t220 != 0) = true := bne_iff_ne.mpr c18
      (first | rw [c18b0] | (simp only [i64_w, i32_w]; rw [c18b0]) | skip)
      have H' := Aside0.mk H
      clear H
      have hnb37 := NB222_231.out
      have hnc37 := NB231_222.out
      have hcz38_0 : w15.cell? ⟨gb222, 0, none⟩ = some (.int .i64 t220) := (blk_cell BK222.out 0).trans rfl
      have hcz38_1 : w15.cell? ⟨gb222, 1, none⟩ = some (.int .i64 t221) := (blk_cell BK222.out 1).trans rfl
      have hfz38_0 := blk_frozen BK222.out 0
      have hfz38_1 := blk_frozen BK222.out 1
      go_wp2
      go_meet
      case rel => exact ⟨_, (true), (by first | rfl | (simp; done) | (simp [*]; done)), H', ⟨by first | omega | exact Nat.le_refl _⟩, ⟨by (with_reducible repeat (first | refine blk_drewN ?_ _ | refine blk_drew ?_ | refine blk_alloc ?_ _)); refine blk_far ?_ NB222_231.out _; (with_reducible repeat (first | refine blk_drewN ?_ _ | refine blk_drew ?_ | refine blk_alloc ?_ _)); refine blk_far ?_ NB222_231.out _; (with_reducible repeat (first | refine blk_drewN ?_ _ | refine blk_drew ?_ | refine blk_alloc ?_ _)); exact BK222.out⟩, ⟨by (with_reducible repeat (first | refine blk_drewN ?_ _ | refine blk_drew ?_ | refine blk_alloc ?_ _)); refine blk_put (cs := #[.int .i64 t229, .int .i64 0]) ?_ 1 _ rfl; (with_reducible repeat (first | refine blk_drewN ?_ _ | refine blk_drew ?_ | refine blk_alloc ?_ _)); refine blk_put (cs := #[.int .i64 0, .int .i64 0]) ?_ 0 _ rfl; (with_reducible repeat (first | refine blk_drewN ?_ _ | refine blk_drew ?_ | refine blk_alloc ?_ _)); exact BK231.out⟩, ⟨by repeat (first | (with_reducible first | exact HB.out | apply below_alloc | apply pw_below_drewN | apply below_drew1 | refine below_set ?_ GE222.out | refine below_set ?_ GE231.out) | exact HB.out)⟩⟩
  case rest =>
    clear HC4
    try clear c1
    try clear c2
    try clear p2
    try clear c3
    try clear c4
    try clear c5
    try clear c16
    try clear c18
    try clear c18b0
    try clear c18b1
    try clear c19
    try clear c19b0
    try clear c19b1
    try clear c20
    try clear c20b0
    try clear c20b1
    try clear c22
    try clear c30
    try clear c34
    try clear c37
    try clear hcz10_0
    try clear hcz10_1
    try clear hcz17_0
    try clear hcz17_1
    try clear hcz23_0
    try clear hcz23_1
    try clear hcz24_0
    try clear hcz24_1
    try clear hcz31_0
    try clear hcz31_1
    try clear hcz32_0
    try clear hcz32_1
    try clear hcz35_0
    try clear hcz35_1
    try clear hcz36_0
    try clear hcz36_1
    try clear hcz38_0
    try clear hcz38_1
    try clear hfz10_0
    try clear hfz10_1
    try clear hfz17_0
    try clear hfz17_1
    try clear hfz23_0
    try clear hfz23_1
    try clear hfz24_0
    try clear hfz24_1
    try clear hfz31_0
    try clear hfz31_1
    try clear hfz32_0
    try clear hfz32_1
    try clear hfz35_0
    try clear hfz35_1
    try clear hfz36_0
    try clear hfz36_1
    try clear hfz38_0
    try clear hfz38_1
    obtain ⟨kq, x46_3, rfl, HA, HJ3, BK222, BK231, HB⟩ := hcut
    cases kq with
    | zero => exact absurd HA.out (by simp [changeforgetop_TopBuildStepsAreOrdered.j0])
    | succ kj3 =>
      have H := HA.out
      clear HA
      simp only [changeforgetop_TopBuildStepsAreOrdered.j0] at H
      by_cases c39 : x46_3 = true
      · subst c39
        have H1 : (some false) = some r := by rw [if_pos rfl] at H; exact H
        clear H
        have H := H1
        clear H1
        obtain rfl := Option.some.inj H
        go_wp2
        go_ret
        exact ⟨by first | rfl | (simp [errW_none, errW_some] <;> rfl) | (simp [*, errW_none, errW_some] <;> rfl), by repeat (first | (with_reducible first | exact HB.out | apply below_alloc | apply pw_below_drewN | apply below_drew1 | refine below_set ?_ GE222.out | refine below_set ?_ GE231.out) | exact HB.out)⟩
      · replace c39 := Bool.eq_false_iff.mpr c39
        subst c39
        have H1 : ((rules_Expand.f kj3 l0).bind fun bt236 => (if bt236.2.1 = 0 then (changeforgetop_TopBuildStepsAreOrdered.j1 kj3 bt236.1 (decide ((bt236.1.length : Int) > 24)) bt236.2.1 bt236.2.2) else (changeforgetop_TopBuildStepsAreOrdered.j1 kj3 bt236.1 true bt236.2.1 bt236.2.2))) = some r := by rw [if_neg (show ¬ (false = true) by decide)] at H; exact H
        clear H
        have H := H1
        clear H1
        replace H := Option.bind_eq_some_iff.mp H
        obtain ⟨⟨t236, t239, t240⟩, A400, H⟩ := H
        replace H : (if t239 = 0 then (changeforgetop_TopBuildStepsAreOrdered.j1 kj3 t236 (decide ((t236.length : Int) > 24)) t239 t240) else (changeforgetop_TopBuildStepsAreOrdered.j1 kj3 t236 true t239 t240)) = some r := H
        have A40 := Aside0.mk A400
        clear A400
        have HC41 := Aside0.mk H
        clear H
        go_upto_region 6 with (first | ((with_reducible refine gate_callee (f := 4) rfl ?_); refine goesL_ (some 49) rfl rfl Tryd.func4 (by kernel_rfl) rfl #[.slice A0 l0.length c0] rfl (by (try simp only [List.map_toArray, List.map_cons, List.map_nil]); first | done | rfl | (simp only [List.length_drop, List.length_take]; rfl)) ?_; (with_reducible refine (rules_Expand.calls kj3 _ _ l0 t236 t239 t240 _ ?side1 ?side2 ?side3 A40.out).mono ?_); (case side1 => repeat (first | exact (Kd.C_below HR0.out HB.out) | (with_reducible refine Kd.C_alloc ?_ _) | (with_reducible refine Kd.C_drewN ?_ _) | (with_reducible refine Kd.C_drew ?_))); (case side2 => exact HC0.out); (case side3 => exact Glob.below HG.out (by repeat (first | (with_reducible first | exact HB.out | apply below_alloc | apply pw_below_drewN | apply below_drew1 | refine below_set ?_ GE222.out | refine below_set ?_ GE231.out) | exact HB.out))); rintro e w42 ⟨v237, rfl, ho0, hb⟩; refine ⟨_, rfl, ?_⟩; have n0_ := Aside0.mk (Kd.N_lower (Kd.N_mono (ok' := fun k_ => k_ ≠ gb222 ∧ k_ ≠ gb231) (Kd.S_N (Kd.S_bound ho0)) (fun k_ hk_ => ⟨(Kd.freshB (g := gb222) (o := .cells #[.int .i64 t220, .int .i64 t221] 25 (0, 0)) (by (with_reducible repeat (first | refine blk_drewN ?_ _ | refine blk_drew ?_ | refine blk_alloc ?_ _)); exact BK222.out) k_ hk_.2.1), (Kd.freshB (g := gb231) (o := .cells #[.int .i64 t229, .int .i64 t230] 25 (0, 0)) (by (with_reducible repeat (first | refine blk_drewN ?_ _ | refine blk_drew ?_ | refine blk_alloc ?_ _)); exact BK231.out) k_ hk_.2.1)⟩)) (below_size (by repeat (first | (with_reducible first | exact HB.out | apply below_alloc | apply pw_below_drewN | apply below_drew1 | refine below_set ?_ GE222.out | refine below_set ?_ GE231.out) | exact HB.out)))); have n1_ := Aside0.mk (blk_below (g := gb222) (o := .cells #[.int .i64 t220, .int .i64 t221] 25 (0, 0)) (by (with_reducible repeat (first | refine blk_drewN ?_ _ | refine blk_drew ?_ | refine blk_alloc ?_ _)); exact BK222.out) hb); have n2_ := Aside0.mk (blk_below (g := gb231) (o := .cells #[.int .i64 t229, .int .i64 t230] 25 (0, 0)) (by (with_reducible repeat (first | refine blk_drewN ?_ _ | refine blk_drew ?_ | refine blk_alloc ?_ _)); exact BK231.out) hb); have n3_ := Aside0.mk (below_step (by repeat (first | (with_reducible first | exact HB.out | apply below_alloc | apply pw_below_drewN | apply below_drew1 | refine below_set ?_ GE222.out | refine below_set ?_ GE231.out) | exact HB.out)) hb); clear BK222; clear BK231; clear HB; have HO238 := n0_; have BK222 := n1_; have BK231 := n2_; have HB := n3_; clear n0_ n1_ n2_ n3_; (try clear hb); (try clear hb2); (try clear hk); (try clear hi); (try clear ho0)) | ((with_reducible refine gate_dst (N := 8) rfl ?_); (try (refine gate_guard (by rfl) ?_; dsimp only)); refine box_event ?hg (N := 8) ?hd (cs := #[.int .i64 0, .int .i64 0]) (t := 25) ?hr ?_; (case hd => rfl); (case hg => rfl); (case hr => first | (go_simp; done) | (go_simp; rfl)); intro gb241 hg w43 hbox hb; have n0_ := Aside0.mk (Kd.N_below (Kd.N_elderB (by (with_reducible repeat (first | apply Kd.N_alloc | apply Kd.N_drewN | apply Kd.N_drew)); exact HO238.out) gb241 (Nat.le_of_eq hg.symm)) hb); have n1_ := Aside0.mk (blk_below (g := gb222) (o := .cells #[.int .i64 t220, .int .i64 t221] 25 (0, 0)) (by (with_reducible repeat (first | refine blk_drewN ?_ _ | refine blk_drew ?_ | refine blk_alloc ?_ _)); exact BK222.out) hb); have n2_ := Aside0.mk (blk_below (g := gb231) (o := .cells #[.int .i64 t229, .int .i64 t230] 25 (0, 0)) (by (with_reducible repeat (first | refine blk_drewN ?_ _ | refine blk_drew ?_ | refine blk_alloc ?_ _)); exact BK231.out) hb); have n3_ := Aside0.mk (below_step (by repeat (first | (with_reducible first | exact HB.out | apply below_alloc | apply pw_below_drewN | apply below_drew1 | refine below_set ?_ GE222.out | refine below_set ?_ GE231.out) | exact HB.out)) hb); have n4_ := Aside0.mk (hbox); have n5_ := Aside0.mk ((by rw [hg]; exact (below_size (by repeat (first | (with_reducible first | exact HB.out | apply below_alloc | apply pw_below_drewN | apply below_drew1 | refine below_set ?_ GE222.out | refine below_set ?_ GE231.out) | exact HB.out))) : w.heap.size ≤ gb241)); have n6_ := Aside0.mk ((by rw [hg]; exact (below_size (by repeat (first | (with_reducible first | exact HB.out | apply below_alloc | apply pw_below_drewN | apply below_drew1 | refine below_set ?_ GE222.out | refine below_set ?_ GE231.out) | exact HB.out))) : w.heap.size ≤ gb241)); have n7_ := Aside0.mk ((by rw [hg]; exact Nat.ne_of_lt (blk_lt (g := gb222) (o := .cells #[.int .i64 t220, .int .i64 t221] 25 (0, 0)) (by (with_reducible repeat (first | refine blk_drewN ?_ _ | refine blk_drew ?_ | refine blk_alloc ?_ _)); exact BK222.out)) : gb222 ≠ gb241)); have n8_ := Aside0.mk ((by rw [hg]; exact Nat.ne_of_gt (blk_lt (g := gb222) (o := .cells #[.int .i64 t220, .int .i64 t221] 25 (0, 0)) (by (with_reducible repeat (first | refine blk_drewN ?_ _ | refine blk_drew ?_ | refine blk_alloc ?_ _)); exact BK222.out)) : gb241 ≠ gb222)); have n9_ := Aside0.mk ((by rw [hg]; exact Nat.ne_of_lt (blk_lt (g := gb231) (o := .cells #[.int .i64 t229, .int .i64 t230] 25 (0, 0)) (by (with_reducible repeat (first | refine blk_drewN ?_ _ | refine blk_drew ?_ | refine blk_alloc ?_ _)); exact BK231.out)) : gb231 ≠ gb241)); have n10_ := Aside0.mk ((by rw [hg]; exact Nat.ne_of_gt (blk_lt (g := gb231) (o := .cells #[.int .i64 t229, .int .i64 t230] 25 (0, 0)) (by (with_reducible repeat (first | refine blk_drewN ?_ _ | refine blk_drew ?_ | refine blk_alloc ?_ _)); exact BK231.out)) : gb241 ≠ gb231)); clear HO238; clear BK222; clear BK231; clear HB; have HO238 := n0_; have BK222 := n1_; have BK231 := n2_; have HB := n3_; have BK241 := n4_; have GW241 := n5_; have GE241 := n6_; have NB222_241 := n7_; have NB241_222 := n8_; have NB231_241 := n9_; have NB241_231 := n10_; clear n0_ n1_ n2_ n3_ n4_ n5_ n6_ n7_ n8_ n9_ n10_; clear hb hbox hg; have hnb44 := NB241_222.out; have hnc44 := NB222_241.out; have hnb45 := NB241_231.out; have hnc45 := NB231_241.out; have hcz46_0 : w43.cell? ⟨gb241, 0, none⟩ = some (.int .i64 0) := (blk_cell BK241.out 0).trans rfl; have hcz46_1 : w43.cell? ⟨gb241, 1, none⟩ = some (.int .i64 0) := (blk_cell BK241.out 1).trans rfl; have hfz46_0 := blk_frozen BK241.out 0; have hfz46_1 := blk_frozen BK241.out 1))
        (try simp only [Act.put, List.setIfInBounds_toArray, List.set_cons_zero, List.set_cons_succ])
        go_cut [59] (fun v59 wc => ∃ (kq : Nat) (x59_40 : Bool), v59 = .bool x59_40 ∧ Aside0 (changeforgetop_TopBuildStepsAreOrdered.j1 kq t236 x59_40 t239 t240 = some r) ∧ Aside0 (kq ≤ kj3) ∧ Aside0 (Kd.N k36 36 wc w.heap.size (fun k_ => k_ ≠ gb222 ∧ k_ ≠ gb231 ∧ k_ ≠ gb241) v237 t236) ∧ Aside0 (wc.heap[gb222]? = some (.cells #[.int .i64 t220, .int .i64 t221] 25 (0, 0))) ∧ Aside0 (wc.heap[gb231]? = some (.cells #[.int .i64 t229, .int .i64 t230] 25 (0, 0))) ∧ Aside0 (wc.heap[gb241]? = some (.cells #[.int .i64 t239, .int .i64 t240] 25 (0, 0))) ∧ Aside0 (Below w.heap.size w wc))
        case first =>
          have H := HC41.out
          clear HC41
          by_cases c47 : t239 = 0
          · rw [if_pos c47] at H
            have c47b0 : (t239 == 0) = true := beq_iff_eq.mpr c47
            have c47b1 : (t239 != 0) = false := bne_eq_false_iff_eq.mpr c47
            clear c47
            (first | rw [c47b0] | (simp only [i64_w, i32_w]; rw [c47b0]) | skip)
            have H' := Aside0.mk H
            clear H
            have hnb48 := NB241_222.out
            have hnc48 := NB222_241.out
            have hnb49 := NB241_231.out
            have hnc49 := NB231_241.out
            have hcz50_0 : w43.cell? ⟨gb241, 0, none⟩ = some (.int .i64 0) := (blk_cell BK241.out 0).trans rfl
            have hcz50_1 : w43.cell? ⟨gb241, 1, none⟩ = some (.int .i64 0) := (blk_cell BK241.out 1).trans rfl
            have hfz50_0 := blk_frozen BK241.out 0
            have hfz50_1 := blk_frozen BK241.out 1
            obtain ⟨Ao51, co51, eo51⟩ := Kd.N_slice HO238.out
            subst eo51
            go_wp2
            go_meet
            case rel => exact ⟨_, (decide ((t236.length : Int) > 24)), (by first | rfl | (simp; done) | (simp [*]; done)), H', ⟨by have := HJ3.out; first | omega | exact Nat.le_refl _⟩, ⟨by (with_reducible repeat (first | apply Kd.N_alloc | apply Kd.N_drewN | apply Kd.N_drew)); exact Kd.N_mono (Kd.N_far (p := ⟨gb241, 1, none⟩) (Kd.N_far (p := ⟨gb241, 0, none⟩) (Kd.N_mono HO238.out (fun k_ hk => (⟨hk, hk.2⟩ : _ ∧ k_ ≠ gb241))) (fun _ hk => hk.2) (.int .i64 t239)) (fun _ hk => hk.2) (.int .i64 t240)) (fun _ hk => ⟨hk.1.1.1, ⟨hk.1.1.2, hk.1.2⟩⟩)⟩, ⟨by (with_reducible repeat (first | refine blk_drewN ?_ _ | refine blk_drew ?_ | refine blk_alloc ?_ _)); refine blk_far ?_ NB222_241.out _; (with_reducible repeat (first | refine blk_drewN ?_ _ | refine blk_drew ?_ | refine blk_alloc ?_ _)); refine blk_far ?_ NB222_241.out _; (with_reducible repeat (first | refine blk_drewN ?_ _ | refine blk_drew ?_ | refine blk_alloc ?_ _)); exact BK222.out⟩, ⟨by (with_reducible repeat (first | refine blk_drewN ?_ _ | refine blk_drew ?_ | refine blk_alloc ?_ _)); refine blk_far ?_ NB231_241.out _; (with_reducible repeat (first | refine blk_drewN ?_ _ | refine blk_drew ?_ | refine blk_alloc ?_ _)); refine blk_far ?_ NB231_241.out _; (with_reducible repeat (first | refine blk_drewN ?_ _ | refine blk_drew ?_ | refine blk_alloc ?_ _)); exact BK231.out⟩, ⟨by (with_reducible repeat (first | refine blk_drewN ?_ _ | refine blk_drew ?_ | refine blk_alloc ?_ _)); refine blk_put (cs := #[.int .i64 t239, .int .i64 0]) ?_ 1 _ rfl; (with_reducible repeat (first | refine blk_drewN ?_ _ | refine blk_drew ?_ | refine blk_alloc ?_ _)); refine blk_put (cs := #[.int .i64 0, .int .i64 0]) ?_ 0 _ rfl; (with_reducible repeat (first | refine blk_drewN ?_ _ | refine blk_drew ?_ | refine blk_alloc ?_ _)); exact BK241.out⟩, ⟨by repeat (first | (with_reducible first | exact HB.out | apply below_alloc | apply pw_below_drewN | apply below_drew1 | refine below_set ?_ GE222.out | refine below_set ?_ GE231.out | refine below_set ?_ GE241.out) | exact HB.out)⟩⟩
          · rw [if_neg c47] at H
            have c47b0 : (t239 == 0) = false := beq_eq_false_iff_ne.mpr c47
            have c47b1 : (t239 != 0) = true := bne_iff_ne.mpr c47
            (first | rw [c47b0] | (simp only [i64_w, i32_w]; rw [c47b0]) | skip)
            have H' := Aside0.mk H
            clear H
            have hnb52 := NB241_222.out
            have hnc52 := NB222_241.out
            have hnb53 := NB241_231.out
            have hnc53 := NB231_241.out
            have hcz54_0 : w43.cell? ⟨gb241, 0, none⟩ = some (.int .i64 0) := (blk_cell BK241.out 0).trans rfl
            have hcz54_1 : w43.cell? ⟨gb241, 1, none⟩ = some (.int .i64 0) := (blk_cell BK241.out 1).trans rfl
            have hfz54_0 := blk_frozen BK241.out 0
            have hfz54_1 := blk_frozen BK241.out 1
            go_wp2
            go_meet
            case rel => exact ⟨_, (true), (by first | rfl | (simp; done) | (simp [*]; done)), H', ⟨by have := HJ3.out; first | omega | exact Nat.le_refl _⟩, ⟨by (with_reducible repeat (first | apply Kd.N_alloc | apply Kd.N_drewN | apply Kd.N_drew)); exact Kd.N_mono (Kd.N_far (p := ⟨gb241, 1, none⟩) (Kd.N_far (p := ⟨gb241, 0, none⟩) (Kd.N_mono HO238.out (fun k_ hk => (⟨hk, hk.2⟩ : _ ∧ k_ ≠ gb241))) (fun _ hk => hk.2) (.int .i64 t239)) (fun _ hk => hk.2) (.int .i64 t240)) (fun _ hk => ⟨hk.1.1.1, ⟨hk.1.1.2, hk.1.2⟩⟩)⟩, ⟨by (with_reducible repeat (first | refine blk_drewN ?_ _ | refine blk_drew ?_ | refine blk_alloc ?_ _)); refine blk_far ?_ NB222_241.out _; (with_reducible repeat (first | refine blk_drewN ?_ _ | refine blk_drew ?_ | refine blk_alloc ?_ _)); refine blk_far ?_ NB222_241.out _; (with_reducible repeat (first | refine blk_drewN ?_ _ | refine blk_drew ?_ | refine blk_alloc ?_ _)); exact BK222.out⟩, ⟨by (with_reducible repeat (first | refine blk_drewN ?_ _ | refine blk_drew ?_ | refine blk_alloc ?_ _)); refine blk_far ?_ NB231_241.out _; (with_reducible repeat (first | refine blk_drewN ?_ _ | refine blk_drew ?_ | refine blk_alloc ?_ _)); refine blk_far ?_ NB231_241.out _; (with_reducible repeat (first | refine blk_drewN ?_ _ | refine blk_drew ?_ | refine blk_alloc ?_ _)); exact BK231.out⟩, ⟨by (with_reducible repeat (first | refine blk_drewN ?_ _ | refine blk_drew ?_ | refine blk_alloc ?_ _)); refine blk_put (cs := #[.int .i64 t239, .int .i64 0]) ?_ 1 _ rfl; (with_reducible repeat (first | refine blk_drewN ?_ _ | refine blk_drew ?_ | refine blk_alloc ?_ _)); refine blk_put (cs := #[.int .i64 0, .int .i64 0]) ?_ 0 _ rfl; (with_reducible repeat (first | refine blk_drewN ?_ _ | refine blk_drew ?_ | refine blk_alloc ?_ _)); exact BK241.out⟩, ⟨by repeat (first | (with_reducible first | exact HB.out | apply below_alloc | apply pw_below_drewN | apply below_drew1 | refine below_set ?_ GE222.out | refine below_set ?_ GE231.out | refine below_set ?_ GE241.out) | exact HB.out)⟩⟩
        case rest =>
          clear HC41
          try clear c1
          try clear c2
          try clear p2
          try clear c3
          try clear c4
          try clear c5
          try clear c16
          try clear c18
          try clear c18b0
          try clear c18b1
          try clear c19
          try clear c19b0
          try clear c19b1
          try clear c20
          try clear c20b0
          try clear c20b1
          try clear c22
          try clear c30
          try clear c34
          try clear c37
          try clear c39
          try clear c44
          try clear c45
          try clear c47
          try clear c47b0
          try clear c47b1
          try clear c48
          try clear c49
          try clear c52
          try clear c53
          try clear hcz10_0
          try clear hcz10_1
          try clear hcz17_0
          try clear hcz17_1
          try clear hcz23_0
          try clear hcz23_1
          try clear hcz24_0
          try clear hcz24_1
          try clear hcz31_0
          try clear hcz31_1
          try clear hcz32_0
          try clear hcz32_1
          try clear hcz35_0
          try clear hcz35_1
          try clear hcz36_0
          try clear hcz36_1
          try clear hcz38_0
          try clear hcz38_1
          try clear hcz46_0
          try clear hcz46_1
          try clear hcz50_0
          try clear hcz50_1
          try clear hcz54_0
          try clear hcz54_1
          try clear hfz10_0
          try clear hfz10_1
          try clear hfz17_0
          try clear hfz17_1
          try clear hfz23_0
          try clear hfz23_1
          try clear hfz24_0
          try clear hfz24_1
          try clear hfz31_0
          try clear hfz31_1
          try clear hfz32_0
          try clear hfz32_1
          try clear hfz35_0
          try clear hfz35_1
          try clear hfz36_0
          try clear hfz36_1
          try clear hfz38_0
          try clear hfz38_1
          try clear hfz46_0
          try clear hfz46_1
          try clear hfz50_0
          try clear hfz50_1
          try clear hfz54_0
          try clear hfz54_1
          try clear p2
          obtain ⟨kq, x59_40, rfl, HA, HJ40, HO_7, BK222, BK231, BK241, HB⟩ := hcut
          cases kq with
          | zero => exact absurd HA.out (by simp [changeforgetop_TopBuildStepsAreOrdered.j1])
          | succ kj40 =>
            have H := HA.out
            clear HA
            simp only [changeforgetop_TopBuildStepsAreOrdered.j1] at H
            by_cases c55 : x59_40 = true
            · subst c55
              have H1 : (if t239 = 0 then (some true) else (some ((t236.length : Int) == 0))) = some r := by rw [if_pos rfl] at H; exact H
              clear H
              have H := H1
              clear H1
              by_cases c56 : t239 = 0
              · rw [if_pos c56] at H
                have c56b0 : (t239 == 0) = true := beq_iff_eq.mpr c56
                have c56b1 : (t239 != 0) = false := bne_eq_false_iff_eq.mpr c56
                clear c56
                obtain rfl := Option.some.inj H
                have hnb57 := NB241_222.out
                have hnc57 := NB222_241.out
                have hnb58 := NB241_231.out
                have hnc58 := NB231_241.out
                have hcz59_0 : wc.cell? ⟨gb241, 0, none⟩ = some (.int .i64 t239) := (blk_cell BK241.out 0).trans rfl
                have hcz59_1 : wc.cell? ⟨gb241, 1, none⟩ = some (.int .i64 t240) := (blk_cell BK241.out 1).trans rfl
                have hfz59_0 := blk_frozen BK241.out 0
                have hfz59_1 := blk_frozen BK241.out 1
                go_wp2
                go_ret
                exact ⟨by first | rfl | (simp [errW_none, errW_some] <;> rfl) | (simp [*, errW_none, errW_some] <;> rfl), by repeat (first | (with_reducible first | exact HB.out | apply below_alloc | apply pw_below_drewN | apply below_drew1 | refine below_set ?_ GE222.out | refine below_set ?_ GE231.out | refine below_set ?_ GE241.out) | exact HB.out)⟩
              · rw [if_neg c56] at H
                have c56b0 : (t239 == 0) = false := beq_eq_false_iff_ne.mpr c56
                have c56b1 : (t239 != 0) = true := bne_iff_ne.mpr c56
                obtain rfl := Option.some.inj H
                have hnb60 := NB241_222.out
                have hnc60 := NB222_241.out
                have hnb61 := NB241_231.out
                have hnc61 := NB231_241.out
                have hcz62_0 : wc.cell? ⟨gb241, 0, none⟩ = some (.int .i64 t239) := (blk_cell BK241.out 0).trans rfl
                have hcz62_1 : wc.cell? ⟨gb241, 1, none⟩ = some (.int .i64 t240) := (blk_cell BK241.out 1).trans rfl
                have hfz62_0 := blk_frozen BK241.out 0
                have hfz62_1 := blk_frozen BK241.out 1
                obtain ⟨Ao63, co63, eo63⟩ := Kd.N_slice HO_7.out
                subst eo63
                go_wp2
                go_ret
                exact ⟨by first | rfl | (simp [errW_none, errW_some] <;> rfl) | (simp [*, errW_none, errW_some] <;> rfl), by repeat (first | (with_reducible first | exact HB.out | apply below_alloc | apply pw_below_drewN | apply below_drew1 | refine below_set ?_ GE222.out | refine below_set ?_ GE231.out | refine below_set ?_ GE241.out) | exact HB.out)⟩
            · replace c55 := Bool.eq_false_iff.mpr c55
              subst c55
              have H1 : (changeforgetop_TopBuildStepsAreOrdered.l0 kj40 t236 ([] : List (List Int)) ([] : List Int) 0) = some r := by rw [if_neg (show ¬ (false = true) by decide)] at H; exact H
              clear H
              have H := H1
              clear H1
              have H' := Aside0.mk H
              clear H
              go_wp2
              go_loopg [9, 10, 11] kj40 (fun kq v9 v10 v11 w' => ∃ (x9_3 : List (List Int)) (x10_3 : List Int) (x11_3 : Int), v11 = .int .i64 x11_3 ∧ Aside0 (changeforgetop_TopBuildStepsAreOrdered.l0 kq t236 x9_3 x10_3 x11_3 = some r) ∧ Aside0 (kq ≤ kj40) ∧ Aside0 (Kd.N k36 36 w' w.heap.size (fun k_ => some k_ ≠ (v9 : Value).ownBlock ∧ some k_ ≠ (v10 : Value).ownBlock ∧ k_ ≠ gb222 ∧ k_ ≠ gb231 ∧ k_ ≠ gb241) v237 t236) ∧ Aside0 (Kd.N (Kd.slice 3 (Kd.int .i64)) 28 w' w.heap.size (fun k_ => some k_ ≠ (v237 : Value).ownBlock ∧ some k_ ≠ (v10 : Value).ownBlock ∧ k_ ≠ gb222 ∧ k_ ≠ gb231 ∧ k_ ≠ gb241) v9 x9_3) ∧ Aside0 (Kd.R (Kd.int .i64) 3 w' w.heap.size (fun _ => True) v10 x10_3) ∧ Aside0 (w'.heap[gb222]? = some (.cells #[.int .i64 t220, .int .i64 t221] 25 (0, 0))) ∧ Aside0 (w'.heap[gb231]? = some (.cells #[.int .i64 t229, .int .i64 t230] 25 (0, 0))) ∧ Aside0 (w'.heap[gb241]? = some (.cells #[.int .i64 t239, .int .i64 t240] 25 (0, 0))) ∧ Aside0 (Below w.heap.size w w'))
              case atStart => exact ⟨(([] : List (List Int))), (([] : List Int)), (0), (by first | rfl | (simp; done) | (simp [*]; done)), H', ⟨Nat.le_refl _⟩, ⟨by (with_reducible repeat (first | apply Kd.N_alloc | apply Kd.N_drewN | apply Kd.N_drew)); exact Kd.N_mono HO_7.out (fun _ hk => ⟨(by simp [Value.ownBlock]), ⟨(by simp [Value.ownBlock]), ⟨hk.1, ⟨hk.2.1, hk.2.2⟩⟩⟩⟩)⟩, ⟨by first | exact Kd.S_nil _ _ _ _ _ | exact Kd.N_nil _ _ _ _ _ | exact Kd.V_nil _ _ _ _ _ | exact Kd.Q_nil _ _ _ _ _ | exact Kd.R_nil _ _ _ _ _⟩, ⟨by first | exact Kd.R_nil _ _ _ _ _ | exact Kd.N_nil _ _ _ _ _ | exact Kd.V_nil _ _ _ _ _ | exact Kd.Q_nil _ _ _ _ _ | exact Kd.S_nil _ _ _ _ _⟩, ⟨by (with_reducible repeat (first | refine blk_drewN ?_ _ | refine blk_drew ?_ | refine blk_alloc ?_ _)); exact BK222.out⟩, ⟨by (with_reducible repeat (first | refine blk_drewN ?_ _ | refine blk_drew ?_ | refine blk_alloc ?_ _)); exact BK231.out⟩, ⟨by (with_reducible repeat (first | refine blk_drewN ?_ _ | refine blk_drew ?_ | refine blk_alloc ?_ _)); exact BK241.out⟩, ⟨by repeat (first | (with_reducible first | exact HB.out | apply below_alloc | apply pw_below_drewN | apply below_drew1 | refine below_set ?_ GE222.out | refine below_set ?_ GE231.out | refine below_set ?_ GE241.out) | exact HB.out)⟩⟩
              case round =>
                clear H'
                try clear c1
                try clear c2
                try clear p2
                try clear c3
                try clear c4
                try clear c5
                try clear c6
                try clear c16
                try clear c18
                try clear c18b0
                try clear c18b1
                try clear c19
                try clear c19b0
                try clear c19b1
                try clear c20
                try clear c20b0
                try clear c20b1
                try clear c22
                try clear c30
                try clear c34
                try clear c37
                try clear c39
                try clear c44
                try clear c45
                try clear c47
                try clear c47b0
                try clear c47b1
                try clear c48
                try clear c49
                try clear c52
                try clear c53
                try clear c55
                try clear c56
                try clear c56b0
                try clear c56b1
                try clear c57
                try clear c58
                try clear c60
                try clear c61
                try clear hcz10_0
                try clear hcz10_1
                try clear hcz17_0
                try clear hcz17_1
                try clear hcz23_0
                try clear hcz23_1
                try clear hcz24_0
                try clear hcz24_1
                try clear hcz31_0
                try clear hcz31_1
                try clear hcz32_0
                try clear hcz32_1
                try clear hcz35_0
                try clear hcz35_1
                try clear hcz36_0
                try clear hcz36_1
                try clear hcz38_0
                try clear hcz38_1
                try clear hcz46_0
                try clear hcz46_1
                try clear hcz50_0
                try clear hcz50_1
                try clear hcz54_0
                try clear hcz54_1
                try clear hcz59_0
                try clear hcz59_1
                try clear hcz62_0
                try clear hcz62_1
                try clear hfz10_0
                try clear hfz10_1
                try clear hfz17_0
                try clear hfz17_1
                try clear hfz23_0
                try clear hfz23_1
                try clear hfz24_0
                try clear hfz24_1
                try clear hfz31_0
                try clear hfz31_1
                try clear hfz32_0
                try clear hfz32_1
                try clear hfz35_0
                try clear hfz35_1
                try clear hfz36_0
                try clear hfz36_1
                try clear hfz38_0
                try clear hfz38_1
                try clear hfz46_0
                try clear hfz46_1
                try clear hfz50_0
                try clear hfz50_1
                try clear hfz54_0
                try clear hfz54_1
                try clear hfz59_0
                try clear hfz59_1
                try clear hfz62_0
                try clear hfz62_1
                try clear p2
                obtain ⟨x9_3, x10_3, x11_3, rfl, HA, HK3, HO_7, HO_9, HO_10, BK222, BK231, BK241, HB⟩ := hrel
                cases gk with
                | zero => exact absurd HA.out (by simp [changeforgetop_TopBuildStepsAreOrdered.l0])
                | succ k3 =>
                  have H := HA.out
                  clear HA
                  simp only [changeforgetop_TopBuildStepsAreOrdered.l0] at H
                  by_cases c64 : x11_3 < (t236.length : Int)
                  · rw [if_pos c64] at H
                    have c64b0 : decide (x11_3 < (t236.length : Int)) = true := decide_eq_true c64
                    clear c64
                    by_cases c65 : 0 ≤ x11_3
                    · rw [if_pos c65] at H
                      have c65b0 : decide (0 ≤ x11_3) = true := decide_eq_true c65
                      clear c65
                      by_cases c66 : x9_3.length < 5864062014805
                      · rw [if_pos c66] at H
                        have LMc66 := Aside0.mk c66
                        clear c66
                        obtain ⟨y243, hy243⟩ : ∃ y_ : List (List Int), y_ = (x9_3 ++ [(rd_T36 t236 x11_3).f2]) := ⟨_, rfl⟩
                        replace H : (if x10_3.length < 17592186044416 then (changeforgetop_TopBuildStepsAreOrdered.l0 k3 t236 y243 (x10_3 ++ [x11_3]) (wrap64 (x11_3 + 1))) else (none)) = some r := by first | (rw [hy243]; with_reducible exact H) | (have H2_ := (Option.bind_some _ _).symm.trans H; rw [hy243]; with_reducible exact H2_) | (have H2_ := (Option.bind_some _ _).symm.trans H; with_reducible exact H2_) | with_reducible exact H | (rw [hy243]; exact H) | exact H
                        have Ny243 := Aside0.mk hy243
                        clear hy243
                        by_cases c67 : x10_3.length < 17592186044416
                        · rw [if_pos c67] at H
                          have LMc67 := Aside0.mk c67
                          clear c67
                          obtain ⟨y246, hy246⟩ : ∃ y_ : List Int, y_ = (x10_3 ++ [x11_3]) := ⟨_, rfl⟩
                          replace H : (changeforgetop_TopBuildStepsAreOrdered.l0 k3 t236 y243 y246 (wrap64 (x11_3 + 1))) = some r := by first | (rw [hy246]; with_reducible exact H) | (have H2_ := (Option.bind_some _ _).symm.trans H; rw [hy246]; with_reducible exact H2_) | (have H2_ := (Option.bind_some _ _).symm.trans H; with_reducible exact H2_) | with_reducible exact H | (rw [hy246]; exact H) | exact H
                          have Ny246 := Aside0.mk hy246
                          clear hy246
                          have H' := Aside0.mk H
                          clear H
                          obtain ⟨Ao68, co68, eo68⟩ := Kd.N_slice HO_7.out
                          subst eo68
                          have p242 : 0 ≤ (x11_3 : Int) := of_decide_eq_true (by first | (with_reducible assumption) | assumption)
                          have q242 : x11_3 < (t236.length : Int) := of_decide_eq_true (by first | (with_reducible assumption) | assumption)
                          obtain ⟨ad242, A242_2, c242_2, e242, hx242_0, hx242_1, hx242_2, hl242_2, hi242_2⟩ := at_T36 (Kd.N_reads' HO_7.out).2.2 x11_3 p242 q242
                          cases e242
                          obtain ⟨ce242, hce242, hMe242, hcc242⟩ := Kd.N_get HO_7.out z36 x11_3 p242 (by first | exact q242 | exact of_decide_eq_true (by first | (with_reducible assumption) | assumption) | (have e_ := (Kd.N_reads' HO_7.out).1; omega))
                          obtain ⟨ua242_2, uc242_2, rfl, ul242_2, ge242_2⟩ := k36_openF hMe242
                          have hv242_2 := hcc242 2 _ rfl
                          rw [add_field _ _ 2 (by omega)] at hv242_2
                          replace hv242_2 := Option.some.inj (hv242_2.symm.trans hx242_2)
                          injection hv242_2 with hva_ hvn_ hvc_
                          rw [hva_] at ge242_2
                          rw [hvc_] at ul242_2
                          have HL242_2 := Aside0.mk (show Kd.V (Kd.int .i64) 3 _ w.heap.size _ _ ((rd_T36 t236 x11_3).f2) from Kd.V_mk ul242_2 ge242_2)
                          clear hva_ hvn_ hvc_ ge242_2 ul242_2
                          clear hcc242 hce242
                          have HR242_2 := Aside0.mk hi242_2
                          have HC242_2 := Aside0.mk hl242_2
                          clear hi242_2 hl242_2
                          replace p242 := eq_true p242
                          replace q242 := eq_true q242
                          go_wp2_with (first | ((with_reducible refine gate_builtin (b := .append) (xs := #[.tmp 74, .tmp 80]) rfl ?_); (try (refine gate_guard (by rfl) ?_; dsimp only)); at_builtin; refine Kd.N_append (Kd.slice 3 (Kd.int .i64)) (w0 := w) w.heap.size rfl (.tmp 74) (.tmp 80) 33 28 (.slice none 0 0) 24 rfl Tryd.underlying33 info28 rfl (by decide) (by omega) u9 x9_3 ((rd_T36 t236 x11_3).f2) [.slice A242_2 ((rd_T36 t236 x11_3).f2).length c242_2] (fun k_ => some k_ ≠ (.slice (some ad242) t236.length co68 : Value).ownBlock ∧ some k_ ≠ (u10 : Value).ownBlock ∧ k_ ≠ gb222 ∧ k_ ≠ gb231 ∧ k_ ≠ gb241) (fun k_ => ((fun k_ => some k_ ≠ (.slice (some ad242) t236.length co68 : Value).ownBlock ∧ some k_ ≠ (u10 : Value).ownBlock ∧ k_ ≠ gb222 ∧ k_ ≠ gb231 ∧ k_ ≠ gb241)) k_ ∧ some k_ ≠ (u9 : Value).ownBlock) rfl rfl ?aP (fun _ hk => hk) ?aF ?aO ?aB ?aS ?aL ?_; (case aP => exact (Kd.FK_slice_mk (Kd.V_reads' (Kd.V_mono (ok' := (fun k_ => ((fun k_ => some k_ ≠ (.slice (some ad242) t236.length co68 : Value).ownBlock ∧ some k_ ≠ (u10 : Value).ownBlock ∧ k_ ≠ gb222 ∧ k_ ≠ gb231 ∧ k_ ≠ gb241)) k_ ∧ some k_ ≠ (u9 : Value).ownBlock)) (HL242_2.out) (fun k_ hk => ⟨⟨hk.2, ⟨hk.1.2.1, ⟨hk.1.2.2.1, ⟨hk.1.2.2.2.1, hk.1.2.2.2.2⟩⟩⟩⟩, hk.1.1⟩))).2.1 (Kd.V_F (Kd.V_mono (ok' := (fun k_ => ((fun k_ => some k_ ≠ (.slice (some ad242) t236.length co68 : Value).ownBlock ∧ some k_ ≠ (u10 : Value).ownBlock ∧ k_ ≠ gb222 ∧ k_ ≠ gb231 ∧ k_ ≠ gb241)) k_ ∧ some k_ ≠ (u9 : Value).ownBlock)) (HL242_2.out) (fun k_ hk => ⟨⟨hk.2, ⟨hk.1.2.1, ⟨hk.1.2.2.1, ⟨hk.1.2.2.2.1, hk.1.2.2.2.2⟩⟩⟩⟩, hk.1.1⟩))))); (case aB => exact (by repeat (first | (with_reducible first | exact HB.out | apply below_alloc | apply pw_below_drewN | apply below_drew1 | refine below_set ?_ GE222.out | refine below_set ?_ GE231.out | refine below_set ?_ GE241.out) | exact HB.out))); (case aF => exact (fun k_ hk => ⟨Kd.fresh' (Kd.N_lt (by (with_reducible repeat (first | apply Kd.N_alloc | apply Kd.N_drewN | apply Kd.N_drew)); exact HO_7.out)) k_ hk, Kd.fresh' (Kd.R_lt (by (with_reducible repeat (first | apply Kd.R_alloc | apply Kd.R_drewN | apply Kd.R_drew)); exact HO_10.out)) k_ hk, Kd.freshB (g := gb222) (o := .cells #[.int .i64 t220, .int .i64 t221] 25 (0, 0)) (by (with_reducible repeat (first | refine blk_drewN ?_ _ | refine blk_drew ?_ | refine blk_alloc ?_ _)); exact BK222.out) k_ hk, Kd.freshB (g := gb231) (o := .cells #[.int .i64 t229, .int .i64 t230] 25 (0, 0)) (by (with_reducible repeat (first | refine blk_drewN ?_ _ | refine blk_drew ?_ | refine blk_alloc ?_ _)); exact BK231.out) k_ hk, Kd.freshB (g := gb241) (o := .cells #[.int .i64 t239, .int .i64 t240] 25 (0, 0)) (by (with_reducible repeat (first | refine blk_drewN ?_ _ | refine blk_drew ?_ | refine blk_alloc ?_ _)); exact BK241.out) k_ hk⟩)); (case aO => exact (by (with_reducible repeat (first | apply Kd.N_alloc | apply Kd.N_drewN | apply Kd.N_drew)); exact HO_9.out)); (case aS => exact (below_size (by repeat (first | (with_reducible first | exact HB.out | apply below_alloc | apply pw_below_drewN | apply below_drew1 | refine below_set ?_ GE222.out | refine below_set ?_ GE231.out | refine below_set ?_ GE241.out) | exact HB.out)))); (case aL => have := LMc66.out; omega); intro v244 w69 ho hb hg hat; rw [← Ny243.out] at ho; have n0_ := Aside0.mk (Kd.N_afterv (ok := (fun k_ => some k_ ≠ (u10 : Value).ownBlock ∧ k_ ≠ gb222 ∧ k_ ≠ gb231 ∧ k_ ≠ gb241)) (by (with_reducible repeat (first | apply Kd.N_alloc | apply Kd.N_drewN | apply Kd.N_drew)); exact Kd.N_mono HO_7.out (fun _ hk => ⟨⟨hk.2.1, ⟨hk.2.2.1, ⟨hk.2.2.2.1, hk.2.2.2.2⟩⟩⟩, hk.1⟩)) hg hat); have n1_ := Aside0.mk (Kd.R_over' (by (with_reducible repeat (first | apply Kd.R_alloc | apply Kd.R_drewN | apply Kd.R_drew)); exact HO_10.out) (Kd.N_typed (by (with_reducible repeat (first | apply Kd.N_alloc | apply Kd.N_drewN | apply Kd.N_drew)); exact HO_9.out)) (by decide) hg); have n2_ := Aside0.mk (blk_grown (g := gb222) (o := .cells #[.int .i64 t220, .int .i64 t221] 25 (0, 0)) (by (with_reducible repeat (first | refine blk_drewN ?_ _ | refine blk_drew ?_ | refine blk_alloc ?_ _)); exact BK222.out) hg (Kd.N_ne HO_9.out BK222.out (by decide))); have n3_ := Aside0.mk (blk_grown (g := gb231) (o := .cells #[.int .i64 t229, .int .i64 t230] 25 (0, 0)) (by (with_reducible repeat (first | refine blk_drewN ?_ _ | refine blk_drew ?_ | refine blk_alloc ?_ _)); exact BK231.out) hg (Kd.N_ne HO_9.out BK231.out (by decide))); have n4_ := Aside0.mk (blk_grown (g := gb241) (o := .cells #[.int .i64 t239, .int .i64 t240] 25 (0, 0)) (by (with_reducible repeat (first | refine blk_drewN ?_ _ | refine blk_drew ?_ | refine blk_alloc ?_ _)); exact BK241.out) hg (Kd.N_ne HO_9.out BK241.out (by decide))); have n5_ := Aside0.mk (Kd.V_afterv (ok := (fun k_ => some k_ ≠ (.slice (some ad242) t236.length co68 : Value).ownBlock ∧ some k_ ≠ (u10 : Value).ownBlock ∧ k_ ≠ gb222 ∧ k_ ≠ gb231 ∧ k_ ≠ gb241)) (by (with_reducible repeat (first | apply Kd.V_alloc | apply Kd.V_drewN | apply Kd.V_drew)); exact Kd.V_mono HL242_2.out (fun _ hk => ⟨⟨hk.2, ⟨hk.1.2.1, ⟨hk.1.2.2.1, ⟨hk.1.2.2.2.1, hk.1.2.2.2.2⟩⟩⟩⟩, hk.1.1⟩)) hg hat); have n6_ := Aside0.mk (hb); have n7_ := Aside0.mk (ho); clear HO_7; clear HO_10; clear BK222; clear BK231; clear BK241; clear HL242_2; clear HB; clear HO_9; have HO_7 := n0_; have HO_10 := n1_; have BK222 := n2_; have BK231 := n3_; have BK241 := n4_; have HL242_2 := n5_; have HB := n6_; have HO245 := n7_; clear n0_ n1_ n2_ n3_ n4_ n5_ n6_ n7_; clear ho hb hg hat) | ((with_reducible refine gate_builtin (b := .append) (xs := #[.tmp 82, .tmp 84]) rfl ?_); (try (refine gate_guard (by rfl) ?_; dsimp only)); at_builtin; refine Kd.R_append (Kd.int .i64) (w0 := w) w.heap.size rfl (.tmp 82) (.tmp 84) 28 3 (.int .i64 0) 8 rfl Tryd.underlying28 info3 rfl (by decide) (by omega) u10 x10_3 x11_3 [.int .i64 x11_3] (fun _ => True) (fun _ => False) rfl rfl ?aP (fun _ hk => hk.elim) ?aF ?aO ?aB ?aS ?aL ?_; (case aP => exact rfl); (case aB => exact (by repeat (first | (with_reducible first | exact HB.out | apply below_alloc | apply pw_below_drewN | apply below_drew1 | refine below_set ?_ GE222.out | refine below_set ?_ GE231.out | refine below_set ?_ GE241.out) | exact HB.out))); (case aF => exact (fun _ _ => trivial)); (case aO => exact (by (with_reducible repeat (first | apply Kd.R_alloc | apply Kd.R_drewN | apply Kd.R_drew)); exact HO_10.out)); (case aS => exact (below_size (by repeat (first | (with_reducible first | exact HB.out | apply below_alloc | apply pw_below_drewN | apply below_drew1 | refine below_set ?_ GE222.out | refine below_set ?_ GE231.out | refine below_set ?_ GE241.out) | exact HB.out)))); (case aL => have := LMc67.out; omega); intro v247 w70 ho hb hg hat; rw [← Ny246.out] at ho; have n0_ := Aside0.mk (Kd.N_afterv (ok := (fun k_ => some k_ ≠ (v244 : Value).ownBlock ∧ k_ ≠ gb222 ∧ k_ ≠ gb231 ∧ k_ ≠ gb241)) (by (with_reducible repeat (first | apply Kd.N_alloc | apply Kd.N_drewN | apply Kd.N_drew)); exact Kd.N_mono HO_7.out (fun _ hk => ⟨⟨hk.2, ⟨hk.1.2.1, ⟨hk.1.2.2.1, hk.1.2.2.2⟩⟩⟩, hk.1.1⟩)) hg hat); have n1_ := Aside0.mk (blk_grown (g := gb222) (o := .cells #[.int .i64 t220, .int .i64 t221] 25 (0, 0)) (by (with_reducible repeat (first | refine blk_drewN ?_ _ | refine blk_drew ?_ | refine blk_alloc ?_ _)); exact BK222.out) hg (Kd.R_ne HO_10.out BK222.out (by decide))); have n2_ := Aside0.mk (blk_grown (g := gb231) (o := .cells #[.int .i64 t229, .int .i64 t230] 25 (0, 0)) (by (with_reducible repeat (first | refine blk_drewN ?_ _ | refine blk_drew ?_ | refine blk_alloc ?_ _)); exact BK231.out) hg (Kd.R_ne HO_10.out BK231.out (by decide))); have n3_ := Aside0.mk (blk_grown (g := gb241) (o := .cells #[.int .i64 t239, .int .i64 t240] 25 (0, 0)) (by (with_reducible repeat (first | refine blk_drewN ?_ _ | refine blk_drew ?_ | refine blk_alloc ?_ _)); exact BK241.out) hg (Kd.R_ne HO_10.out BK241.out (by decide))); have n4_ := Aside0.mk (Kd.V_afterv (ok := (fun k_ => some k_ ≠ (.slice (some ad242) t236.length co68 : Value).ownBlock ∧ some k_ ≠ (v244 : Value).ownBlock ∧ k_ ≠ gb222 ∧ k_ ≠ gb231 ∧ k_ ≠ gb241)) (by (with_reducible repeat (first | apply Kd.V_alloc | apply Kd.V_drewN | apply Kd.V_drew)); exact Kd.V_mono HL242_2.out (fun _ hk => ⟨⟨hk.1.1, ⟨hk.2, ⟨hk.1.2.2.1, ⟨hk.1.2.2.2.1, hk.1.2.2.2.2⟩⟩⟩⟩, hk.1.2.1⟩)) hg hat); have n5_ := Aside0.mk (Kd.N_afterv (ok := (fun k_ => some k_ ≠ (.slice (some ad242) t236.length co68 : Value).ownBlock ∧ k_ ≠ gb222 ∧ k_ ≠ gb231 ∧ k_ ≠ gb241)) (by (with_reducible repeat (first | apply Kd.N_alloc | apply Kd.N_drewN | apply Kd.N_drew)); exact Kd.N_mono HO245.out (fun _ hk => ⟨⟨hk.1, ⟨hk.2.2.1, ⟨hk.2.2.2.1, hk.2.2.2.2⟩⟩⟩, hk.2.1⟩)) hg hat); have n6_ := Aside0.mk (hb); have n7_ := Aside0.mk (ho); clear HO_7; clear BK222; clear BK231; clear BK241; clear HL242_2; clear HO245; clear HB; clear HO_10; have HO_7 := n0_; have BK222 := n1_; have BK231 := n2_; have BK241 := n3_; have HL242_2 := n4_; have HO245 := n5_; have HB := n6_; have HO248 := n7_; clear n0_ n1_ n2_ n3_ n4_ n5_ n6_ n7_; clear ho hb hg hat))
                          go_roundg k3
                          case measure => have := HJ3.out; have := HJ40.out; have := HK3.out; omega
                          case rel => exact ⟨(y243), (y246), (wrap64 (x11_3 + 1)), (by first | rfl | (simp; done) | (simp [*]; done)), H', ⟨by have := HJ3.out; have := HJ40.out; have := HK3.out; omega⟩, ⟨by (with_reducible repeat (first | apply Kd.N_alloc | apply Kd.N_drewN | apply Kd.N_drew)); exact Kd.N_mono HO_7.out (fun _ hk => ⟨hk.1.1, ⟨hk.2, ⟨hk.1.2.1, ⟨hk.1.2.2.1, hk.1.2.2.2⟩⟩⟩⟩)⟩, ⟨by (with_reducible repeat (first | apply Kd.N_alloc | apply Kd.N_drewN | apply Kd.N_drew)); exact Kd.N_mono HO245.out (fun _ hk => ⟨hk.1.1, ⟨hk.2, ⟨hk.1.2.1, ⟨hk.1.2.2.1, hk.1.2.2.2⟩⟩⟩⟩)⟩, ⟨by (with_reducible repeat (first | apply Kd.R_alloc | apply Kd.R_drewN | apply Kd.R_drew)); exact HO248.out⟩, ⟨by (with_reducible repeat (first | refine blk_drewN ?_ _ | refine blk_drew ?_ | refine blk_alloc ?_ _)); exact BK222.out⟩, ⟨by (with_reducible repeat (first | refine blk_drewN ?_ _ | refine blk_drew ?_ | refine blk_alloc ?_ _)); exact BK231.out⟩, ⟨by (with_reducible repeat (first | refine blk_drewN ?_ _ | refine blk_drew ?_ | refine blk_alloc ?_ _)); exact BK241.out⟩, ⟨by repeat (first | (with_reducible first | exact HB.out | apply below_alloc | apply pw_below_drewN | apply below_drew1 | refine below_set ?_ GE222.out | refine below_set ?_ GE231.out | refine below_set ?_ GE241.out) | exact HB.out)⟩⟩
                        · rw [if_neg c67] at H
                          exact absurd H (by simp)
                      · rw [if_neg c66] at H
                        exact absurd H (by simp)
                    · rw [if_neg c65] at H
                      exact absurd H (by simp)
                  · rw [if_neg c64] at H
                    have c64b0 : decide (x11_3 < (t236.length : Int)) = false := decide_eq_false c64
                    clear c64
                    replace H := Option.bind_eq_some_iff.mp H
                    obtain ⟨⟨t249, t252, t253⟩, A710, H⟩ := H
                    replace H : ((depgraph_Levels.f k3 x9_3).bind fun bt255 => (if t252 = 0 then (if bt255.2.1 = 0 then ((changeforgeref5_Ints.f k3 t249 x10_3).bind fun t261 => (if t261 = true then (changeforgetop_TopBuildStepsAreOrdered.j3 k3 t236 bt255.1 ((bt255.1.length : Int) != (t236.length : Int))) else (changeforgetop_TopBuildStepsAreOrdered.j3 k3 t236 bt255.1 true))) else (changeforgetop_TopBuildStepsAreOrdered.j3 k3 t236 bt255.1 true)) else (changeforgetop_TopBuildStepsAreOrdered.j3 k3 t236 bt255.1 true))) = some r := H
                    have A71 := Aside0.mk A710
                    clear A710
                    replace H := Option.bind_eq_some_iff.mp H
                    obtain ⟨⟨t255, t258, t259⟩, A720, H⟩ := H
                    replace H : (if t252 = 0 then (if t258 = 0 then ((changeforgeref5_Ints.f k3 t249 x10_3).bind fun t261 => (if t261 = true then (changeforgetop_TopBuildStepsAreOrdered.j3 k3 t236 t255 ((t255.length : Int) != (t236.length : Int))) else (changeforgetop_TopBuildStepsAreOrdered.j3 k3 t236 t255 true))) else (changeforgetop_TopBuildStepsAreOrdered.j3 k3 t236 t255 true)) else (changeforgetop_TopBuildStepsAreOrdered.j3 k3 t236 t255 true)) = some r := H
                    have A72 := Aside0.mk A720
                    clear A720
                    have HC73 := Aside0.mk H
                    clear H
                    obtain ⟨Ao74, co74, eo74⟩ := Kd.N_slice HO_7.out
                    subst eo74
                    obtain ⟨Ao75, co75, eo75⟩ := Kd.N_slice HO_9.out
                    subst eo75
                    go_upto_region 17 with (first | ((with_reducible refine gate_callee (f := 5) rfl ?_); refine goesL_ (some 88) rfl rfl Tryd.func5 (by kernel_rfl) rfl #[.slice Ao75 x9_3.length co75] rfl (by (try simp only [List.map_toArray, List.map_cons, List.map_nil]); first | done | rfl | (simp only [List.length_drop, List.length_take]; rfl)) ?_; (with_reducible refine (depgraph_Order.calls k3 _ _ x9_3 t249 t252 t253 _ ?side1 ?side2 A71.out).mono ?_); (case side1 => repeat (first | exact (Kd.N_reads' HO_9.out).2.2 | (with_reducible refine Kd.C_alloc ?_ _) | (with_reducible refine Kd.C_drewN ?_ _) | (with_reducible refine Kd.C_drew ?_))); (case side2 => exact (Kd.N_reads' HO_9.out).2.1); rintro e w76 ⟨v250, rfl, ho0, hb⟩; refine ⟨_, rfl, ?_⟩; have n0_ := Aside0.mk (Kd.N_elder' (by (with_reducible repeat (first | apply Kd.N_alloc | apply Kd.N_drewN | apply Kd.N_drew)); exact HO_7.out) (Kd.R_base ho0) hb); have n1_ := Aside0.mk (Kd.N_elder' (by (with_reducible repeat (first | apply Kd.N_alloc | apply Kd.N_drewN | apply Kd.N_drew)); exact HO_9.out) (Kd.R_base ho0) hb); have n2_ := Aside0.mk (Kd.R_elder' (by (with_reducible repeat (first | apply Kd.R_alloc | apply Kd.R_drewN | apply Kd.R_drew)); exact HO_10.out) (Kd.R_base ho0) hb); have n3_ := Aside0.mk (Kd.R_lower (Kd.R_new' ho0 (Kd.R_lt (by (with_reducible repeat (first | apply Kd.R_alloc | apply Kd.R_drewN | apply Kd.R_drew)); exact HO_10.out))) (below_size (by repeat (first | (with_reducible first | exact HB.out | apply below_alloc | apply pw_below_drewN | apply below_drew1 | refine below_set ?_ GE222.out | refine below_set ?_ GE231.out | refine below_set ?_ GE241.out) | exact HB.out)))); have n4_ := Aside0.mk (blk_below (g := gb222) (o := .cells #[.int .i64 t220, .int .i64 t221] 25 (0, 0)) (by (with_reducible repeat (first | refine blk_drewN ?_ _ | refine blk_drew ?_ | refine blk_alloc ?_ _)); exact BK222.out) hb); have n5_ := Aside0.mk (blk_below (g := gb231) (o := .cells #[.int .i64 t229, .int .i64 t230] 25 (0, 0)) (by (with_reducible repeat (first | refine blk_drewN ?_ _ | refine blk_drew ?_ | refine blk_alloc ?_ _)); exact BK231.out) hb); have n6_ := Aside0.mk (blk_below (g := gb241) (o := .cells #[.int .i64 t239, .int .i64 t240] 25 (0, 0)) (by (with_reducible repeat (first | refine blk_drewN ?_ _ | refine blk_drew ?_ | refine blk_alloc ?_ _)); exact BK241.out) hb); have n7_ := Aside0.mk (below_step (by repeat (first | (with_reducible first | exact HB.out | apply below_alloc | apply pw_below_drewN | apply below_drew1 | refine below_set ?_ GE222.out | refine below_set ?_ GE231.out | refine below_set ?_ GE241.out) | exact HB.out)) hb); clear HO_7; clear HO_9; clear HO_10; clear BK222; clear BK231; clear BK241; clear HB; have HO_7 := n0_; have HO_9 := n1_; have HO_10 := n2_; have HO251 := n3_; have BK222 := n4_; have BK231 := n5_; have BK241 := n6_; have HB := n7_; clear n0_ n1_ n2_ n3_ n4_ n5_ n6_ n7_; (try clear hb); (try clear hb2); (try clear hk); (try clear hi); (try clear ho0)) | ((with_reducible refine gate_dst (N := 13) rfl ?_); (try (refine gate_guard (by rfl) ?_; dsimp only)); refine box_event ?hg (N := 13) ?hd (cs := #[.int .i64 0, .int .i64 0]) (t := 25) ?hr ?_; (case hd => rfl); (case hg => rfl); (case hr => first | (go_simp; done) | (go_simp; rfl)); intro gb254 hg w77 hbox hb; have n0_ := Aside0.mk (Kd.N_below (Kd.N_elderB (by (with_reducible repeat (first | apply Kd.N_alloc | apply Kd.N_drewN | apply Kd.N_drew)); exact HO_7.out) gb254 (Nat.le_of_eq hg.symm)) hb); have n1_ := Aside0.mk (Kd.N_below (Kd.N_elderB (by (with_reducible repeat (first | apply Kd.N_alloc | apply Kd.N_drewN | apply Kd.N_drew)); exact HO_9.out) gb254 (Nat.le_of_eq hg.symm)) hb); have n2_ := Aside0.mk (Kd.R_below (by (with_reducible repeat (first | apply Kd.R_alloc | apply Kd.R_drewN | apply Kd.R_drew)); exact HO_10.out) hb); have n3_ := Aside0.mk (Kd.R_below (by (with_reducible repeat (first | apply Kd.R_alloc | apply Kd.R_drewN | apply Kd.R_drew)); exact HO251.out) hb); have n4_ := Aside0.mk (blk_below (g := gb222) (o := .cells #[.int .i64 t220, .int .i64 t221] 25 (0, 0)) (by (with_reducible repeat (first | refine blk_drewN ?_ _ | refine blk_drew ?_ | refine blk_alloc ?_ _)); exact BK222.out) hb); have n5_ := Aside0.mk (blk_below (g := gb231) (o := .cells #[.int .i64 t229, .int .i64 t230] 25 (0, 0)) (by (with_reducible repeat (first | refine blk_drewN ?_ _ | refine blk_drew ?_ | refine blk_alloc ?_ _)); exact BK231.out) hb); have n6_ := Aside0.mk (blk_below (g := gb241) (o := .cells #[.int .i64 t239, .int .i64 t240] 25 (0, 0)) (by (with_reducible repeat (first | refine blk_drewN ?_ _ | refine blk_drew ?_ | refine blk_alloc ?_ _)); exact BK241.out) hb); have n7_ := Aside0.mk (below_step (by repeat (first | (with_reducible first | exact HB.out | apply below_alloc | apply pw_below_drewN | apply below_drew1 | refine below_set ?_ GE222.out | refine below_set ?_ GE231.out | refine below_set ?_ GE241.out) | exact HB.out)) hb); have n8_ := Aside0.mk (hbox); have n9_ := Aside0.mk ((by rw [hg]; exact (below_size (by repeat (first | (with_reducible first | exact HB.out | apply below_alloc | apply pw_below_drewN | apply below_drew1 | refine below_set ?_ GE222.out | refine below_set ?_ GE231.out | refine below_set ?_ GE241.out) | exact HB.out))) : w.heap.size ≤ gb254)); have n10_ := Aside0.mk ((by rw [hg]; exact (below_size (by repeat (first | (with_reducible first | exact HB.out | apply below_alloc | apply pw_below_drewN | apply below_drew1 | refine below_set ?_ GE222.out | refine below_set ?_ GE231.out | refine below_set ?_ GE241.out) | exact HB.out))) : w.heap.size ≤ gb254)); have n11_ := Aside0.mk ((by rw [hg]; exact Nat.ne_of_lt (blk_lt (g := gb222) (o := .cells #[.int .i64 t220, .int .i64 t221] 25 (0, 0)) (by (with_reducible repeat (first | refine blk_drewN ?_ _ | refine blk_drew ?_ | refine blk_alloc ?_ _)); exact BK222.out)) : gb222 ≠ gb254)); have n12_ := Aside0.mk ((by rw [hg]; exact Nat.ne_of_gt (blk_lt (g := gb222) (o := .cells #[.int .i64 t220, .int .i64 t221] 25 (0, 0)) (by (with_reducible repeat (first | refine blk_drewN ?_ _ | refine blk_drew ?_ | refine blk_alloc ?_ _)); exact BK222.out)) : gb254 ≠ gb222)); have n13_ := Aside0.mk ((by rw [hg]; exact Nat.ne_of_lt (blk_lt (g := gb231) (o := .cells #[.int .i64 t229, .int .i64 t230] 25 (0, 0)) (by (with_reducible repeat (first | refine blk_drewN ?_ _ | refine blk_drew ?_ | refine blk_alloc ?_ _)); exact BK231.out)) : gb231 ≠ gb254)); have n14_ := Aside0.mk ((by rw [hg]; exact Nat.ne_of_gt (blk_lt (g := gb231) (o := .cells #[.int .i64 t229, .int .i64 t230] 25 (0, 0)) (by (with_reducible repeat (first | refine blk_drewN ?_ _ | refine blk_drew ?_ | refine blk_alloc ?_ _)); exact BK231.out)) : gb254 ≠ gb231)); have n15_ := Aside0.mk ((by rw [hg]; exact Nat.ne_of_lt (blk_lt (g := gb241) (o := .cells #[.int .i64 t239, .int .i64 t240] 25 (0, 0)) (by (with_reducible repeat (first | refine blk_drewN ?_ _ | refine blk_drew ?_ | refine blk_alloc ?_ _)); exact BK241.out)) : gb241 ≠ gb254)); have n16_ := Aside0.mk ((by rw [hg]; exact Nat.ne_of_gt (blk_lt (g := gb241) (o := .cells #[.int .i64 t239, .int .i64 t240] 25 (0, 0)) (by (with_reducible repeat (first | refine blk_drewN ?_ _ | refine blk_drew ?_ | refine blk_alloc ?_ _)); exact BK241.out)) : gb254 ≠ gb241)); clear HO_7; clear HO_9; clear HO_10; clear HO251; clear BK222; clear BK231; clear BK241; clear HB; have HO_7 := n0_; have HO_9 := n1_; have HO_10 := n2_; have HO251 := n3_; have BK222 := n4_; have BK231 := n5_; have BK241 := n6_; have HB := n7_; have BK254 := n8_; have GW254 := n9_; have GE254 := n10_; have NB222_254 := n11_; have NB254_222 := n12_; have NB231_254 := n13_; have NB254_231 := n14_; have NB241_254 := n15_; have NB254_241 := n16_; clear n0_ n1_ n2_ n3_ n4_ n5_ n6_ n7_ n8_ n9_ n10_ n11_ n12_ n13_ n14_ n15_ n16_; clear hb hbox hg; have hnb78 := NB254_222.out; have hnc78 := NB222_254.out; have hnb79 := NB254_231.out; have hnc79 := NB231_254.out; have hnb80 := NB254_241.out; have hnc80 := NB241_254.out; have hcz81_0 : w77.cell? ⟨gb254, 0, none⟩ = some (.int .i64 0) := (blk_cell BK254.out 0).trans rfl; have hcz81_1 : w77.cell? ⟨gb254, 1, none⟩ = some (.int .i64 0) := (blk_cell BK254.out 1).trans rfl; have hfz81_0 := blk_frozen BK254.out 0; have hfz81_1 := blk_frozen BK254.out 1) | ((with_reducible refine gate_callee (f := 7) rfl ?_); refine goesL_ (some 93) rfl rfl Tryd.func7 (by kernel_rfl) rfl #[.slice Ao75 x9_3.length co75] rfl (by (try simp only [List.map_toArray, List.map_cons, List.map_nil]); first | done | rfl | (simp only [List.length_drop, List.length_take]; rfl)) ?_; (with_reducible refine (depgraph_Levels.calls k3 _ _ x9_3 t255 t258 t259 _ ?side1 ?side2 A72.out).mono ?_); (case side1 => refine (Kd.N_reads' (e := 28) (base := w.heap.size) (ok := fun k_ => (((some k_ ≠ (.slice Ao74 t236.length co74 : Value).ownBlock ∧ (some k_ ≠ (u10 : Value).ownBlock ∧ (k_ ≠ gb222 ∧ (k_ ≠ gb231 ∧ k_ ≠ gb241)))) ∧ some k_ ≠ (v250 : Value).ownBlock) ∧ k_ ≠ gb254)) (n := x9_3.length) (c := co75) ?_).2.2; exact (by (with_reducible repeat (first | apply Kd.N_alloc | apply Kd.N_drewN | apply Kd.N_drew)); exact (Kd.N_mono (Kd.N_far (p := ⟨gb254, 1, none⟩) (Kd.N_far (p := ⟨gb254, 0, none⟩) (Kd.N_mono HO_9.out (fun k_ hk => (⟨hk, hk.2⟩ : _ ∧ k_ ≠ gb254))) (fun _ hk => hk.2) (.int .i64 t252)) (fun _ hk => hk.2) (.int .i64 t253)) (fun _ h_ => h_.1)))); (case side2 => exact (Kd.N_reads' HO_9.out).2.1); rintro e w82 ⟨v256, rfl, ho0, hb⟩; refine ⟨_, rfl, ?_⟩; have n0_ := Aside0.mk (Kd.N_elder' (by (with_reducible repeat (first | apply Kd.N_alloc | apply Kd.N_drewN | apply Kd.N_drew)); exact (Kd.N_mono (Kd.N_far (p := ⟨gb254, 1, none⟩) (Kd.N_far (p := ⟨gb254, 0, none⟩) (Kd.N_mono HO_7.out (fun k_ hk => (⟨hk, hk.2⟩ : _ ∧ k_ ≠ gb254))) (fun _ hk => hk.2) (.int .i64 t252)) (fun _ hk => hk.2) (.int .i64 t253)) (fun _ h_ => h_.1))) (Kd.R_base ho0) hb); have n1_ := Aside0.mk (Kd.N_elder' (by (with_reducible repeat (first | apply Kd.N_alloc | apply Kd.N_drewN | apply Kd.N_drew)); exact (Kd.N_mono (Kd.N_far (p := ⟨gb254, 1, none⟩) (Kd.N_far (p := ⟨gb254, 0, none⟩) (Kd.N_mono HO_9.out (fun k_ hk => (⟨hk, hk.2⟩ : _ ∧ k_ ≠ gb254))) (fun _ hk => hk.2) (.int .i64 t252)) (fun _ hk => hk.2) (.int .i64 t253)) (fun _ h_ => h_.1))) (Kd.R_base ho0) hb); have n2_ := Aside0.mk (Kd.R_elder' (by (with_reducible repeat (first | apply Kd.R_alloc | apply Kd.R_drewN | apply Kd.R_drew)); exact (Kd.R_mono (Kd.R_far (p := ⟨gb254, 1, none⟩) (Kd.R_far (p := ⟨gb254, 0, none⟩) (Kd.R_types HO_10.out BK254.out (by decide)) (fun _ hk => hk.2) (.int .i64 t252)) (fun _ hk => hk.2) (.int .i64 t253)) (fun _ h_ => h_.1))) (Kd.R_base ho0) hb); have n3_ := Aside0.mk (Kd.R_elder' (by (with_reducible repeat (first | apply Kd.R_alloc | apply Kd.R_drewN | apply Kd.R_drew)); exact (Kd.R_mono (Kd.R_far (p := ⟨gb254, 1, none⟩) (Kd.R_far (p := ⟨gb254, 0, none⟩) (Kd.R_types HO251.out BK254.out (by decide)) (fun _ hk => hk.2) (.int .i64 t252)) (fun _ hk => hk.2) (.int .i64 t253)) (fun _ h_ => h_.1))) (Kd.R_base ho0) hb); have n4_ := Aside0.mk (Kd.R_lower (Kd.R_new' (Kd.R_new' ho0 (Kd.R_lt (by (with_reducible repeat (first | apply Kd.R_alloc | apply Kd.R_drewN | apply Kd.R_drew)); exact (Kd.R_mono (Kd.R_far (p := ⟨gb254, 1, none⟩) (Kd.R_far (p := ⟨gb254, 0, none⟩) (Kd.R_types HO_10.out BK254.out (by decide)) (fun _ hk => hk.2) (.int .i64 t252)) (fun _ hk => hk.2) (.int .i64 t253)) (fun _ h_ => h_.1))))) (Kd.R_lt (by (with_reducible repeat (first | apply Kd.R_alloc | apply Kd.R_drewN | apply Kd.R_drew)); exact (Kd.R_mono (Kd.R_far (p := ⟨gb254, 1, none⟩) (Kd.R_far (p := ⟨gb254, 0, none⟩) (Kd.R_types HO251.out BK254.out (by decide)) (fun _ hk => hk.2) (.int .i64 t252)) (fun _ hk => hk.2) (.int .i64 t253)) (fun _ h_ => h_.1))))) (below_size (by repeat (first | (with_reducible first | exact HB.out | apply below_alloc | apply pw_below_drewN | apply below_drew1 | refine below_set ?_ GE222.out | refine below_set ?_ GE231.out | refine below_set ?_ GE241.out | refine below_set ?_ GE254.out) | exact HB.out)))); have n5_ := Aside0.mk (blk_below (g := gb222) (o := .cells #[.int .i64 t220, .int .i64 t221] 25 (0, 0)) (by (with_reducible repeat (first | refine blk_drewN ?_ _ | refine blk_drew ?_ | refine blk_alloc ?_ _)); refine blk_far ?_ NB222_254.out _; (with_reducible repeat (first | refine blk_drewN ?_ _ | refine blk_drew ?_ | refine blk_alloc ?_ _)); refine blk_far ?_ NB222_254.out _; (with_reducible repeat (first | refine blk_drewN ?_ _ | refine blk_drew ?_ | refine blk_alloc ?_ _)); exact BK222.out) hb); have n6_ := Aside0.mk (blk_below (g := gb231) (o := .cells #[.int .i64 t229, .int .i64 t230] 25 (0, 0)) (by (with_reducible repeat (first | refine blk_drewN ?_ _ | refine blk_drew ?_ | refine blk_alloc ?_ _)); refine blk_far ?_ NB231_254.out _; (with_reducible repeat (first | refine blk_drewN ?_ _ | refine blk_drew ?_ | refine blk_alloc ?_ _)); refine blk_far ?_ NB231_254.out _; (with_reducible repeat (first | refine blk_drewN ?_ _ | refine blk_drew ?_ | refine blk_alloc ?_ _)); exact BK231.out) hb); have n7_ := Aside0.mk (blk_below (g := gb241) (o := .cells #[.int .i64 t239, .int .i64 t240] 25 (0, 0)) (by (with_reducible repeat (first | refine blk_drewN ?_ _ | refine blk_drew ?_ | refine blk_alloc ?_ _)); refine blk_far ?_ NB241_254.out _; (with_reducible repeat (first | refine blk_drewN ?_ _ | refine blk_drew ?_ | refine blk_alloc ?_ _)); refine blk_far ?_ NB241_254.out _; (with_reducible repeat (first | refine blk_drewN ?_ _ | refine blk_drew ?_ | refine blk_alloc ?_ _)); exact BK241.out) hb); have n8_ := Aside0.mk (blk_below (g := gb254) (o := .cells #[.int .i64 t252, .int .i64 t253] 25 (0, 0)) (by (with_reducible repeat (first | refine blk_drewN ?_ _ | refine blk_drew ?_ | refine blk_alloc ?_ _)); refine blk_put (cs := #[.int .i64 t252, .int .i64 0]) ?_ 1 _ rfl; (with_reducible repeat (first | refine blk_drewN ?_ _ | refine blk_drew ?_ | refine blk_alloc ?_ _)); refine blk_put (cs := #[.int .i64 0, .int .i64 0]) ?_ 0 _ rfl; (with_reducible repeat (first | refine blk_drewN ?_ _ | refine blk_drew ?_ | refine blk_alloc ?_ _)); exact BK254.out) hb); have n9_ := Aside0.mk (below_step (by repeat (first | (with_reducible first | exact HB.out | apply below_alloc | apply pw_below_drewN | apply below_drew1 | refine below_set ?_ GE222.out | refine below_set ?_ GE231.out | refine below_set ?_ GE241.out | refine below_set ?_ GE254.out) | exact HB.out)) hb); clear HO_7; clear HO_9; clear HO_10; clear HO251; clear BK222; clear BK231; clear BK241; clear BK254; clear HB; have HO_7 := n0_; have HO_9 := n1_; have HO_10 := n2_; have HO251 := n3_; have HO257 := n4_; have BK222 := n5_; have BK231 := n6_; have BK241 := n7_; have BK254 := n8_; have HB := n9_; clear n0_ n1_ n2_ n3_ n4_ n5_ n6_ n7_ n8_ n9_; (try clear hb); (try clear hb2); (try clear hk); (try clear hi); (try clear ho0)) | ((with_reducible refine gate_dst (N := 15) rfl ?_); (try (refine gate_guard (by rfl) ?_; dsimp only)); refine box_event ?hg (N := 15) ?hd (cs := #[.int .i64 0, .int .i64 0]) (t := 25) ?hr ?_; (case hd => rfl); (case hg => rfl); (case hr => first | (go_simp; done) | (go_simp; rfl)); intro gb260 hg w83 hbox hb; have n0_ := Aside0.mk (Kd.N_below (Kd.N_elderB (by (with_reducible repeat (first | apply Kd.N_alloc | apply Kd.N_drewN | apply Kd.N_drew)); exact HO_7.out) gb260 (Nat.le_of_eq hg.symm)) hb); have n1_ := Aside0.mk (Kd.N_below (Kd.N_elderB (by (with_reducible repeat (first | apply Kd.N_alloc | apply Kd.N_drewN | apply Kd.N_drew)); exact HO_9.out) gb260 (Nat.le_of_eq hg.symm)) hb); have n2_ := Aside0.mk (Kd.R_below (by (with_reducible repeat (first | apply Kd.R_alloc | apply Kd.R_drewN | apply Kd.R_drew)); exact HO_10.out) hb); have n3_ := Aside0.mk (Kd.R_below (by (with_reducible repeat (first | apply Kd.R_alloc | apply Kd.R_drewN | apply Kd.R_drew)); exact HO251.out) hb); have n4_ := Aside0.mk (Kd.R_below (by (with_reducible repeat (first | apply Kd.R_alloc | apply Kd.R_drewN | apply Kd.R_drew)); exact HO257.out) hb); have n5_ := Aside0.mk (blk_below (g := gb222) (o := .cells #[.int .i64 t220, .int .i64 t221] 25 (0, 0)) (by (with_reducible repeat (first | refine blk_drewN ?_ _ | refine blk_drew ?_ | refine blk_alloc ?_ _)); exact BK222.out) hb); have n6_ := Aside0.mk (blk_below (g := gb231) (o := .cells #[.int .i64 t229, .int .i64 t230] 25 (0, 0)) (by (with_reducible repeat (first | refine blk_drewN ?_ _ | refine blk_drew ?_ | refine blk_alloc ?_ _)); exact BK231.out) hb); have n7_ := Aside0.mk (blk_below (g := gb241) (o := .cells #[.int .i64 t239, .int .i64 t240] 25 (0, 0)) (by (with_reducible repeat (first | refine blk_drewN ?_ _ | refine blk_drew ?_ | refine blk_alloc ?_ _)); exact BK241.out) hb); have n8_ := Aside0.mk (blk_below (g := gb254) (o := .cells #[.int .i64 t252, .int .i64 t253] 25 (0, 0)) (by (with_reducible repeat (first | refine blk_drewN ?_ _ | refine blk_drew ?_ | refine blk_alloc ?_ _)); exact BK254.out) hb); have n9_ := Aside0.mk (below_step (by repeat (first | (with_reducible first | exact HB.out | apply below_alloc | apply pw_below_drewN | apply below_drew1 | refine below_set ?_ GE222.out | refine below_set ?_ GE231.out | refine below_set ?_ GE241.out | refine below_set ?_ GE254.out) | exact HB.out)) hb); have n10_ := Aside0.mk (hbox); have n11_ := Aside0.mk ((by rw [hg]; exact (below_size (by repeat (first | (with_reducible first | exact HB.out | apply below_alloc | apply pw_below_drewN | apply below_drew1 | refine below_set ?_ GE222.out | refine below_set ?_ GE231.out | refine below_set ?_ GE241.out | refine below_set ?_ GE254.out) | exact HB.out))) : w.heap.size ≤ gb260)); have n12_ := Aside0.mk ((by rw [hg]; exact (below_size (by repeat (first | (with_reducible first | exact HB.out | apply below_alloc | apply pw_below_drewN | apply below_drew1 | refine below_set ?_ GE222.out | refine below_set ?_ GE231.out | refine below_set ?_ GE241.out | refine below_set ?_ GE254.out) | exact HB.out))) : w.heap.size ≤ gb260)); have n13_ := Aside0.mk ((by rw [hg]; exact Nat.ne_of_lt (blk_lt (g := gb222) (o := .cells #[.int .i64 t220, .int .i64 t221] 25 (0, 0)) (by (with_reducible repeat (first | refine blk_drewN ?_ _ | refine blk_drew ?_ | refine blk_alloc ?_ _)); exact BK222.out)) : gb222 ≠ gb260)); have n14_ := Aside0.mk ((by rw [hg]; exact Nat.ne_of_gt (blk_lt (g := gb222) (o := .cells #[.int .i64 t220, .int .i64 t221] 25 (0, 0)) (by (with_reducible repeat (first | refine blk_drewN ?_ _ | refine blk_drew ?_ | refine blk_alloc ?_ _)); exact BK222.out)) : gb260 ≠ gb222)); have n15_ := Aside0.mk ((by rw [hg]; exact Nat.ne_of_lt (blk_lt (g := gb231) (o := .cells #[.int .i64 t229, .int .i64 t230] 25 (0, 0)) (by (with_reducible repeat (first | refine blk_drewN ?_ _ | refine blk_drew ?_ | refine blk_alloc ?_ _)); exact BK231.out)) : gb231 ≠ gb260)); have n16_ := Aside0.mk ((by rw [hg]; exact Nat.ne_of_gt (blk_lt (g := gb231) (o := .cells #[.int .i64 t229, .int .i64 t230] 25 (0, 0)) (by (with_reducible repeat (first | refine blk_drewN ?_ _ | refine blk_drew ?_ | refine blk_alloc ?_ _)); exact BK231.out)) : gb260 ≠ gb231)); have n17_ := Aside0.mk ((by rw [hg]; exact Nat.ne_of_lt (blk_lt (g := gb241) (o := .cells #[.int .i64 t239, .int .i64 t240] 25 (0, 0)) (by (with_reducible repeat (first | refine blk_drewN ?_ _ | refine blk_drew ?_ | refine blk_alloc ?_ _)); exact BK241.out)) : gb241 ≠ gb260)); have n18_ := Aside0.mk ((by rw [hg]; exact Nat.ne_of_gt (blk_lt (g := gb241) (o := .cells #[.int .i64 t239, .int .i64 t240] 25 (0, 0)) (by (with_reducible repeat (first | refine blk_drewN ?_ _ | refine blk_drew ?_ | refine blk_alloc ?_ _)); exact BK241.out)) : gb260 ≠ gb241)); have n19_ := Aside0.mk ((by rw [hg]; exact Nat.ne_of_lt (blk_lt (g := gb254) (o := .cells #[.int .i64 t252, .int .i64 t253] 25 (0, 0)) (by (with_reducible repeat (first | refine blk_drewN ?_ _ | refine blk_drew ?_ | refine blk_alloc ?_ _)); exact BK254.out)) : gb254 ≠ gb260)); have n20_ := Aside0.mk ((by rw [hg]; exact Nat.ne_of_gt (blk_lt (g := gb254) (o := .cells #[.int .i64 t252, .int .i64 t253] 25 (0, 0)) (by (with_reducible repeat (first | refine blk_drewN ?_ _ | refine blk_drew ?_ | refine blk_alloc ?_ _)); exact BK254.out)) : gb260 ≠ gb254)); clear HO_7; clear HO_9; clear HO_10; clear HO251; clear HO257; clear BK222; clear BK231; clear BK241; clear BK254; clear HB; have HO_7 := n0_; have HO_9 := n1_; have HO_10 := n2_; have HO251 := n3_; have HO257 := n4_; have BK222 := n5_; have BK231 := n6_; have BK241 := n7_; have BK254 := n8_; have HB := n9_; have BK260 := n10_; have GW260 := n11_; have GE260 := n12_; have NB222_260 := n13_; have NB260_222 := n14_; have NB231_260 := n15_; have NB260_231 := n16_; have NB241_260 := n17_; have NB260_241 := n18_; have NB254_260 := n19_; have NB260_254 := n20_; clear n0_ n1_ n2_ n3_ n4_ n5_ n6_ n7_ n8_ n9_ n10_ n11_ n12_ n13_ n14_ n15_ n16_ n17_ n18_ n19_ n20_; clear hb hbox hg; have hnb84 := NB260_222.out; have hnc84 := NB222_260.out; have hnb85 := NB260_231.out; have hnc85 := NB231_260.out; have hnb86 := NB260_241.out; have hnc86 := NB241_260.out; have hnb87 := NB260_254.out; have hnc87 := NB254_260.out; have hcz88_0 : w83.cell? ⟨gb260, 0, none⟩ = some (.int .i64 0) := (blk_cell BK260.out 0).trans rfl; have hcz88_1 : w83.cell? ⟨gb260, 1, none⟩ = some (.int .i64 0) := (blk_cell BK260.out 1).trans rfl; have hfz88_0 := blk_frozen BK260.out 0; have hfz88_1 := blk_frozen BK260.out 1))
                    (try simp only [Act.put, List.setIfInBounds_toArray, List.set_cons_zero, List.set_cons_succ])
                    go_cut [116] (fun v116 wc => ∃ (kq : Nat) (x116_72 : Bool), v116 = .bool x116_72 ∧ Aside0 (changeforgetop_TopBuildStepsAreOrdered.j3 kq t236 t255 x116_72 = some r) ∧ Aside0 (kq ≤ k3) ∧ Aside0 (Kd.N k36 36 wc w.heap.size (fun k_ => some k_ ≠ (v256 : Value).ownBlock ∧ k_ ≠ gb222 ∧ k_ ≠ gb231 ∧ k_ ≠ gb241 ∧ k_ ≠ gb254 ∧ k_ ≠ gb260) (.slice Ao74 t236.length co74) t236) ∧ Aside0 (Kd.R (Kd.int .i64) 3 wc w.heap.size (fun _ => True) v256 t255) ∧ Aside0 (wc.heap[gb222]? = some (.cells #[.int .i64 t220, .int .i64 t221] 25 (0, 0))) ∧ Aside0 (wc.heap[gb231]? = some (.cells #[.int .i64 t229, .int .i64 t230] 25 (0, 0))) ∧ Aside0 (wc.heap[gb241]? = some (.cells #[.int .i64 t239, .int .i64 t240] 25 (0, 0))) ∧ Aside0 (wc.heap[gb254]? = some (.cells #[.int .i64 t252, .int .i64 t253] 25 (0, 0))) ∧ Aside0 (wc.heap[gb260]? = some (.cells #[.int .i64 t258, .int .i64 t259] 25 (0, 0))) ∧ Aside0 (Below w.heap.size w wc))
                    case first =>
                      have H := HC73.out
                      clear HC73
                      by_cases c89 : t252 = 0
                      · rw [if_pos c89] at H
                        have c89b0 : (t252 == 0) = true := beq_iff_eq.mpr c89
                        have c89b1 : (t252 != 0) = false := bne_eq_false_iff_eq.mpr c89
                        clear c89
                        (first | rw [c89b0] | (simp only [i64_w, i32_w]; rw [c89b0]) | skip)
                        by_cases c90 : t258 = 0
                        · rw [if_pos c90] at H
                          have c90b0 : (t258 == 0) = true := beq_iff_eq.mpr c90
                          have c90b1 : (t258 != 0) = false := bne_eq_false_iff_eq.mpr c90
                          clear c90
                          replace H := Option.bind_eq_some_iff.mp H
                          obtain ⟨t261, A910, H⟩ := H
                          replace H : (if t261 = true then (changeforgetop_TopBuildStepsAreOrdered.j3 k3 t236 t255 ((t255.length : Int) != (t236.length : Int))) else (changeforgetop_TopBuildStepsAreOrdered.j3 k3 t236 t255 true)) = some r := H
                          have A91 := Aside0.mk A910
                          clear A910
                          by_cases c92 : t261 = true
                          · subst c92
                            have H1 : (changeforgetop_TopBuildStepsAreOrdered.j3 k3 t236 t255 ((t255.length : Int) != (t236.length : Int))) = some r := by rw [if_pos rfl] at H; exact H
                            clear H
                            have H := H1
                            clear H1
                            have H' := Aside0.mk H
                            clear H
                            have hnb93 := NB254_222.out
                            have hnc93 := NB222_254.out
                            have hnb94 := NB254_231.out
                            have hnc94 := NB231_254.out
                            have hnb95 := NB254_241.out
                            have hnc95 := NB241_254.out
                            have hnb96 := NB254_260.out
                            have hnc96 := NB260_254.out
                            have hcz97_0 : w83.cell? ⟨gb254, 0, none⟩ = some (.int .i64 t252) := (blk_cell BK254.out 0).trans rfl
                            have hcz97_1 : w83.cell? ⟨gb254, 1, none⟩ = some (.int .i64 t253) := (blk_cell BK254.out 1).trans rfl
                            have hfz97_0 := blk_frozen BK254.out 0
                            have hfz97_1 := blk_frozen BK254.out 1
                            have hnb98 := NB260_222.out
                            have hnc98 := NB222_260.out
                            have hnb99 := NB260_231.out
                            have hnc99 := NB231_260.out
                            have hnb100 := NB260_241.out
                            have hnc100 := NB241_260.out
                            have hcz101_0 : w83.cell? ⟨gb260, 0, none⟩ = some (.int .i64 0) := (blk_cell BK260.out 0).trans rfl
                            have hcz101_1 : w83.cell? ⟨gb260, 1, none⟩ = some (.int .i64 0) := (blk_cell BK260.out 1).trans rfl
                            have hfz101_0 := blk_frozen BK260.out 0
                            have hfz101_1 := blk_frozen BK260.out 1
                            obtain ⟨Ao102, co102, eo102⟩ := Kd.R_slice HO251.out
                            subst eo102
                            obtain ⟨Ao103, co103, eo103⟩ := Kd.R_slice HO_10.out
                            subst eo103
                            go_wp2_with (first | (go_at_call 6; (with_reducible refine (changeforgeref5_Ints.calls k3 _ _ t249 _ _ x10_3 true _ ?side1 ?side2 ?side3 ?side4 A91.out).mono ?_); (case side1 => refine (Kd.R_reads' (e := 3) (base := w.heap.size) (ok := fun k_ => ((True ∧ some k_ ≠ (.slice Ao103 x10_3.length co103 : Value).ownBlock) ∧ some k_ ≠ (v256 : Value).ownBlock)) (n := t249.length) (c := co102) ?_).2.2; exact (by (with_reducible repeat (first | apply Kd.R_alloc | apply Kd.R_drewN | apply Kd.R_drew)); exact (Kd.R_mono (Kd.R_far (p := ⟨gb260, 1, none⟩) (Kd.R_far (p := ⟨gb260, 0, none⟩) (Kd.R_types HO251.out BK260.out (by decide)) (fun _ hk => hk.2) (.int .i64 t258)) (fun _ hk => hk.2) (.int .i64 t259)) (fun _ h_ => h_.1)))); (case side2 => exact (Kd.R_reads' HO251.out).2.1); (case side3 => refine (Kd.R_reads' (e := 3) (base := w.heap.size) (ok := fun k_ => ((True ∧ some k_ ≠ (.slice Ao102 t249.length co102 : Value).ownBlock) ∧ some k_ ≠ (v256 : Value).ownBlock)) (n := x10_3.length) (c := co103) ?_).2.2; exact (by (with_reducible repeat (first | apply Kd.R_alloc | apply Kd.R_drewN | apply Kd.R_drew)); exact (Kd.R_mono (Kd.R_far (p := ⟨gb260, 1, none⟩) (Kd.R_far (p := ⟨gb260, 0, none⟩) (Kd.R_types HO_10.out BK260.out (by decide)) (fun _ hk => hk.2) (.int .i64 t258)) (fun _ hk => hk.2) (.int .i64 t259)) (fun _ h_ => h_.1)))); (case side4 => exact (Kd.R_reads' HO_10.out).2.1); rintro e w' ⟨rfl, ⟨nd, rfl⟩⟩; obtain ⟨Ao104, co104, eo104⟩ := Kd.R_slice HO257.out; subst eo104))
                            go_meet
                            case rel => exact ⟨_, (((t255.length : Int) != (t236.length : Int))), (by first | rfl | (simp; done) | (simp [*]; done)), H', ⟨by have := HJ3.out; have := HJ40.out; have := HK3.out; first | omega | exact Nat.le_refl _⟩, ⟨by (with_reducible repeat (first | apply Kd.N_alloc | apply Kd.N_drewN | apply Kd.N_drew)); exact Kd.N_mono (Kd.N_far (p := ⟨gb260, 1, none⟩) (Kd.N_far (p := ⟨gb260, 0, none⟩) (Kd.N_mono HO_7.out (fun k_ hk => (⟨hk, hk.2⟩ : _ ∧ k_ ≠ gb260))) (fun _ hk => hk.2) (.int .i64 t258)) (fun _ hk => hk.2) (.int .i64 t259)) (fun _ hk => ⟨hk.1.1.2, ⟨hk.1.1.1.1.1.2.2.1, ⟨hk.1.1.1.1.1.2.2.2.1, ⟨hk.1.1.1.1.1.2.2.2.2, ⟨hk.1.1.1.2, hk.1.2⟩⟩⟩⟩⟩)⟩, ⟨by (with_reducible repeat (first | apply Kd.R_alloc | apply Kd.R_drewN | apply Kd.R_drew)); exact Kd.R_mono (Kd.R_far (p := ⟨gb260, 1, none⟩) (Kd.R_far (p := ⟨gb260, 0, none⟩) (Kd.R_types HO257.out BK260.out (by decide)) (fun _ hk => hk.2) (.int .i64 t258)) (fun _ hk => hk.2) (.int .i64 t259)) (fun _ hk => trivial)⟩, ⟨by (with_reducible repeat (first | refine blk_drewN ?_ _ | refine blk_drew ?_ | refine blk_alloc ?_ _)); refine blk_far ?_ NB222_260.out _; (with_reducible repeat (first | refine blk_drewN ?_ _ | refine blk_drew ?_ | refine blk_alloc ?_ _)); refine blk_far ?_ NB222_260.out _; (with_reducible repeat (first | refine blk_drewN ?_ _ | refine blk_drew ?_ | refine blk_alloc ?_ _)); exact BK222.out⟩, ⟨by (with_reducible repeat (first | refine blk_drewN ?_ _ | refine blk_drew ?_ | refine blk_alloc ?_ _)); refine blk_far ?_ NB231_260.out _; (with_reducible repeat (first | refine blk_drewN ?_ _ | refine blk_drew ?_ | refine blk_alloc ?_ _)); refine blk_far ?_ NB231_260.out _; (with_reducible repeat (first | refine blk_drewN ?_ _ | refine blk_drew ?_ | refine blk_alloc ?_ _)); exact BK231.out⟩, ⟨by (with_reducible repeat (first | refine blk_drewN ?_ _ | refine blk_drew ?_ | refine blk_alloc ?_ _)); refine blk_far ?_ NB241_260.out _; (with_reducible repeat (first | refine blk_drewN ?_ _ | refine blk_drew ?_ | refine blk_alloc ?_ _)); refine blk_far ?_ NB241_260.out _; (with_reducible repeat (first | refine blk_drewN ?_ _ | refine blk_drew ?_ | refine blk_alloc ?_ _)); exact BK241.out⟩, ⟨by (with_reducible repeat (first | refine blk_drewN ?_ _ | refine blk_drew ?_ | refine blk_alloc ?_ _)); refine blk_far ?_ NB254_260.out _; (with_reducible repeat (first | refine blk_drewN ?_ _ | refine blk_drew ?_ | refine blk_alloc ?_ _)); refine blk_far ?_ NB254_260.out _; (with_reducible repeat (first | refine blk_drewN ?_ _ | refine blk_drew ?_ | refine blk_alloc ?_ _)); exact BK254.out⟩, ⟨by (with_reducible repeat (first | refine blk_drewN ?_ _ | refine blk_drew ?_ | refine blk_alloc ?_ _)); refine blk_put (cs := #[.int .i64 t258, .int .i64 0]) ?_ 1 _ rfl; (with_reducible repeat (first | refine blk_drewN ?_ _ | refine blk_drew ?_ | refine blk_alloc ?_ _)); refine blk_put (cs := #[.int .i64 0, .int .i64 0]) ?_ 0 _ rfl; (with_reducible repeat (first | refine blk_drewN ?_ _ | refine blk_drew ?_ | refine blk_alloc ?_ _)); exact BK260.out⟩, ⟨by repeat (first | (with_reducible first | exact HB.out | apply below_alloc | apply pw_below_drewN | apply below_drew1 | refine below_set ?_ GE222.out | refine below_set ?_ GE231.out | refine below_set ?_ GE241.out | refine below_set ?_ GE254.out | refine below_set ?_ GE260.out) | exact HB.out)⟩⟩
                          · replace c92 := Bool.eq_false_iff.mpr c92
                            subst c92
                            have H1 : (changeforgetop_TopBuildStepsAreOrdered.j3 k3 t236 t255 true) = some r := by rw [if_neg (show ¬ (false = true) by decide)] at H; exact H
                            clear H
                            have H := H1
                            clear H1
                            have H' := Aside0.mk H
                            clear H
                            have hnb105 := NB254_222.out
                            have hnc105 := NB222_254.out
                            have hnb106 := NB254_231.out
                            have hnc106 := NB231_254.out
                            have hnb107 := NB254_241.out
                            have hnc107 := NB241_254.out
                            have hnb108 := NB254_260.out
                            have hnc108 := NB260_254.out
                            have hcz109_0 : w83.cell? ⟨gb254, 0, none⟩ = some (.int .i64 t252) := (blk_cell BK254.out 0).trans rfl
                            have hcz109_1 : w83.cell? ⟨gb254, 1, none⟩ = some (.int .i64 t253) := (blk_cell BK254.out 1).trans rfl
                            have hfz109_0 := blk_frozen BK254.out 0
                            have hfz109_1 := blk_frozen BK254.out 1
                            have hnb110 := NB260_222.out
                            have hnc110 := NB222_260.out
                            have hnb111 := NB260_231.out
                            have hnc111 := NB231_260.out
                            have hnb112 := NB260_241.out
                            have hnc112 := NB241_260.out
                            have hcz113_0 : w83.cell? ⟨gb260, 0, none⟩ = some (.int .i64 0) := (blk_cell BK260.out 0).trans rfl
                            have hcz113_1 : w83.cell? ⟨gb260, 1, none⟩ = some (.int .i64 0) := (blk_cell BK260.out 1).trans rfl
                            have hfz113_0 := blk_frozen BK260.out 0
                            have hfz113_1 := blk_frozen BK260.out 1
                            obtain ⟨Ao114, co114, eo114⟩ := Kd.R_slice HO251.out
                            subst eo114
                            obtain ⟨Ao115, co115, eo115⟩ := Kd.R_slice HO_10.out
                            subst eo115
                            go_wp2_with (first | (go_at_call 6; (with_reducible refine (changeforgeref5_Ints.calls k3 _ _ t249 _ _ x10_3 false _ ?side1 ?side2 ?side3 ?side4 A91.out).mono ?_); (case side1 => refine (Kd.R_reads' (e := 3) (base := w.heap.size) (ok := fun k_ => ((True ∧ some k_ ≠ (.slice Ao115 x10_3.length co115 : Value).ownBlock) ∧ some k_ ≠ (v256 : Value).ownBlock)) (n := t249.length) (c := co114) ?_).2.2; exact (by (with_reducible repeat (first | apply Kd.R_alloc | apply Kd.R_drewN | apply Kd.R_drew)); exact (Kd.R_mono (Kd.R_far (p := ⟨gb260, 1, none⟩) (Kd.R_far (p := ⟨gb260, 0, none⟩) (Kd.R_types HO251.out BK260.out (by decide)) (fun _ hk => hk.2) (.int .i64 t258)) (fun _ hk => hk.2) (.int .i64 t259)) (fun _ h_ => h_.1)))); (case side2 => exact (Kd.R_reads' HO251.out).2.1); (case side3 => refine (Kd.R_reads' (e := 3) (base := w.heap.size) (ok := fun k_ => ((True ∧ some k_ ≠ (.slice Ao114 t249.length co114 : Value).ownBlock) ∧ some k_ ≠ (v256 : Value).ownBlock)) (n := x10_3.length) (c := co115) ?_).2.2; exact (by (with_reducible repeat (first | apply Kd.R_alloc | apply Kd.R_drewN | apply Kd.R_drew)); exact (Kd.R_mono (Kd.R_far (p := ⟨gb260, 1, none⟩) (Kd.R_far (p := ⟨gb260, 0, none⟩) (Kd.R_types HO_10.out BK260.out (by decide)) (fun _ hk => hk.2) (.int .i64 t258)) (fun _ hk => hk.2) (.int .i64 t259)) (fun _ h_ => h_.1)))); (case side4 => exact (Kd.R_reads' HO_10.out).2.1); rintro e w' ⟨rfl, ⟨nd, rfl⟩⟩))
                            go_meet
                            case rel => exact ⟨_, (true), (by first | rfl | (simp; done) | (simp [*]; done)), H', ⟨by have := HJ3.out; have := HJ40.out; have := HK3.out; first | omega | exact Nat.le_refl _⟩, ⟨by (with_reducible repeat (first | apply Kd.N_alloc | apply Kd.N_drewN | apply Kd.N_drew)); exact Kd.N_mono (Kd.N_far (p := ⟨gb260, 1, none⟩) (Kd.N_far (p := ⟨gb260, 0, none⟩) (Kd.N_mono HO_7.out (fun k_ hk => (⟨hk, hk.2⟩ : _ ∧ k_ ≠ gb260))) (fun _ hk => hk.2) (.int .i64 t258)) (fun _ hk => hk.2) (.int .i64 t259)) (fun _ hk => ⟨hk.1.1.2, ⟨hk.1.1.1.1.1.2.2.1, ⟨hk.1.1.1.1.1.2.2.2.1, ⟨hk.1.1.1.1.1.2.2.2.2, ⟨hk.1.1.1.2, hk.1.2⟩⟩⟩⟩⟩)⟩, ⟨by (with_reducible repeat (first | apply Kd.R_alloc | apply Kd.R_drewN | apply Kd.R_drew)); exact Kd.R_mono (Kd.R_far (p := ⟨gb260, 1, none⟩) (Kd.R_far (p := ⟨gb260, 0, none⟩) (Kd.R_types HO257.out BK260.out (by decide)) (fun _ hk => hk.2) (.int .i64 t258)) (fun _ hk => hk.2) (.int .i64 t259)) (fun _ hk => trivial)⟩, ⟨by (with_reducible repeat (first | refine blk_drewN ?_ _ | refine blk_drew ?_ | refine blk_alloc ?_ _)); refine blk_far ?_ NB222_260.out _; (with_reducible repeat (first | refine blk_drewN ?_ _ | refine blk_drew ?_ | refine blk_alloc ?_ _)); refine blk_far ?_ NB222_260.out _; (with_reducible repeat (first | refine blk_drewN ?_ _ | refine blk_drew ?_ | refine blk_alloc ?_ _)); exact BK222.out⟩, ⟨by (with_reducible repeat (first | refine blk_drewN ?_ _ | refine blk_drew ?_ | refine blk_alloc ?_ _)); refine blk_far ?_ NB231_260.out _; (with_reducible repeat (first | refine blk_drewN ?_ _ | refine blk_drew ?_ | refine blk_alloc ?_ _)); refine blk_far ?_ NB231_260.out _; (with_reducible repeat (first | refine blk_drewN ?_ _ | refine blk_drew ?_ | refine blk_alloc ?_ _)); exact BK231.out⟩, ⟨by (with_reducible repeat (first | refine blk_drewN ?_ _ | refine blk_drew ?_ | refine blk_alloc ?_ _)); refine blk_far ?_ NB241_260.out _; (with_reducible repeat (first | refine blk_drewN ?_ _ | refine blk_drew ?_ | refine blk_alloc ?_ _)); refine blk_far ?_ NB241_260.out _; (with_reducible repeat (first | refine blk_drewN ?_ _ | refine blk_drew ?_ | refine blk_alloc ?_ _)); exact BK241.out⟩, ⟨by (with_reducible repeat (first | refine blk_drewN ?_ _ | refine blk_drew ?_ | refine blk_alloc ?_ _)); refine blk_far ?_ NB254_260.out _; (with_reducible repeat (first | refine blk_drewN ?_ _ | refine blk_drew ?_ | refine blk_alloc ?_ _)); refine blk_far ?_ NB254_260.out _; (with_reducible repeat (first | refine blk_drewN ?_ _ | refine blk_drew ?_ | refine blk_alloc ?_ _)); exact BK254.out⟩, ⟨by (with_reducible repeat (first | refine blk_drewN ?_ _ | refine blk_drew ?_ | refine blk_alloc ?_ _)); refine blk_put (cs := #[.int .i64 t258, .int .i64 0]) ?_ 1 _ rfl; (with_reducible repeat (first | refine blk_drewN ?_ _ | refine blk_drew ?_ | refine blk_alloc ?_ _)); refine blk_put (cs := #[.int .i64 0, .int .i64 0]) ?_ 0 _ rfl; (with_reducible repeat (first | refine blk_drewN ?_ _ | refine blk_drew ?_ | refine blk_alloc ?_ _)); exact BK260.out⟩, ⟨by repeat (first | (with_reducible first | exact HB.out | apply below_alloc | apply pw_below_drewN | apply below_drew1 | refine below_set ?_ GE222.out | refine below_set ?_ GE231.out | refine below_set ?_ GE241.out | refine below_set ?_ GE254.out | refine below_set ?_ GE260.out) | exact HB.out)⟩⟩
                        · rw [if_neg c90] at H
                          have c90b0 : (t258 == 0) = false := beq_eq_false_iff_ne.mpr c90
                          have c90b1 : (t258 != 0) = true := bne_iff_ne.mpr c90
                          have H' := Aside0.mk H
                          clear H
                          have hnb116 := NB254_222.out
                          have hnc116 := NB222_254.out
                          have hnb117 := NB254_231.out
                          have hnc117 := NB231_254.out
                          have hnb118 := NB254_241.out
                          have hnc118 := NB241_254.out
                          have hnb119 := NB254_260.out
                          have hnc119 := NB260_254.out
                          have hcz120_0 : w83.cell? ⟨gb254, 0, none⟩ = some (.int .i64 t252) := (blk_cell BK254.out 0).trans rfl
                          have hcz120_1 : w83.cell? ⟨gb254, 1, none⟩ = some (.int .i64 t253) := (blk_cell BK254.out 1).trans rfl
                          have hfz120_0 := blk_frozen BK254.out 0
                          have hfz120_1 := blk_frozen BK254.out 1
                          have hnb121 := NB260_222.out
                          have hnc121 := NB222_260.out
                          have hnb122 := NB260_231.out
                          have hnc122 := NB231_260.out
                          have hnb123 := NB260_241.out
                          have hnc123 := NB241_260.out
                          have hcz124_0 : w83.cell? ⟨gb260, 0, none⟩ = some (.int .i64 0) := (blk_cell BK260.out 0).trans rfl
                          have hcz124_1 : w83.cell? ⟨gb260, 1, none⟩ = some (.int .i64 0) := (blk_cell BK260.out 1).trans rfl
                          have hfz124_0 := blk_frozen BK260.out 0
                          have hfz124_1 := blk_frozen BK260.out 1
                          go_wp2
                          go_meet
                          case rel => exact ⟨_, (true), (by first | rfl | (simp; done) | (simp [*]; done)), H', ⟨by have := HJ3.out; have := HJ40.out; have := HK3.out; first | omega | exact Nat.le_refl _⟩, ⟨by (with_reducible repeat (first | apply Kd.N_alloc | apply Kd.N_drewN | apply Kd.N_drew)); exact Kd.N_mono (Kd.N_far (p := ⟨gb260, 1, none⟩) (Kd.N_far (p := ⟨gb260, 0, none⟩) (Kd.N_mono HO_7.out (fun k_ hk => (⟨hk, hk.2⟩ : _ ∧ k_ ≠ gb260))) (fun _ hk => hk.2) (.int .i64 t258)) (fun _ hk => hk.2) (.int .i64 t259)) (fun _ hk => ⟨hk.1.1.2, ⟨hk.1.1.1.1.1.2.2.1, ⟨hk.1.1.1.1.1.2.2.2.1, ⟨hk.1.1.1.1.1.2.2.2.2, ⟨hk.1.1.1.2, hk.1.2⟩⟩⟩⟩⟩)⟩, ⟨by (with_reducible repeat (first | apply Kd.R_alloc | apply Kd.R_drewN | apply Kd.R_drew)); exact Kd.R_mono (Kd.R_far (p := ⟨gb260, 1, none⟩) (Kd.R_far (p := ⟨gb260, 0, none⟩) (Kd.R_types HO257.out BK260.out (by decide)) (fun _ hk => hk.2) (.int .i64 t258)) (fun _ hk => hk.2) (.int .i64 t259)) (fun _ hk => trivial)⟩, ⟨by (with_reducible repeat (first | refine blk_drewN ?_ _ | refine blk_drew ?_ | refine blk_alloc ?_ _)); refine blk_far ?_ NB222_260.out _; (with_reducible repeat (first | refine blk_drewN ?_ _ | refine blk_drew ?_ | refine blk_alloc ?_ _)); refine blk_far ?_ NB222_260.out _; (with_reducible repeat (first | refine blk_drewN ?_ _ | refine blk_drew ?_ | refine blk_alloc ?_ _)); exact BK222.out⟩, ⟨by (with_reducible repeat (first | refine blk_drewN ?_ _ | refine blk_drew ?_ | refine blk_alloc ?_ _)); refine blk_far ?_ NB231_260.out _; (with_reducible repeat (first | refine blk_drewN ?_ _ | refine blk_drew ?_ | refine blk_alloc ?_ _)); refine blk_far ?_ NB231_260.out _; (with_reducible repeat (first | refine blk_drewN ?_ _ | refine blk_drew ?_ | refine blk_alloc ?_ _)); exact BK231.out⟩, ⟨by (with_reducible repeat (first | refine blk_drewN ?_ _ | refine blk_drew ?_ | refine blk_alloc ?_ _)); refine blk_far ?_ NB241_260.out _; (with_reducible repeat (first | refine blk_drewN ?_ _ | refine blk_drew ?_ | refine blk_alloc ?_ _)); refine blk_far ?_ NB241_260.out _; (with_reducible repeat (first | refine blk_drewN ?_ _ | refine blk_drew ?_ | refine blk_alloc ?_ _)); exact BK241.out⟩, ⟨by (with_reducible repeat (first | refine blk_drewN ?_ _ | refine blk_drew ?_ | refine blk_alloc ?_ _)); refine blk_far ?_ NB254_260.out _; (with_reducible repeat (first | refine blk_drewN ?_ _ | refine blk_drew ?_ | refine blk_alloc ?_ _)); refine blk_far ?_ NB254_260.out _; (with_reducible repeat (first | refine blk_drewN ?_ _ | refine blk_drew ?_ | refine blk_alloc ?_ _)); exact BK254.out⟩, ⟨by (with_reducible repeat (first | refine blk_drewN ?_ _ | refine blk_drew ?_ | refine blk_alloc ?_ _)); refine blk_put (cs := #[.int .i64 t258, .int .i64 0]) ?_ 1 _ rfl; (with_reducible repeat (first | refine blk_drewN ?_ _ | refine blk_drew ?_ | refine blk_alloc ?_ _)); refine blk_put (cs := #[.int .i64 0, .int .i64 0]) ?_ 0 _ rfl; (with_reducible repeat (first | refine blk_drewN ?_ _ | refine blk_drew ?_ | refine blk_alloc ?_ _)); exact BK260.out⟩, ⟨by repeat (first | (with_reducible first | exact HB.out | apply below_alloc | apply pw_below_drewN | apply below_drew1 | refine below_set ?_ GE222.out | refine below_set ?_ GE231.out | refine below_set ?_ GE241.out | refine below_set ?_ GE254.out | refine below_set ?_ GE260.out) | exact HB.out)⟩⟩
                      · rw [if_neg c89] at H
                        have c89b0 : (t252 == 0) = false := beq_eq_false_iff_ne.mpr c89
                        have c89b1 : (t252 != 0) = true := bne_iff_ne.mpr c89
                        (first | rw [c89b0] | (simp only [i64_w, i32_w]; rw [c89b0]) | skip)
                        have H' := Aside0.mk H
                        clear H
                        have hnb125 := NB254_222.out
                        have hnc125 := NB222_254.out
                        have hnb126 := NB254_231.out
                        have hnc126 := NB231_254.out
                        have hnb127 := NB254_241.out
                        have hnc127 := NB241_254.out
                        have hnb128 := NB254_260.out
                        have hnc128 := NB260_254.out
                        have hcz129_0 : w83.cell? ⟨gb254, 0, none⟩ = some (.int .i64 t252) := (blk_cell BK254.out 0).trans rfl
                        have hcz129_1 : w83.cell? ⟨gb254, 1, none⟩ = some (.int .i64 t253) := (blk_cell BK254.out 1).trans rfl
                        have hfz129_0 := blk_frozen BK254.out 0
                        have hfz129_1 := blk_frozen BK254.out 1
                        go_wp2
                        go_meet
                        case rel => exact ⟨_, (true), (by first | rfl | (simp; done) | (simp [*]; done)), H', ⟨by have := HJ3.out; have := HJ40.out; have := HK3.out; first | omega | exact Nat.le_refl _⟩, ⟨by (with_reducible repeat (first | apply Kd.N_alloc | apply Kd.N_drewN | apply Kd.N_drew)); exact Kd.N_mono (Kd.N_far (p := ⟨gb260, 1, none⟩) (Kd.N_far (p := ⟨gb260, 0, none⟩) (Kd.N_mono HO_7.out (fun k_ hk => (⟨hk, hk.2⟩ : _ ∧ k_ ≠ gb260))) (fun _ hk => hk.2) (.int .i64 t258)) (fun _ hk => hk.2) (.int .i64 t259)) (fun _ hk => ⟨hk.1.1.2, ⟨hk.1.1.1.1.1.2.2.1, ⟨hk.1.1.1.1.1.2.2.2.1, ⟨hk.1.1.1.1.1.2.2.2.2, ⟨hk.1.1.1.2, hk.1.2⟩⟩⟩⟩⟩)⟩, ⟨by (with_reducible repeat (first | apply Kd.R_alloc | apply Kd.R_drewN | apply Kd.R_drew)); exact Kd.R_mono (Kd.R_far (p := ⟨gb260, 1, none⟩) (Kd.R_far (p := ⟨gb260, 0, none⟩) (Kd.R_types HO257.out BK260.out (by decide)) (fun _ hk => hk.2) (.int .i64 t258)) (fun _ hk => hk.2) (.int .i64 t259)) (fun _ hk => trivial)⟩, ⟨by (with_reducible repeat (first | refine blk_drewN ?_ _ | refine blk_drew ?_ | refine blk_alloc ?_ _)); refine blk_far ?_ NB222_260.out _; (with_reducible repeat (first | refine blk_drewN ?_ _ | refine blk_drew ?_ | refine blk_alloc ?_ _)); refine blk_far ?_ NB222_260.out _; (with_reducible repeat (first | refine blk_drewN ?_ _ | refine blk_drew ?_ | refine blk_alloc ?_ _)); exact BK222.out⟩, ⟨by (with_reducible repeat (first | refine blk_drewN ?_ _ | refine blk_drew ?_ | refine blk_alloc ?_ _)); refine blk_far ?_ NB231_260.out _; (with_reducible repeat (first | refine blk_drewN ?_ _ | refine blk_drew ?_ | refine blk_alloc ?_ _)); refine blk_far ?_ NB231_260.out _; (with_reducible repeat (first | refine blk_drewN ?_ _ | refine blk_drew ?_ | refine blk_alloc ?_ _)); exact BK231.out⟩, ⟨by (with_reducible repeat (first | refine blk_drewN ?_ _ | refine blk_drew ?_ | refine blk_alloc ?_ _)); refine blk_far ?_ NB241_260.out _; (with_reducible repeat (first | refine blk_drewN ?_ _ | refine blk_drew ?_ | refine blk_alloc ?_ _)); refine blk_far ?_ NB241_260.out _; (with_reducible repeat (first | refine blk_drewN ?_ _ | refine blk_drew ?_ | refine blk_alloc ?_ _)); exact BK241.out⟩, ⟨by (with_reducible repeat (first | refine blk_drewN ?_ _ | refine blk_drew ?_ | refine blk_alloc ?_ _)); refine blk_far ?_ NB254_260.out _; (with_reducible repeat (first | refine blk_drewN ?_ _ | refine blk_drew ?_ | refine blk_alloc ?_ _)); refine blk_far ?_ NB254_260.out _; (with_reducible repeat (first | refine blk_drewN ?_ _ | refine blk_drew ?_ | refine blk_alloc ?_ _)); exact BK254.out⟩, ⟨by (with_reducible repeat (first | refine blk_drewN ?_ _ | refine blk_drew ?_ | refine blk_alloc ?_ _)); refine blk_put (cs := #[.int .i64 t258, .int .i64 0]) ?_ 1 _ rfl; (with_reducible repeat (first | refine blk_drewN ?_ _ | refine blk_drew ?_ | refine blk_alloc ?_ _)); refine blk_put (cs := #[.int .i64 0, .int .i64 0]) ?_ 0 _ rfl; (with_reducible repeat (first | refine blk_drewN ?_ _ | refine blk_drew ?_ | refine blk_alloc ?_ _)); exact BK260.out⟩, ⟨by repeat (first | (with_reducible first | exact HB.out | apply below_alloc | apply pw_below_drewN | apply below_drew1 | refine below_set ?_ GE222.out | refine below_set ?_ GE231.out | refine below_set ?_ GE241.out | refine below_set ?_ GE254.out | refine below_set ?_ GE260.out) | exact HB.out)⟩⟩
                    case rest =>
                      clear HC73
                      try clear c1
                      try clear c2
                      try clear p2
                      try clear q2
                      try clear hx2
                      try clear c3
                      try clear c4
                      try clear c5
                      try clear c6
                      try clear p6
                      try clear c7
                      try clear c8
                      try clear c9
                      try clear c10
                      try clear c11
                      try clear c12
                      try clear c16
                      try clear c18
                      try clear c18b0
                      try clear c18b1
                      try clear c19
                      try clear c19b0
                      try clear c19b1
                      try clear c20
                      try clear c20b0
                      try clear c20b1
                      try clear c22
                      try clear c24
                      try clear p24
                      try clear q24
                      try clear hx24
                      try clear c30
                      try clear c34
                      try clear c37
                      try clear c39
                      try clear c44
                      try clear c45
                      try clear c47
                      try clear c47b0
                      try clear c47b1
                      try clear c48
                      try clear c49
                      try clear c52
                      try clear c53
                      try clear c55
                      try clear c56
                      try clear c56b0
                      try clear c56b1
                      try clear c57
                      try clear c58
                      try clear c60
                      try clear c61
                      try clear c64
                      try clear c64b0
                      try clear p64
                      try clear c65
                      try clear c65b0
                      try clear c66
                      try clear c67
                      try clear c78
                      try clear c79
                      try clear c80
                      try clear c84
                      try clear c85
                      try clear c86
                      try clear c87
                      try clear c89
                      try clear c89b0
                      try clear c89b1
                      try clear c90
                      try clear c90b0
                      try clear c90b1
                      try clear c92
                      try clear c93
                      try clear c94
                      try clear c95
                      try clear c96
                      try clear c98
                      try clear c99
                      try clear c100
                      try clear c105
                      try clear c106
                      try clear c107
                      try clear c108
                      try clear c110
                      try clear c111
                      try clear c112
                      try clear c116
                      try clear c117
                      try clear c118
                      try clear c119
                      try clear c121
                      try clear c122
                      try clear c123
                      try clear c125
                      try clear c126
                      try clear c127
                      try clear c128
                      try clear hcz101_0
                      try clear hcz101_1
                      try clear hcz109_0
                      try clear hcz109_1
                      try clear hcz10_0
                      try clear hcz10_1
                      try clear hcz113_0
                      try clear hcz113_1
                      try clear hcz120_0
                      try clear hcz120_1
                      try clear hcz124_0
                      try clear hcz124_1
                      try clear hcz129_0
                      try clear hcz129_1
                      try clear hcz17_0
                      try clear hcz17_1
                      try clear hcz23_0
                      try clear hcz23_1
                      try clear hcz24_0
                      try clear hcz24_1
                      try clear hcz31_0
                      try clear hcz31_1
                      try clear hcz32_0
                      try clear hcz32_1
                      try clear hcz35_0
                      try clear hcz35_1
                      try clear hcz36_0
                      try clear hcz36_1
                      try clear hcz38_0
                      try clear hcz38_1
                      try clear hcz46_0
                      try clear hcz46_1
                      try clear hcz50_0
                      try clear hcz50_1
                      try clear hcz54_0
                      try clear hcz54_1
                      try clear hcz59_0
                      try clear hcz59_1
                      try clear hcz62_0
                      try clear hcz62_1
                      try clear hcz81_0
                      try clear hcz81_1
                      try clear hcz88_0
                      try clear hcz88_1
                      try clear hcz97_0
                      try clear hcz97_1
                      try clear hfz101_0
                      try clear hfz101_1
                      try clear hfz109_0
                      try clear hfz109_1
                      try clear hfz10_0
                      try clear hfz10_1
                      try clear hfz113_0
                      try clear hfz113_1
                      try clear hfz120_0
                      try clear hfz120_1
                      try clear hfz124_0
                      try clear hfz124_1
                      try clear hfz129_0
                      try clear hfz129_1
                      try clear hfz17_0
                      try clear hfz17_1
                      try clear hfz23_0
                      try clear hfz23_1
                      try clear hfz24_0
                      try clear hfz24_1
                      try clear hfz31_0
                      try clear hfz31_1
                      try clear hfz32_0
                      try clear hfz32_1
                      try clear hfz35_0
                      try clear hfz35_1
                      try clear hfz36_0
                      try clear hfz36_1
                      try clear hfz38_0
                      try clear hfz38_1
                      try clear hfz46_0
                      try clear hfz46_1
                      try clear hfz50_0
                      try clear hfz50_1
                      try clear hfz54_0
                      try clear hfz54_1
                      try clear hfz59_0
                      try clear hfz59_1
                      try clear hfz62_0
                      try clear hfz62_1
                      try clear hfz81_0
                      try clear hfz81_1
                      try clear hfz88_0
                      try clear hfz88_1
                      try clear hfz97_0
                      try clear hfz97_1
                      try clear hx242_0
                      try clear hx242_1
                      try clear hx242_2
                      try clear p2
                      try clear p242
                      try clear q242
                      obtain ⟨kq, x116_72, rfl, HA, HJ72, HO_7, HO_14, BK222, BK231, BK241, BK254, BK260, HB⟩ := hcut
                      cases kq with
                      | zero => exact absurd HA.out (by simp [changeforgetop_TopBuildStepsAreOrdered.j3])
                      | succ kj72 =>
                        have H := HA.out
                        clear HA
                        simp only [changeforgetop_TopBuildStepsAreOrdered.j3] at H
                        by_cases c130 : x116_72 = true
                        · subst c130
                          have H1 : (some false) = some r := by rw [if_pos rfl] at H; exact H
                          clear H
                          have H := H1
                          clear H1
                          obtain rfl := Option.some.inj H
                          go_wp2
                          go_ret
                          exact ⟨by first | rfl | (simp [errW_none, errW_some] <;> rfl) | (simp [*, errW_none, errW_some] <;> rfl), by repeat (first | (with_reducible first | exact HB.out | apply below_alloc | apply pw_below_drewN | apply below_drew1 | refine below_set ?_ GE222.out | refine below_set ?_ GE231.out | refine below_set ?_ GE241.out | refine below_set ?_ GE254.out | refine below_set ?_ GE260.out) | exact HB.out)⟩
                        · replace c130 := Bool.eq_false_iff.mpr c130
                          subst c130
                          have H1 : (changeforgetop_TopBuildStepsAreOrdered.l1 kj72 t236 t255 0) = some r := by rw [if_neg (show ¬ (false = true) by decide)] at H; exact H
                          clear H
                          have H := H1
                          clear H1
                          have H' := Aside0.mk H
                          clear H
                          go_wp2
                          go_loopg [16] kj72 (fun kq v16 w' => ∃ (x16_5 : Int), v16 = .int .i64 x16_5 ∧ Aside0 (changeforgetop_TopBuildStepsAreOrdered.l1 kq t236 t255 x16_5 = some r) ∧ Aside0 (kq ≤ kj72) ∧ Aside0 (Kd.N k36 36 w' w.heap.size (fun k_ => some k_ ≠ (v256 : Value).ownBlock ∧ k_ ≠ gb222 ∧ k_ ≠ gb231 ∧ k_ ≠ gb241 ∧ k_ ≠ gb254 ∧ k_ ≠ gb260) (.slice Ao74 t236.length co74) t236) ∧ Aside0 (Kd.R (Kd.int .i64) 3 w' w.heap.size (fun _ => True) v256 t255) ∧ Aside0 (w'.heap[gb222]? = some (.cells #[.int .i64 t220, .int .i64 t221] 25 (0, 0))) ∧ Aside0 (w'.heap[gb231]? = some (.cells #[.int .i64 t229, .int .i64 t230] 25 (0, 0))) ∧ Aside0 (w'.heap[gb241]? = some (.cells #[.int .i64 t239, .int .i64 t240] 25 (0, 0))) ∧ Aside0 (w'.heap[gb254]? = some (.cells #[.int .i64 t252, .int .i64 t253] 25 (0, 0))) ∧ Aside0 (w'.heap[gb260]? = some (.cells #[.int .i64 t258, .int .i64 t259] 25 (0, 0))) ∧ Aside0 (Below w.heap.size w w'))
                          case atStart => exact ⟨(0), (by first | rfl | (simp; done) | (simp [*]; done)), H', ⟨Nat.le_refl _⟩, ⟨by (with_reducible repeat (first | apply Kd.N_alloc | apply Kd.N_drewN | apply Kd.N_drew)); exact HO_7.out⟩, ⟨by (with_reducible repeat (first | apply Kd.R_alloc | apply Kd.R_drewN | apply Kd.R_drew)); exact HO_14.out⟩, ⟨by (with_reducible repeat (first | refine blk_drewN ?_ _ | refine blk_drew ?_ | refine blk_alloc ?_ _)); exact BK222.out⟩, ⟨by (with_reducible repeat (first | refine blk_drewN ?_ _ | refine blk_drew ?_ | refine blk_alloc ?_ _)); exact BK231.out⟩, ⟨by (with_reducible repeat (first | refine blk_drewN ?_ _ | refine blk_drew ?_ | refine blk_alloc ?_ _)); exact BK241.out⟩, ⟨by (with_reducible repeat (first | refine blk_drewN ?_ _ | refine blk_drew ?_ | refine blk_alloc ?_ _)); exact BK254.out⟩, ⟨by (with_reducible repeat (first | refine blk_drewN ?_ _ | refine blk_drew ?_ | refine blk_alloc ?_ _)); exact BK260.out⟩, ⟨by repeat (first | (with_reducible first | exact HB.out | apply below_alloc | apply pw_below_drewN | apply below_drew1 | refine below_set ?_ GE222.out | refine below_set ?_ GE231.out | refine below_set ?_ GE241.out | refine below_set ?_ GE254.out | refine below_set ?_ GE260.out) | exact HB.out)⟩⟩
                          case round =>
                            clear H'
                            try clear c1
                            try clear c2
                            try clear p2
                            try clear q2
                            try clear hx2
                            try clear c3
                            try clear c4
                            try clear c5
                            try clear c6
                            try clear p6
                            try clear c7
                            try clear c8
                            try clear c9
                            try clear c10
                            try clear c11
                            try clear c12
                            try clear c13
                            try clear c16
                            try clear c18
                            try clear c18b0
                            try clear c18b1
                            try clear c19
                            try clear c19b0
                            try clear c19b1
                            try clear c20
                            try clear c20b0
                            try clear c20b1
                            try clear c22
                            try clear c24
                            try clear p24
                            try clear q24
                            try clear hx24
                            try clear c30
                            try clear c34
                            try clear c37
                            try clear c39
                            try clear c44
                            try clear c45
                            try clear c47
                            try clear c47b0
                            try clear c47b1
                            try clear c48
                            try clear c49
                            try clear c52
                            try clear c53
                            try clear c55
                            try clear c56
                            try clear c56b0
                            try clear c56b1
                            try clear c57
                            try clear c58
                            try clear c60
                            try clear c61
                            try clear c64
                            try clear c64b0
                            try clear p64
                            try clear c65
                            try clear c65b0
                            try clear c66
                            try clear c67
                            try clear c78
                            try clear c79
                            try clear c80
                            try clear c84
                            try clear c85
                            try clear c86
                            try clear c87
                            try clear c89
                            try clear c89b0
                            try clear c89b1
                            try clear c90
                            try clear c90b0
                            try clear c90b1
                            try clear c92
                            try clear c93
                            try clear c94
                            try clear c95
                            try clear c96
                            try clear c98
                            try clear c99
                            try clear c100
                            try clear c105
                            try clear c106
                            try clear c107
                            try clear c108
                            try clear c110
                            try clear c111
                            try clear c112
                            try clear c116
                            try clear c117
                            try clear c118
                            try clear c119
                            try clear c121
                            try clear c122
                            try clear c123
                            try clear c125
                            try clear c126
                            try clear c127
                            try clear c128
                            try clear c130
                            try clear hcz101_0
                            try clear hcz101_1
                            try clear hcz109_0
                            try clear hcz109_1
                            try clear hcz10_0
                            try clear hcz10_1
                            try clear hcz113_0
                            try clear hcz113_1
                            try clear hcz120_0
                            try clear hcz120_1
                            try clear hcz124_0
                            try clear hcz124_1
                            try clear hcz129_0
                            try clear hcz129_1
                            try clear hcz17_0
                            try clear hcz17_1
                            try clear hcz23_0
                            try clear hcz23_1
                            try clear hcz24_0
                            try clear hcz24_1
                            try clear hcz31_0
                            try clear hcz31_1
                            try clear hcz32_0
                            try clear hcz32_1
                            try clear hcz35_0
                            try clear hcz35_1
                            try clear hcz36_0
                            try clear hcz36_1
                            try clear hcz38_0
                            try clear hcz38_1
                            try clear hcz46_0
                            try clear hcz46_1
                            try clear hcz50_0
                            try clear hcz50_1
                            try clear hcz54_0
                            try clear hcz54_1
                            try clear hcz59_0
                            try clear hcz59_1
                            try clear hcz62_0
                            try clear hcz62_1
                            try clear hcz81_0
                            try clear hcz81_1
                            try clear hcz88_0
                            try clear hcz88_1
                            try clear hcz97_0
                            try clear hcz97_1
                            try clear hfz101_0
                            try clear hfz101_1
                            try clear hfz109_0
                            try clear hfz109_1
                            try clear hfz10_0
                            try clear hfz10_1
                            try clear hfz113_0
                            try clear hfz113_1
                            try clear hfz120_0
                            try clear hfz120_1
                            try clear hfz124_0
                            try clear hfz124_1
                            try clear hfz129_0
                            try clear hfz129_1
                            try clear hfz17_0
                            try clear hfz17_1
                            try clear hfz23_0
                            try clear hfz23_1
                            try clear hfz24_0
                            try clear hfz24_1
                            try clear hfz31_0
                            try clear hfz31_1
                            try clear hfz32_0
                            try clear hfz32_1
                            try clear hfz35_0
                            try clear hfz35_1
                            try clear hfz36_0
                            try clear hfz36_1
                            try clear hfz38_0
                            try clear hfz38_1
                            try clear hfz46_0
                            try clear hfz46_1
                            try clear hfz50_0
                            try clear hfz50_1
                            try clear hfz54_0
                            try clear hfz54_1
                            try clear hfz59_0
                            try clear hfz59_1
                            try clear hfz62_0
                            try clear hfz62_1
                            try clear hfz81_0
                            try clear hfz81_1
                            try clear hfz88_0
                            try clear hfz88_1
                            try clear hfz97_0
                            try clear hfz97_1
                            try clear hx242_0
                            try clear hx242_1
                            try clear hx242_2
                            try clear p2
                            try clear p24
                            try clear p242
                            try clear p6
                            try clear p64
                            try clear q2
                            try clear q24
                            try clear q242
                            obtain ⟨x16_5, rfl, HA, HK5, HO_7, HO_14, BK222, BK231, BK241, BK254, BK260, HB⟩ := hrel
                            cases gk with
                            | zero => exact absurd HA.out (by simp [changeforgetop_TopBuildStepsAreOrdered.l1])
                            | succ k5 =>
                              have H := HA.out
                              clear HA
                              simp only [changeforgetop_TopBuildStepsAreOrdered.l1] at H
                              by_cases c131 : x16_5 < (t236.length : Int)
                              · rw [if_pos c131] at H
                                have c131b0 : decide (x16_5 < (t236.length : Int)) = true := decide_eq_true c131
                                clear c131
                                by_cases c132 : 0 ≤ x16_5
                                · rw [if_pos c132] at H
                                  have c132b0 : decide (0 ≤ x16_5) = true := decide_eq_true c132
                                  clear c132
                                  by_cases c133 : ((rd_T36 t236 x16_5).f1) = 1
                                  · rw [if_pos c133] at H
                                    have c133b0 : (((rd_T36 t236 x16_5).f1) == 1) = true := beq_iff_eq.mpr c133
                                    have c133b1 : (((rd_T36 t236 x16_5).f1) != 1) = false := bne_eq_false_iff_eq.mpr c133
                                    clear c133
                                    by_cases c134 : x16_5 < (t255.length : Int)
                                    · rw [if_pos c134] at H
                                      have c134b0 : decide (x16_5 < (t255.length : Int)) = true := decide_eq_true c134
                                      clear c134
                                      by_cases c135 : (rd t255 x16_5) = 0
                                      · rw [if_pos c135] at H
                                        have c135b0 : ((rd t255 x16_5) == 0) = true := beq_iff_eq.mpr c135
                                        have c135b1 : ((rd t255 x16_5) != 0) = false := bne_eq_false_iff_eq.mpr c135
                                        clear c135
                                        have H' := Aside0.mk H
                                        clear H
                                        have p262 : 0 ≤ (x16_5 : Int) := of_decide_eq_true (by first | (with_reducible assumption) | assumption)
                                        have q262 : x16_5 < (t236.length : Int) := of_decide_eq_true (by first | (with_reducible assumption) | assumption)
                                        obtain ⟨ad262, A262_2, c262_2, e262, hx262_0, hx262_1, hx262_2, hl262_2, hi262_2⟩ := at_T36 (Kd.N_reads' HO_7.out).2.2 x16_5 p262 q262
                                        cases e262
                                        obtain ⟨ce262, hce262, hMe262, hcc262⟩ := Kd.N_get HO_7.out z36 x16_5 p262 (by first | exact q262 | exact of_decide_eq_true (by first | (with_reducible assumption) | assumption) | (have e_ := (Kd.N_reads' HO_7.out).1; omega))
                                        obtain ⟨ua262_2, uc262_2, rfl, ul262_2, ge262_2⟩ := k36_openF hMe262
                                        have hv262_2 := hcc262 2 _ rfl
                                        rw [add_field _ _ 2 (by omega)] at hv262_2
                                        replace hv262_2 := Option.some.inj (hv262_2.symm.trans hx262_2)
                                        injection hv262_2 with hva_ hvn_ hvc_
                                        rw [hva_] at ge262_2
                                        rw [hvc_] at ul262_2
                                        have HL262_2 := Aside0.mk (show Kd.V (Kd.int .i64) 3 _ w.heap.size _ _ ((rd_T36 t236 x16_5).f2) from Kd.V_mk ul262_2 ge262_2)
                                        clear hva_ hvn_ hvc_ ge262_2 ul262_2
                                        clear hcc262 hce262
                                        have HR262_2 := Aside0.mk hi262_2
                                        have HC262_2 := Aside0.mk hl262_2
                                        clear hi262_2 hl262_2
                                        replace p262 := eq_true p262
                                        replace q262 := eq_true q262
                                        obtain ⟨Ao136, co136, eo136⟩ := Kd.R_slice HO_14.out
                                        subst eo136
                                        have p263 : 0 ≤ (x16_5 : Int) := of_decide_eq_true (by first | (with_reducible assumption) | assumption)
                                        have q263 : x16_5 < (t255.length : Int) := of_decide_eq_true (by first | (with_reducible assumption) | assumption)
                                        obtain ⟨ad263, e263, hx263_0⟩ := Kd.at_int (Kd.R_reads' HO_14.out).2.2 x16_5 p263 q263
                                        cases e263
                                        replace p263 := eq_true p263
                                        replace q263 := eq_true q263
                                        have p264 : 0 ≤ (x16_5 : Int) := of_decide_eq_true (by first | (with_reducible assumption) | assumption)
                                        have q264 : x16_5 < (t236.length : Int) := of_decide_eq_true (by first | (with_reducible assumption) | assumption)
                                        obtain ⟨ad264, A264_2, c264_2, e264, hx264_0, hx264_1, hx264_2, hl264_2, hi264_2⟩ := at_T36 (Kd.N_reads' HO_7.out).2.2 x16_5 p264 q264
                                        obtain rfl : ad262 = ad264 := (by injection e264)
                                        obtain ⟨ce264, hce264, hMe264, hcc264⟩ := Kd.N_get HO_7.out z36 x16_5 p264 (by first | exact q264 | exact of_decide_eq_true (by first | (with_reducible assumption) | assumption) | (have e_ := (Kd.N_reads' HO_7.out).1; omega))
                                        obtain ⟨ua264_2, uc264_2, rfl, ul264_2, ge264_2⟩ := k36_openF hMe264
                                        have hv264_2 := hcc264 2 _ rfl
                                        rw [add_field _ _ 2 (by omega)] at hv264_2
                                        replace hv264_2 := Option.some.inj (hv264_2.symm.trans hx264_2)
                                        injection hv264_2 with hva_ hvn_ hvc_
                                        rw [hva_] at ge264_2
                                        rw [hvc_] at ul264_2
                                        have HL264_2 := Aside0.mk (show Kd.V (Kd.int .i64) 3 _ w.heap.size _ _ ((rd_T36 t236 x16_5).f2) from Kd.V_mk ul264_2 ge264_2)
                                        clear hva_ hvn_ hvc_ ge264_2 ul264_2
                                        clear hcc264 hce264
                                        have HR264_2 := Aside0.mk hi264_2
                                        have HC264_2 := Aside0.mk hl264_2
                                        clear hi264_2 hl264_2
                                        replace p264 := eq_true p264
                                        replace q264 := eq_true q264
                                        have ea_ := Option.some.inj (hx262_2.symm.trans hx264_2)
                                        injection ea_ with ea_ en_ ec_
                                        subst ea_
                                        subst ec_
                                        clear en_
                                        go_wp2
                                        go_roundg k5
                                        case measure => have := HJ3.out; have := HJ40.out; have := HK3.out; have := HJ72.out; have := HK5.out; omega
                                        case rel => exact ⟨(wrap64 (x16_5 + 1)), (by first | rfl | (simp; done) | (simp [*]; done)), H', ⟨by have := HJ3.out; have := HJ40.out; have := HK3.out; have := HJ72.out; have := HK5.out; omega⟩, ⟨by (with_reducible repeat (first | apply Kd.N_alloc | apply Kd.N_drewN | apply Kd.N_drew)); exact HO_7.out⟩, ⟨by (with_reducible repeat (first | apply Kd.R_alloc | apply Kd.R_drewN | apply Kd.R_drew)); exact HO_14.out⟩, ⟨by (with_reducible repeat (first | refine blk_drewN ?_ _ | refine blk_drew ?_ | refine blk_alloc ?_ _)); exact BK222.out⟩, ⟨by (with_reducible repeat (first | refine blk_drewN ?_ _ | refine blk_drew ?_ | refine blk_alloc ?_ _)); exact BK231.out⟩, ⟨by (with_reducible repeat (first | refine blk_drewN ?_ _ | refine blk_drew ?_ | refine blk_alloc ?_ _)); exact BK241.out⟩, ⟨by (with_reducible repeat (first | refine blk_drewN ?_ _ | refine blk_drew ?_ | refine blk_alloc ?_ _)); exact BK254.out⟩, ⟨by (with_reducible repeat (first | refine blk_drewN ?_ _ | refine blk_drew ?_ | refine blk_alloc ?_ _)); exact BK260.out⟩, ⟨by repeat (first | (with_reducible first | exact HB.out | apply below_alloc | apply pw_below_drewN | apply below_drew1 | refine below_set ?_ GE222.out | refine below_set ?_ GE231.out | refine below_set ?_ GE241.out | refine below_set ?_ GE254.out | refine below_set ?_ GE260.out) | exact HB.out)⟩⟩
                                      · rw [if_neg c135] at H
                                        have c135b0 : ((rd t255 x16_5) == 0) = false := beq_eq_false_iff_ne.mpr c135
                                        have c135b1 : ((rd t255 x16_5) != 0) = true := bne_iff_ne.mpr c135
                                        obtain rfl := Option.some.inj H
                                        have p262 : 0 ≤ (x16_5 : Int) := of_decide_eq_true (by first | (with_reducible assumption) | assumption)
                                        have q262 : x16_5 < (t236.length : Int) := of_decide_eq_true (by first | (with_reducible assumption) | assumption)
                                        obtain ⟨ad262, A262_2, c262_2, e262, hx262_0, hx262_1, hx262_2, hl262_2, hi262_2⟩ := at_T36 (Kd.N_reads' HO_7.out).2.2 x16_5 p262 q262
                                        cases e262
                                        obtain ⟨ce262, hce262, hMe262, hcc262⟩ := Kd.N_get HO_7.out z36 x16_5 p262 (by first | exact q262 | exact of_decide_eq_true (by first | (with_reducible assumption) | assumption) | (have e_ := (Kd.N_reads' HO_7.out).1; omega))
                                        obtain ⟨ua262_2, uc262_2, rfl, ul262_2, ge262_2⟩ := k36_openF hMe262
                                        have hv262_2 := hcc262 2 _ rfl
                                        rw [add_field _ _ 2 (by omega)] at hv262_2
                                        replace hv262_2 := Option.some.inj (hv262_2.symm.trans hx262_2)
                                        injection hv262_2 with hva_ hvn_ hvc_
                                        rw [hva_] at ge262_2
                                        rw [hvc_] at ul262_2
                                        have HL262_2 := Aside0.mk (show Kd.V (Kd.int .i64) 3 _ w.heap.size _ _ ((rd_T36 t236 x16_5).f2) from Kd.V_mk ul262_2 ge262_2)
                                        clear hva_ hvn_ hvc_ ge262_2 ul262_2
                                        clear hcc262 hce262
                                        have HR262_2 := Aside0.mk hi262_2
                                        have HC262_2 := Aside0.mk hl262_2
                                        clear hi262_2 hl262_2
                                        replace p262 := eq_true p262
                                        replace q262 := eq_true q262
                                        obtain ⟨Ao137, co137, eo137⟩ := Kd.R_slice HO_14.out
                                        subst eo137
                                        have p263 : 0 ≤ (x16_5 : Int) := of_decide_eq_true (by first | (with_reducible assumption) | assumption)
                                        have q263 : x16_5 < (t255.length : Int) := of_decide_eq_true (by first | (with_reducible assumption) | assumption)
                                        obtain ⟨ad263, e263, hx263_0⟩ := Kd.at_int (Kd.R_reads' HO_14.out).2.2 x16_5 p263 q263
                                        cases e263
                                        replace p263 := eq_true p263
                                        replace q263 := eq_true q263
                                        go_wp2
                                        go_ret
                                        exact ⟨by first | rfl | (simp [errW_none, errW_some] <;> rfl) | (simp [*, errW_none, errW_some] <;> rfl), by repeat (first | (with_reducible first | exact HB.out | apply below_alloc | apply pw_below_drewN | apply below_drew1 | refine below_set ?_ GE222.out | refine below_set ?_ GE231.out | refine below_set ?_ GE241.out | refine below_set ?_ GE254.out | refine below_set ?_ GE260.out) | exact HB.out)⟩
                                    · rw [if_neg c134] at H
                                      exact absurd H (by simp)
                                  · rw [if_neg c133] at H
                                    have c133b0 : (((rd_T36 t236 x16_5).f1) == 1) = false := beq_eq_false_iff_ne.mpr c133
                                    have c133b1 : (((rd_T36 t236 x16_5).f1) != 1) = true := bne_iff_ne.mpr c133
                                    by_cases c138 : x16_5 < (t255.length : Int)
                                    · rw [if_pos c138] at H
                                      have c138b0 : decide (x16_5 < (t255.length : Int)) = true := decide_eq_true c138
                                      clear c138
                                      by_cases c139 : (rd t255 x16_5) < 1
                                      · rw [if_pos c139] at H
                                        have c139b0 : decide ((rd t255 x16_5) < 1) = true := decide_eq_true c139
                                        clear c139
                                        obtain rfl := Option.some.inj H
                                        have p262 : 0 ≤ (x16_5 : Int) := of_decide_eq_true (by first | (with_reducible assumption) | assumption)
                                        have q262 : x16_5 < (t236.length : Int) := of_decide_eq_true (by first | (with_reducible assumption) | assumption)
                                        obtain ⟨ad262, A262_2, c262_2, e262, hx262_0, hx262_1, hx262_2, hl262_2, hi262_2⟩ := at_T36 (Kd.N_reads' HO_7.out).2.2 x16_5 p262 q262
                                        cases e262
                                        obtain ⟨ce262, hce262, hMe262, hcc262⟩ := Kd.N_get HO_7.out z36 x16_5 p262 (by first | exact q262 | exact of_decide_eq_true (by first | (with_reducible assumption) | assumption) | (have e_ := (Kd.N_reads' HO_7.out).1; omega))
                                        obtain ⟨ua262_2, uc262_2, rfl, ul262_2, ge262_2⟩ := k36_openF hMe262
                                        have hv262_2 := hcc262 2 _ rfl
                                        rw [add_field _ _ 2 (by omega)] at hv262_2
                                        replace hv262_2 := Option.some.inj (hv262_2.symm.trans hx262_2)
                                        injection hv262_2 with hva_ hvn_ hvc_
                                        rw [hva_] at ge262_2
                                        rw [hvc_] at ul262_2
                                        have HL262_2 := Aside0.mk (show Kd.V (Kd.int .i64) 3 _ w.heap.size _ _ ((rd_T36 t236 x16_5).f2) from Kd.V_mk ul262_2 ge262_2)
                                        clear hva_ hvn_ hvc_ ge262_2 ul262_2
                                        clear hcc262 hce262
                                        have HR262_2 := Aside0.mk hi262_2
                                        have HC262_2 := Aside0.mk hl262_2
                                        clear hi262_2 hl262_2
                                        replace p262 := eq_true p262
                                        replace q262 := eq_true q262
                                        have p265 : 0 ≤ (x16_5 : Int) := of_decide_eq_true (by first | (with_reducible assumption) | assumption)
                                        have q265 : x16_5 < (t236.length : Int) := of_decide_eq_true (by first | (with_reducible assumption) | assumption)
                                        obtain ⟨ad265, A265_2, c265_2, e265, hx265_0, hx265_1, hx265_2, hl265_2, hi265_2⟩ := at_T36 (Kd.N_reads' HO_7.out).2.2 x16_5 p265 q265
                                        obtain rfl : ad262 = ad265 := (by injection e265)
                                        obtain ⟨ce265, hce265, hMe265, hcc265⟩ := Kd.N_get HO_7.out z36 x16_5 p265 (by first | exact q265 | exact of_decide_eq_true (by first | (with_reducible assumption) | assumption) | (have e_ := (Kd.N_reads' HO_7.out).1; omega))
                                        obtain ⟨ua265_2, uc265_2, rfl, ul265_2, ge265_2⟩ := k36_openF hMe265
                                        have hv265_2 := hcc265 2 _ rfl
                                        rw [add_field _ _ 2 (by omega)] at hv265_2
                                        replace hv265_2 := Option.some.inj (hv265_2.symm.trans hx265_2)
                                        injection hv265_2 with hva_ hvn_ hvc_
                                        rw [hva_] at ge265_2
                                        rw [hvc_] at ul265_2
                                        have HL265_2 := Aside0.mk (show Kd.V (Kd.int .i64) 3 _ w.heap.size _ _ ((rd_T36 t236 x16_5).f2) from Kd.V_mk ul265_2 ge265_2)
                                        clear hva_ hvn_ hvc_ ge265_2 ul265_2
                                        clear hcc265 hce265
                                        have HR265_2 := Aside0.mk hi265_2
                                        have HC265_2 := Aside0.mk hl265_2
                                        clear hi265_2 hl265_2
                                        replace p265 := eq_true p265
                                        replace q265 := eq_true q265
                                        have ea_ := Option.some.inj (hx262_2.symm.trans hx265_2)
                                        injection ea_ with ea_ en_ ec_
                                        subst ea_
                                        subst ec_
                                        clear en_
                                        obtain ⟨Ao140, co140, eo140⟩ := Kd.R_slice HO_14.out
                                        subst eo140
                                        have p266 : 0 ≤ (x16_5 : Int) := of_decide_eq_true (by first | (with_reducible assumption) | assumption)
                                        have q266 : x16_5 < (t255.length : Int) := of_decide_eq_true (by first | (with_reducible assumption) | assumption)
                                        obtain ⟨ad266, e266, hx266_0⟩ := Kd.at_int (Kd.R_reads' HO_14.out).2.2 x16_5 p266 q266
                                        cases e266
                                        replace p266 := eq_true p266
                                        replace q266 := eq_true q266
                                        go_wp2
                                        go_ret
                                        exact ⟨by first | rfl | (simp [errW_none, errW_some] <;> rfl) | (simp [*, errW_none, errW_some] <;> rfl), by repeat (first | (with_reducible first | exact HB.out | apply below_alloc | apply pw_below_drewN | apply below_drew1 | refine below_set ?_ GE222.out | refine below_set ?_ GE231.out | refine below_set ?_ GE241.out | refine below_set ?_ GE254.out | refine below_set ?_ GE260.out) | exact HB.out)⟩
                                      · rw [if_neg c139] at H
                                        have c139b0 : decide ((rd t255 x16_5) < 1) = false := decide_eq_false c139
                                        clear c139
                                        have H' := Aside0.mk H
                                        clear H
                                        have p262 : 0 ≤ (x16_5 : Int) := of_decide_eq_true (by first | (with_reducible assumption) | assumption)
                                        have q262 : x16_5 < (t236.length : Int) := of_decide_eq_true (by first | (with_reducible assumption) | assumption)
                                        obtain ⟨ad262, A262_2, c262_2, e262, hx262_0, hx262_1, hx262_2, hl262_2, hi262_2⟩ := at_T36 (Kd.N_reads' HO_7.out).2.2 x16_5 p262 q262
                                        cases e262
                                        obtain ⟨ce262, hce262, hMe262, hcc262⟩ := Kd.N_get HO_7.out z36 x16_5 p262 (by first | exact q262 | exact of_decide_eq_true (by first | (with_reducible assumption) | assumption) | (have e_ := (Kd.N_reads' HO_7.out).1; omega))
                                        obtain ⟨ua262_2, uc262_2, rfl, ul262_2, ge262_2⟩ := k36_openF hMe262
                                        have hv262_2 := hcc262 2 _ rfl
                                        rw [add_field _ _ 2 (by omega)] at hv262_2
                                        replace hv262_2 := Option.some.inj (hv262_2.symm.trans hx262_2)
                                        injection hv262_2 with hva_ hvn_ hvc_
                                        rw [hva_] at ge262_2
                                        rw [hvc_] at ul262_2
                                        have HL262_2 := Aside0.mk (show Kd.V (Kd.int .i64) 3 _ w.heap.size _ _ ((rd_T36 t236 x16_5).f2) from Kd.V_mk ul262_2 ge262_2)
                                        clear hva_ hvn_ hvc_ ge262_2 ul262_2
                                        clear hcc262 hce262
                                        have HR262_2 := Aside0.mk hi262_2
                                        have HC262_2 := Aside0.mk hl262_2
                                        clear hi262_2 hl262_2
                                        replace p262 := eq_true p262
                                        replace q262 := eq_true q262
                                        have p265 : 0 ≤ (x16_5 : Int) := of_decide_eq_true (by first | (with_reducible assumption) | assumption)
                                        have q265 : x16_5 < (t236.length : Int) := of_decide_eq_true (by first | (with_reducible assumption) | assumption)
                                        obtain ⟨ad265, A265_2, c265_2, e265, hx265_0, hx265_1, hx265_2, hl265_2, hi265_2⟩ := at_T36 (Kd.N_reads' HO_7.out).2.2 x16_5 p265 q265
                                        obtain rfl : ad262 = ad265 := (by injection e265)
                                        obtain ⟨ce265, hce265, hMe265, hcc265⟩ := Kd.N_get HO_7.out z36 x16_5 p265 (by first | exact q265 | exact of_decide_eq_true (by first | (with_reducible assumption) | assumption) | (have e_ := (Kd.N_reads' HO_7.out).1; omega))
                                        obtain ⟨ua265_2, uc265_2, rfl, ul265_2, ge265_2⟩ := k36_openF hMe265
                                        have hv265_2 := hcc265 2 _ rfl
                                        rw [add_field _ _ 2 (by omega)] at hv265_2
                                        replace hv265_2 := Option.some.inj (hv265_2.symm.trans hx265_2)
                                        injection hv265_2 with hva_ hvn_ hvc_
                                        rw [hva_] at ge265_2
                                        rw [hvc_] at ul265_2
                                        have HL265_2 := Aside0.mk (show Kd.V (Kd.int .i64) 3 _ w.heap.size _ _ ((rd_T36 t236 x16_5).f2) from Kd.V_mk ul265_2 ge265_2)
                                        clear hva_ hvn_ hvc_ ge265_2 ul265_2
                                        clear hcc265 hce265
                                        have HR265_2 := Aside0.mk hi265_2
                                        have HC265_2 := Aside0.mk hl265_2
                                        clear hi265_2 hl265_2
                                        replace p265 := eq_true p265
                                        replace q265 := eq_true q265
                                        have ea_ := Option.some.inj (hx262_2.symm.trans hx265_2)
                                        injection ea_ with ea_ en_ ec_
                                        subst ea_
                                        subst ec_
                                        clear en_
                                        obtain ⟨Ao141, co141, eo141⟩ := Kd.R_slice HO_14.out
                                        subst eo141
                                        have p266 : 0 ≤ (x16_5 : Int) := of_decide_eq_true (by first | (with_reducible assumption) | assumption)
                                        have q266 : x16_5 < (t255.length : Int) := of_decide_eq_true (by first | (with_reducible assumption) | assumption)
                                        obtain ⟨ad266, e266, hx266_0⟩ := Kd.at_int (Kd.R_reads' HO_14.out).2.2 x16_5 p266 q266
                                        cases e266
                                        replace p266 := eq_true p266
                                        replace q266 := eq_true q266
                                        go_wp2
                                        go_roundg k5
                                        case measure => have := HJ3.out; have := HJ40.out; have := HK3.out; have := HJ72.out; have := HK5.out; omega
                                        case rel => exact ⟨(wrap64 (x16_5 + 1)), (by first | rfl | (simp; done) | (simp [*]; done)), H', ⟨by have := HJ3.out; have := HJ40.out; have := HK3.out; have := HJ72.out; have := HK5.out; omega⟩, ⟨by (with_reducible repeat (first | apply Kd.N_alloc | apply Kd.N_drewN | apply Kd.N_drew)); exact HO_7.out⟩, ⟨by (with_reducible repeat (first | apply Kd.R_alloc | apply Kd.R_drewN | apply Kd.R_drew)); exact HO_14.out⟩, ⟨by (with_reducible repeat (first | refine blk_drewN ?_ _ | refine blk_drew ?_ | refine blk_alloc ?_ _)); exact BK222.out⟩, ⟨by (with_reducible repeat (first | refine blk_drewN ?_ _ | refine blk_drew ?_ | refine blk_alloc ?_ _)); exact BK231.out⟩, ⟨by (with_reducible repeat (first | refine blk_drewN ?_ _ | refine blk_drew ?_ | refine blk_alloc ?_ _)); exact BK241.out⟩, ⟨by (with_reducible repeat (first | refine blk_drewN ?_ _ | refine blk_drew ?_ | refine blk_alloc ?_ _)); exact BK254.out⟩, ⟨by (with_reducible repeat (first | refine blk_drewN ?_ _ | refine blk_drew ?_ | refine blk_alloc ?_ _)); exact BK260.out⟩, ⟨by repeat (first | (with_reducible first | exact HB.out | apply below_alloc | apply pw_below_drewN | apply below_drew1 | refine below_set ?_ GE222.out | refine below_set ?_ GE231.out | refine below_set ?_ GE241.out | refine below_set ?_ GE254.out | refine below_set ?_ GE260.out) | exact HB.out)⟩⟩
                                    · rw [if_neg c138] at H
                                      exact absurd H (by simp)
                                · rw [if_neg c132] at H
                                  exact absurd H (by simp)
                              · rw [if_neg c131] at H
                                have c131b0 : decide (x16_5 < (t236.length : Int)) = false := decide_eq_false c131
                                clear c131
                                obtain rfl := Option.some.inj H
                                go_wp2
                                go_ret
                                exact ⟨by first | rfl | (simp [errW_none, errW_some] <;> rfl) | (simp [*, errW_none, errW_some] <;> rfl), by repeat (first | (with_reducible first | exact HB.out | apply below_alloc | apply pw_below_drewN | apply below_drew1 | refine below_set ?_ GE222.out | refine below_set ?_ GE231.out | refine below_set ?_ GE241.out | refine below_set ?_ GE254.out | refine below_set ?_ GE260.out) | exact HB.out)⟩

end Go.Proofs.YtffcaglfcnmhdaaDoor.H
end
