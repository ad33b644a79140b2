/- Texts that the law DepgraphMatchesSpec comes to, printed and by hand, what is not used left out. -/
import Derived.Test.YtffcaglfcnmhdaaCDepgraphMatchesSpec9
section
namespace Go.Proofs.Ytffcaglfcnmhdaa.H
open Go.RowKit Go.Proofs.YtffcaglfcnmhdaaW.PrintWords Go.Proofs.YtffcaglfcnmhdaaW.PrintLast Go.Proofs.YtffcaglfcnmhdaaW.PrintMore
attribute [local go_sem] max2_int max_two
set_option linter.unusedVariables false
set_option linter.unusedSimpArgs false

attribute [local go_sem high] eqA25
mutual
def changeforgelaw6_DepgraphMatchesSpec.j0 : Nat → List (List Int) → List Int → Bool → Int → Int → Option (Bool)
  | 0, _, _, _, _, _ => none
  | k + 1, x0, x1, x20, x317000, x317001 => if x20 = true then (some false) else ((depgraph_Cycle.f k x0).bind fun bt320 => (if (!(bt320.2.2.1 == x317000) || (!(bt320.2.2.2 == x317001))) = true then (changeforgelaw6_DepgraphMatchesSpec.j1 k x0 x1 bt320.1 bt320.2.1 true x317000 x317001) else (if x317000 = 0 then (changeforgelaw6_DepgraphMatchesSpec.j1 k x0 x1 bt320.1 bt320.2.1 false x317000 x317001) else (if bt320.2.1 = true then (changeforgelaw6_DepgraphMatchesSpec.j1 k x0 x1 bt320.1 bt320.2.1 true x317000 x317001) else (changeforgelaw6_DepgraphMatchesSpec.j1 k x0 x1 bt320.1 bt320.2.1 (decide ((bt320.1.length : Int) > 0)) x317000 x317001)))))
def changeforgelaw6_DepgraphMatchesSpec.j1 : Nat → List (List Int) → List Int → List Int → Bool → Bool → Int → Int → Option (Bool)
  | 0, _, _, _, _, _, _, _ => none
  | k + 1, x0, x1, x6, x7, x42, x317000, x317001 => if x42 = true then (some false) else (if x317000 = 0 then ((changeforgeref6_FirstOnCycle.f k x0).bind fun t327 => (if (x7 != (decide (t327 ≥ 0))) = true then (some false) else (if x7 = true then ((changeforgeref6_ShortestCycle.f k x0 t327).bind fun t328 => ((changeforgeref5_Ints.f k x6 t328).bind fun t331 => (if t331 = true then (changeforgelaw6_DepgraphMatchesSpec.j2 k x0 x1) else (some false)))) else (if (x6.length : Int) > 0 then (some false) else (changeforgelaw6_DepgraphMatchesSpec.j2 k x0 x1))))) else (changeforgelaw6_DepgraphMatchesSpec.j2 k x0 x1))
def changeforgelaw6_DepgraphMatchesSpec.j2 : Nat → List (List Int) → List Int → Option (Bool)
  | 0, _, _ => none
  | k + 1, x0, x1 => (changeforgeref6_ChangedFault.f k x0 x1).bind fun bt332 => ((depgraph_Affected.f k x0 x1).bind fun bt334 => (if (bt334.2.1 == bt332.1 && (bt334.2.2 == bt332.2)) = true then (if bt332.1 = 0 then ((changeforgeref6_Affected.f k x0 x1).bind fun t339 => ((changeforgeref5_Ints.f k bt334.1 t339).bind fun t342 => (some t342))) else (if (bt334.1.length : Int) = 0 then (some true) else (some false))) else (some false)))
end
def changeforgelaw6_DepgraphMatchesSpec.f (k : Nat) (l0 : List (List Int)) (l1 : List Int) : Option (Bool) := (changeforgeref6_GraphFault.f k l0).bind fun bt314 => ((changeforgelaw6_graphs.f k).bind fun t317 => (if t317 = true then ((depgraph_Validate.f k l0).bind fun bt318 => (changeforgelaw6_DepgraphMatchesSpec.j0 k l0 l1 (!(bt318.1 == bt314.1) || (!(bt318.2 == bt314.2))) bt314.1 bt314.2)) else (changeforgelaw6_DepgraphMatchesSpec.j0 k l0 l1 true bt314.1 bt314.2)))
theorem changeforgelaw6_DepgraphMatchesSpec.mono_l : ∀ k, (∀ y0 y1 y2 y3 y4, LeO (changeforgelaw6_DepgraphMatchesSpec.j0 k y0 y1 y2 y3 y4) (changeforgelaw6_DepgraphMatchesSpec.j0 (k + 1) y0 y1 y2 y3 y4)) ∧ (∀ y0 y1 y2 y3 y4 y5 y6, LeO (changeforgelaw6_DepgraphMatchesSpec.j1 k y0 y1 y2 y3 y4 y5 y6) (changeforgelaw6_DepgraphMatchesSpec.j1 (k + 1) y0 y1 y2 y3 y4 y5 y6)) ∧ (∀ y0 y1, LeO (changeforgelaw6_DepgraphMatchesSpec.j2 k y0 y1) (changeforgelaw6_DepgraphMatchesSpec.j2 (k + 1) y0 y1))
  | 0 => ⟨fun _ _ _ _ _ r h => by simp [changeforgelaw6_DepgraphMatchesSpec.j0] at h, fun _ _ _ _ _ _ _ r h => by simp [changeforgelaw6_DepgraphMatchesSpec.j1] at h, fun _ _ r h => by simp [changeforgelaw6_DepgraphMatchesSpec.j2] at h⟩
  | k + 1 => by
    obtain ⟨ih0, ih1, ih2⟩ := changeforgelaw6_DepgraphMatchesSpec.mono_l k
    refine ⟨?_, ?_, ?_⟩
    · intro y0 y1 y2 y3 y4
      unfold changeforgelaw6_DepgraphMatchesSpec.j0
      repeat' first
      | (with_reducible exact ih0 _ _ _ _ _)
      | (with_reducible exact ih1 _ _ _ _ _ _ _)
      | (with_reducible exact ih2 _ _)
      | (with_reducible exact changeforgelaw6_graphs.mono _)
      | (with_reducible exact changeforgeref5_Ints.mono _ _ _)
      | (with_reducible exact changeforgeref6_Affected.mono _ _ _)
      | (with_reducible exact changeforgeref6_ChangedFault.mono _ _ _)
      | (with_reducible exact changeforgeref6_FirstOnCycle.mono _ _)
      | (with_reducible exact changeforgeref6_GraphFault.mono _ _)
      | (with_reducible exact changeforgeref6_ShortestCycle.mono _ _ _)
      | (with_reducible exact depgraph_Affected.mono _ _ _)
      | (with_reducible exact depgraph_Cycle.mono _ _)
      | (with_reducible exact depgraph_Validate.mono _ _)
      | (with_reducible exact LeO.refl _)
      | (with_reducible exact LeO.none _)
      | (with_reducible refine LeO.ite ?_ ?_)
      | (with_reducible refine LeO.bind ?_ (fun _ => ?_))
      | exact ih0 _ _ _ _ _
      | exact ih1 _ _ _ _ _ _ _
      | exact ih2 _ _
      | exact changeforgelaw6_graphs.mono _
      | exact changeforgeref5_Ints.mono _ _ _
      | exact changeforgeref6_Affected.mono _ _ _
      | exact changeforgeref6_ChangedFault.mono _ _ _
      | exact changeforgeref6_FirstOnCycle.mono _ _
      | exact changeforgeref6_GraphFault.mono _ _
      | exact changeforgeref6_ShortestCycle.mono _ _ _
      | exact depgraph_Affected.mono _ _ _
      | exact depgraph_Cycle.mono _ _
      | exact depgraph_Validate.mono _ _
      | exact LeO.none _
      | refine LeO.ite ?_ ?_
      | refine LeO.bind ?_ (fun _ => ?_)
    · intro y0 y1 y2 y3 y4 y5 y6
      unfold changeforgelaw6_DepgraphMatchesSpec.j1
      repeat' first
      | (with_reducible exact ih0 _ _ _ _ _)
      | (with_reducible exact ih1 _ _ _ _ _ _ _)
      | (with_reducible exact ih2 _ _)
      | (with_reducible exact changeforgelaw6_graphs.mono _)
      | (with_reducible exact changeforgeref5_Ints.mono _ _ _)
      | (with_reducible exact changeforgeref6_Affected.mono _ _ _)
      | (with_reducible exact changeforgeref6_ChangedFault.mono _ _ _)
      | (with_reducible exact changeforgeref6_FirstOnCycle.mono _ _)
      | (with_reducible exact changeforgeref6_GraphFault.mono _ _)
      | (with_reducible exact changeforgeref6_ShortestCycle.mono _ _ _)
      | (with_reducible exact depgraph_Affected.mono _ _ _)
      | (with_reducible exact depgraph_Cycle.mono _ _)
      | (with_reducible exact depgraph_Validate.mono _ _)
      | (with_reducible exact LeO.refl _)
      | (with_reducible exact LeO.none _)
      | (with_reducible refine LeO.ite ?_ ?_)
      | (with_reducible refine LeO.bind ?_ (fun _ => ?_))
      | exact ih0 _ _ _ _ _
      | exact ih1 _ _ _ _ _ _ _
      | exact ih2 _ _
      | exact changeforgelaw6_graphs.mono _
      | exact changeforgeref5_Ints.mono _ _ _
      | exact changeforgeref6_Affected.mono _ _ _
      | exact changeforgeref6_ChangedFault.mono _ _ _
      | exact changeforgeref6_FirstOnCycle.mono _ _
      | exact changeforgeref6_GraphFault.mono _ _
      | exact changeforgeref6_ShortestCycle.mono _ _ _
      | exact depgraph_Affected.mono _ _ _
      | exact depgraph_Cycle.mono _ _
      | exact depgraph_Validate.mono _ _
      | exact LeO.none _
      | refine LeO.ite ?_ ?_
      | refine LeO.bind ?_ (fun _ => ?_)
    · intro y0 y1
      unfold changeforgelaw6_DepgraphMatchesSpec.j2
      repeat' first
      | (with_reducible exact ih0 _ _ _ _ _)
      | (with_reducible exact ih1 _ _ _ _ _ _ _)
      | (with_reducible exact ih2 _ _)
      | (with_reducible exact changeforgelaw6_graphs.mono _)
      | (with_reducible exact changeforgeref5_Ints.mono _ _ _)
      | (with_reducible exact changeforgeref6_Affected.mono _ _ _)
      | (with_reducible exact changeforgeref6_ChangedFault.mono _ _ _)
      | (with_reducible exact changeforgeref6_FirstOnCycle.mono _ _)
      | (with_reducible exact changeforgeref6_GraphFault.mono _ _)
      | (with_reducible exact changeforgeref6_ShortestCycle.mono _ _ _)
      | (with_reducible exact depgraph_Affected.mono _ _ _)
      | (with_reducible exact depgraph_Cycle.mono _ _)
      | (with_reducible exact depgraph_Validate.mono _ _)
      | (with_reducible exact LeO.refl _)
      | (with_reducible exact LeO.none _)
      | (with_reducible refine LeO.ite ?_ ?_)
      | (with_reducible refine LeO.bind ?_ (fun _ => ?_))
      | exact ih0 _ _ _ _ _
      | exact ih1 _ _ _ _ _ _ _
      | exact ih2 _ _
      | exact changeforgelaw6_graphs.mono _
      | exact changeforgeref5_Ints.mono _ _ _
      | exact changeforgeref6_Affected.mono _ _ _
      | exact changeforgeref6_ChangedFault.mono _ _ _
      | exact changeforgeref6_FirstOnCycle.mono _ _
      | exact changeforgeref6_GraphFault.mono _ _
      | exact changeforgeref6_ShortestCycle.mono _ _ _
      | exact depgraph_Affected.mono _ _ _
      | exact depgraph_Cycle.mono _ _
      | exact depgraph_Validate.mono _ _
      | exact LeO.none _
      | refine LeO.ite ?_ ?_
      | refine LeO.bind ?_ (fun _ => ?_)
theorem changeforgelaw6_DepgraphMatchesSpec.mono : ∀ a0 a1 k, LeO (changeforgelaw6_DepgraphMatchesSpec.f k a0 a1) (changeforgelaw6_DepgraphMatchesSpec.f (k + 1) a0 a1) := by
  intro a0 a1 k
  obtain ⟨ih0, ih1, ih2⟩ := changeforgelaw6_DepgraphMatchesSpec.mono_l k
  unfold changeforgelaw6_DepgraphMatchesSpec.f
  repeat' first
      | (with_reducible exact ih0 _ _ _ _ _)
      | (with_reducible exact ih1 _ _ _ _ _ _ _)
      | (with_reducible exact ih2 _ _)
      | (with_reducible exact changeforgelaw6_graphs.mono _)
      | (with_reducible exact changeforgeref5_Ints.mono _ _ _)
      | (with_reducible exact changeforgeref6_Affected.mono _ _ _)
      | (with_reducible exact changeforgeref6_ChangedFault.mono _ _ _)
      | (with_reducible exact changeforgeref6_FirstOnCycle.mono _ _)
      | (with_reducible exact changeforgeref6_GraphFault.mono _ _)
      | (with_reducible exact changeforgeref6_ShortestCycle.mono _ _ _)
      | (with_reducible exact depgraph_Affected.mono _ _ _)
      | (with_reducible exact depgraph_Cycle.mono _ _)
      | (with_reducible exact depgraph_Validate.mono _ _)
      | (with_reducible exact LeO.refl _)
      | (with_reducible exact LeO.none _)
      | (with_reducible refine LeO.ite ?_ ?_)
      | (with_reducible refine LeO.bind ?_ (fun _ => ?_))
      | exact ih0 _ _ _ _ _
      | exact ih1 _ _ _ _ _ _ _
      | exact ih2 _ _
      | exact changeforgelaw6_graphs.mono _
      | exact changeforgeref5_Ints.mono _ _ _
      | exact changeforgeref6_Affected.mono _ _ _
      | exact changeforgeref6_ChangedFault.mono _ _ _
      | exact changeforgeref6_FirstOnCycle.mono _ _
      | exact changeforgeref6_GraphFault.mono _ _
      | exact changeforgeref6_ShortestCycle.mono _ _ _
      | exact depgraph_Affected.mono _ _ _
      | exact depgraph_Cycle.mono _ _
      | exact depgraph_Validate.mono _ _
      | exact LeO.none _
      | refine LeO.ite ?_ ?_
      | refine LeO.bind ?_ (fun _ => ?_)
def changeforgelaw6_DepgraphMatchesSpec.T2 : Bool × List (List Nat × List Nat) := (true, [([], []), ([0], [0]), ([1, 0], [1]), ([2], [2]), ([3, 2, 2], [2, 3]), ([2], [2]), ([4, 5, 2], [2, 4, 5]), ([2, 6], [2, 6])])
def changeforgelaw6_DepgraphMatchesSpec.B2 : List Nat := [0, 1, 3, 7, 15, 7, 63, 127]
theorem changeforgelaw6_DepgraphMatchesSpec.tab2 : rtab .any (opsOf Try.f3 2) = changeforgelaw6_DepgraphMatchesSpec.T2 := by kernel_rfl
theorem changeforgelaw6_DepgraphMatchesSpec.bits2 : waitsOk changeforgelaw6_DepgraphMatchesSpec.T2.2 changeforgelaw6_DepgraphMatchesSpec.B2 = true := by kernel_rfl
set_option maxHeartbeats 8000000 in
set_option maxRecDepth 100000 in
theorem changeforgelaw6_DepgraphMatchesSpec.calls (k : Nat) (A0 : Option Addr) (c0 : Nat) (l0 : List (List Int)) (A1 : Option Addr) (c1 : Nat) (l1 : List Int) (r : Bool) (w : World) (hr0 : Kd.C (Kd.slice 3 (Kd.int .i64)) w A0 l0.length l0) (hc0 : l0.length ≤ c0) (hr1 : Kd.C (Kd.int .i64) w A1 l1.length l1) (hc1 : l1.length ≤ c1) (h : changeforgelaw6_DepgraphMatchesSpec.f k l0 l1 = some r) :
    Calls Try.prog 3 #[.slice A0 l0.length c0, .slice A1 l1.length c1] w fun e w' => e = .returned (.bool r) ∧ Below w.heap.size w w' := by
  have hu25 := Try.underlying25
  have HR0 := Aside0.mk hr0
  have HC0 := Aside0.mk hc0
  clear hr0 hc0
  have HR1 := Aside0.mk hr1
  have HC1 := Aside0.mk hc1
  clear hr1 hc1
  have HB := Aside0.mk (Below.refl w.heap.size w)
  have H : ((changeforgeref6_GraphFault.f k l0).bind fun bt314 => ((changeforgelaw6_graphs.f k).bind fun t317 => (if t317 = true then ((depgraph_Validate.f k l0).bind fun bt318 => (changeforgelaw6_DepgraphMatchesSpec.j0 k l0 l1 (!(bt318.1 == bt314.1) || (!(bt318.2 == bt314.2))) bt314.1 bt314.2)) else (changeforgelaw6_DepgraphMatchesSpec.j0 k l0 l1 true bt314.1 bt314.2)))) = some r := h
  clear h
  replace H := Option.bind_eq_some_iff.mp H
  obtain ⟨⟨t314, t315⟩, A30, H⟩ := H
  replace H : ((changeforgelaw6_graphs.f k).bind fun t317 => (if t317 = true then ((depgraph_Validate.f k l0).bind fun bt318 => (changeforgelaw6_DepgraphMatchesSpec.j0 k l0 l1 (!(bt318.1 == t314) || (!(bt318.2 == t315))) t314 t315)) else (changeforgelaw6_DepgraphMatchesSpec.j0 k l0 l1 true t314 t315))) = some r := H
  have A3 := Aside0.mk A30
  clear A30
  have HC4 := Aside0.mk H
  clear H
  go_enter Try.func3, Try.ntmps3
  go_upto_region 2 with (first | ((with_reducible refine gate_callee (f := 9) rfl ?_); refine goesL_ (some 12) rfl rfl Try.func9 (by kernel_rfl) rfl #[.slice A0 l0.length c0] rfl (by (try simp only [List.map_toArray, List.map_cons, List.map_nil]); first | done | rfl | (simp only [List.length_drop, List.length_take]; rfl)) ?_; (with_reducible refine (changeforgeref6_GraphFault.calls k _ _ l0 t314 t315 _ ?side1 ?side2 A3.out).mono ?_); (case side1 => repeat (first | exact HR0.out | (with_reducible refine Kd.C_alloc ?_ _) | (with_reducible refine Kd.C_drewN ?_ _) | (with_reducible refine Kd.C_drew ?_))); (case side2 => exact HC0.out); rintro e w5 ⟨rfl, hb⟩; refine ⟨_, rfl, ?_⟩; have n0_ := Aside0.mk (below_step (by repeat (first | (with_reducible first | exact HB.out | apply below_alloc | apply pw_below_drewN | apply below_drew1) | exact HB.out)) hb); clear HB; have HB := n0_; clear n0_; (try clear hb); (try clear hb2); (try clear hk); (try clear hi)) | ((with_reducible refine gate_dst (N := 5) rfl ?_); (try (refine gate_guard (by rfl) ?_; dsimp only)); refine box_event ?hg (N := 5) ?hd (cs := #[.int .i64 0, .int .i64 0]) (t := 25) ?hr ?_; (case hd => rfl); (case hg => rfl); (case hr => first | (go_simp; done) | (go_simp; rfl)); intro gb316 hg w6 hbox hb; have n0_ := Aside0.mk (below_step (by repeat (first | (with_reducible first | exact HB.out | apply below_alloc | apply pw_below_drewN | apply below_drew1) | exact HB.out)) hb); have n1_ := Aside0.mk (hbox); have n2_ := Aside0.mk ((by rw [hg]; exact (below_size (by repeat (first | (with_reducible first | exact HB.out | apply below_alloc | apply pw_below_drewN | apply below_drew1) | exact HB.out))) : w.heap.size ≤ gb316)); have n3_ := Aside0.mk ((by rw [hg]; exact (below_size (by repeat (first | (with_reducible first | exact HB.out | apply below_alloc | apply pw_below_drewN | apply below_drew1) | exact HB.out))) : w.heap.size ≤ gb316)); clear HB; have HB := n0_; have BK316 := n1_; have GW316 := n2_; have GE316 := n3_; clear n0_ n1_ n2_ n3_; clear hb hbox hg; have hcz7_0 : w6.cell? ⟨gb316, 0, none⟩ = some (.int .i64 0) := (blk_cell BK316.out 0).trans rfl; have hcz7_1 : w6.cell? ⟨gb316, 1, none⟩ = some (.int .i64 0) := (blk_cell BK316.out 1).trans rfl; have hfz7_0 := blk_frozen BK316.out 0; have hfz7_1 := blk_frozen BK316.out 1))
  (try simp only [Act.put, List.setIfInBounds_toArray, List.set_cons_zero, List.set_cons_succ])
  go_cut [20] (fun v20 wc => ∃ (kq : Nat) (x20_3 : Bool), v20 = .bool x20_3 ∧ Aside0 (changeforgelaw6_DepgraphMatchesSpec.j0 kq l0 l1 x20_3 t314 t315 = some r) ∧ Aside0 (kq ≤ k) ∧ Aside0 (wc.heap[gb316]? = some (.cells #[.int .i64 t314, .int .i64 t315] 25 (0, 0))) ∧ Aside0 (Below w.heap.size w wc))
  case first =>
    have H := HC4.out
    clear HC4
    replace H := Option.bind_eq_some_iff.mp H
    obtain ⟨t317, A80, H⟩ := H
    replace H : (if t317 = true then ((depgraph_Validate.f k l0).bind fun bt318 => (changeforgelaw6_DepgraphMatchesSpec.j0 k l0 l1 (!(bt318.1 == t314) || (!(bt318.2 == t315))) t314 t315)) else (changeforgelaw6_DepgraphMatchesSpec.j0 k l0 l1 true t314 t315)) = some r := H
    have A8 := Aside0.mk A80
    clear A80
    by_cases c9 : t317 = true
    · subst c9
      have H1 : ((depgraph_Validate.f k l0).bind fun bt318 => (changeforgelaw6_DepgraphMatchesSpec.j0 k l0 l1 (!(bt318.1 == t314) || (!(bt318.2 == t315))) t314 t315)) = some r := by rw [if_pos rfl] at H; exact H
      clear H
      have H := H1
      clear H1
      replace H := Option.bind_eq_some_iff.mp H
      obtain ⟨⟨t318, t319⟩, A100, H⟩ := H
      replace H : (changeforgelaw6_DepgraphMatchesSpec.j0 k l0 l1 (!(t318 == t314) || (!(t319 == t315))) t314 t315) = some r := H
      have A10 := Aside0.mk A100
      clear A100
      have H' := Aside0.mk H
      clear H
      try go_wp2
      have n0_ : Aside0 (((w6.setCell ⟨gb316, 0, none⟩ (.int .i64 t314)).setCell ⟨gb316, 1, none⟩ (.int .i64 t315)).heap[gb316]? = some (.cells #[.int .i64 t314, .int .i64 t315] 25 (0, 0))) := ⟨by (with_reducible repeat (first | refine blk_drewN ?_ _ | refine blk_drew ?_ | refine blk_alloc ?_ _)); refine blk_put (cs := #[.int .i64 t314, .int .i64 0]) ?_ 1 _ rfl; (with_reducible repeat (first | refine blk_drewN ?_ _ | refine blk_drew ?_ | refine blk_alloc ?_ _)); refine blk_put (cs := #[.int .i64 0, .int .i64 0]) ?_ 0 _ rfl; (with_reducible repeat (first | refine blk_drewN ?_ _ | refine blk_drew ?_ | refine blk_alloc ?_ _)); exact BK316.out⟩
      have n1_ : Aside0 (Below w.heap.size w ((w6.setCell ⟨gb316, 0, none⟩ (.int .i64 t314)).setCell ⟨gb316, 1, none⟩ (.int .i64 t315))) := ⟨by repeat (first | (with_reducible first | exact HB.out | apply below_alloc | apply pw_below_drewN | apply below_drew1 | refine below_set ?_ GE316.out) | exact HB.out)⟩
      (try clear BK316)
      (try clear HB)
      generalize ((w6.setCell ⟨gb316, 0, none⟩ (.int .i64 t314)).setCell ⟨gb316, 1, none⟩ (.int .i64 t315)) = w11 at n0_ n1_ ⊢
      have BK316 := n0_
      have HB := n1_
      clear n0_ n1_
      have n0_ := Aside0.mk (blk_drew BK316.out)
      have n1_ := Aside0.mk (below_drew1 HB.out)
      clear BK316
      clear HB
      have BK316 := n0_
      have HB := n1_
      clear n0_ n1_
      refine start_ (n := 8) (S := fun w' => w'.cell? ⟨gb316, 0, none⟩ = some (.int .i64 t314) ∧ w'.cell? ⟨gb316, 1, none⟩ = some (.int .i64 t315)) (ds := []) #[false, false, false, false, false, false, false, false] (by kernel_rfl) rfl rfl ⟨(blk_cell BK316.out 0).trans rfl, (blk_cell BK316.out 1).trans rfl⟩ (fun hHeld => ?_); refine with_tabW changeforgelaw6_DepgraphMatchesSpec.tab2 changeforgelaw6_DepgraphMatchesSpec.bits2 (fun HT_ HW_ => ?_)
      generalize w11.drew = w12 at BK316 HB hHeld ⊢
      refine one_ (i := 0) (N := some 13) #[true, false, false, false, false, false, false, false] rfl rfl (one_of HT_.out (by kernel_rfl)) (by decide) (fun K hK => ?_)
      refine goes_ Try.func10 (by kernel_rfl) rfl #[] (by rfl) rfl rfl (by (try simp only [List.map_toArray, List.map_cons, List.map_nil]); first | done | rfl | (simp only [List.length_drop, List.length_take]; rfl)) ?_
      with_reducible refine (changeforgelaw6_graphs.calls k  true _ A8.out).mono ?_
      rintro e w13 ⟨rfl, hb⟩
      refine ⟨_, rfl, ?_⟩
      have n0_ := Aside0.mk (blk_below (g := gb316) (o := .cells #[.int .i64 t314, .int .i64 t315] 25 (0, 0)) (by (with_reducible repeat (first | refine blk_drewN ?_ _ | refine blk_drew ?_ | refine blk_alloc ?_ _)); exact BK316.out) hb)
      have n1_ := Aside0.mk (below_step (by repeat (first | (with_reducible first | exact HB.out | apply below_alloc | apply pw_below_drewN | apply below_drew1 | refine below_set ?_ GE316.out) | exact HB.out)) hb)
      clear BK316
      clear HB
      have BK316 := n0_
      have HB := n1_
      clear n0_ n1_
      (try clear hb)
      (try clear hb2)
      (try clear hk)
      (try clear hi)
      refine hK.out _ _ ⟨(blk_cell BK316.out 0).trans rfl, (blk_cell BK316.out 1).trans rfl⟩ (fun hHeld => ?_)
      clear hK K
      refine norm_ (a' := ?_) ?_ ?_
      rotate_left
      · show Act.put _ (some 13) _ = _
        simp only [Act.put, List.setIfInBounds_toArray, List.set_cons_zero, List.set_cons_succ, i64_w, i32_w]
        rfl
      refine pure_ (i := 1) (N := some 14) (v := ?_) (a' := ?_) #[true, true, false, false, false, false, false, false] rfl rfl (any_of HT_.out (by kernel_rfl)) (fun _ _ _ h => h) (Or.inl ⟨by rfl, ?_⟩) ?_ ?_
      rotate_left
      · intro w'
        go_simp
        with_reducible rfl
      rotate_left
      · simp only [Act.put, List.setIfInBounds_toArray, List.set_cons_zero, List.set_cons_succ, i64_w, i32_w]
        rfl
      refine pure_ (i := 2) (N := some 15) (v := ?_) (a' := ?_) #[true, true, true, false, false, false, false, false] rfl rfl (any_of HT_.out (by kernel_rfl)) (fun _ _ _ h => h) (Or.inl ⟨by rfl, ?_⟩) ?_ ?_
      rotate_left
      · intro w'
        go_simp
        with_reducible rfl
      rotate_left
      · simp only [Act.put, List.setIfInBounds_toArray, List.set_cons_zero, List.set_cons_succ, i64_w, i32_w]
        rfl
      refine pure_ (i := 3) (N := some 16) (v := ?_) (a' := ?_) #[true, true, true, true, false, false, false, false] rfl rfl (any_of HT_.out (by kernel_rfl)) (fun _ _ _ h => h) (Or.inl ⟨by rfl, ?_⟩) ?_ ?_
      rotate_left
      · intro w'
        go_simp
        with_reducible rfl
      rotate_left
      · simp only [Act.put, List.setIfInBounds_toArray, List.set_cons_zero, List.set_cons_succ, i64_w, i32_w]
        rfl
      refine take_ (i := 5) (N := some 18) (v := ?_) (a' := ?_) #[true, true, true, true, false, true, false, false] rfl rfl (take_ofW HT_.out HW_.out (by kernel_rfl)) (fun _ _ _ h => h) (Or.inl ⟨by rfl, ?_⟩) hHeld ?_ ?_
      rotate_left
      · rintro w' ⟨s0, s1⟩
        go_simp
        with_reducible rfl
      rotate_left
      · simp only [Act.put, List.setIfInBounds_toArray, List.set_cons_zero, List.set_cons_succ, i64_w, i32_w]
        rfl
      refine one_ (i := 4) (N := some 17) #[true, true, true, true, true, true, false, false] rfl rfl (one_of HT_.out (by kernel_rfl)) (by decide) (fun K hK => ?_)
      refine goes_ Try.func11 (by kernel_rfl) rfl #[.slice A0 l0.length c0] (by rfl) rfl rfl (by (try simp only [List.map_toArray, List.map_cons, List.map_nil]); first | done | rfl | (simp only [List.length_drop, List.length_take]; rfl)) ?_
      with_reducible refine (depgraph_Validate.calls k _ _ l0 t318 t319 _ ?side1 ?side2 A10.out).mono ?_
      (case side1 => repeat (first | exact (Kd.C_below HR0.out HB.out) | (with_reducible refine Kd.C_alloc ?_ _) | (with_reducible refine Kd.C_drewN ?_ _) | (with_reducible refine Kd.C_drew ?_)))
      (case side2 => exact HC0.out)
      rintro e w14 ⟨rfl, hb⟩
      refine ⟨_, rfl, ?_⟩
      have n0_ := Aside0.mk (blk_below (g := gb316) (o := .cells #[.int .i64 t314, .int .i64 t315] 25 (0, 0)) (by (with_reducible repeat (first | refine blk_drewN ?_ _ | refine blk_drew ?_ | refine blk_alloc ?_ _)); exact BK316.out) hb)
      have n1_ := Aside0.mk (below_step (by repeat (first | (with_reducible first | exact HB.out | apply below_alloc | apply pw_below_drewN | apply below_drew1 | refine below_set ?_ GE316.out) | exact HB.out)) hb)
      clear BK316
      clear HB
      have BK316 := n0_
      have HB := n1_
      clear n0_ n1_
      (try clear hb)
      (try clear hb2)
      (try clear hk)
      (try clear hi)
      refine hK.out _ _ ⟨(blk_cell BK316.out 0).trans rfl, (blk_cell BK316.out 1).trans rfl⟩ (fun hHeld => ?_)
      clear hK K
      refine norm_ (a' := ?_) ?_ ?_
      rotate_left
      · show Act.put _ (some 17) _ = _
        simp only [Act.put, List.setIfInBounds_toArray, List.set_cons_zero, List.set_cons_succ, i64_w, i32_w]
        rfl
      refine pure_ (i := 6) (N := some 19) (v := ?_) (a' := ?_) #[true, true, true, true, true, true, true, false] rfl rfl (any_of HT_.out (by kernel_rfl)) (fun _ _ _ h => h) (Or.inl ⟨by rfl, ?_⟩) ?_ ?_
      rotate_left
      · intro w'
        go_simp
        with_reducible rfl
      rotate_left
      · simp only [Act.put, List.setIfInBounds_toArray, List.set_cons_zero, List.set_cons_succ, i64_w, i32_w]
        rfl
      refine pure_ (i := 7) (N := some 20) (v := ?_) (a' := ?_) #[true, true, true, true, true, true, true, true] rfl rfl (any_of HT_.out (by kernel_rfl)) (fun _ _ _ h => h) (Or.inl ⟨by rfl, ?_⟩) ?_ ?_
      rotate_left
      · intro w'
        go_simp
        with_reducible rfl
      rotate_left
      · simp only [Act.put, List.setIfInBounds_toArray, List.set_cons_zero, List.set_cons_succ, i64_w, i32_w]
        rfl
      refine done_ (done_of HT_.out (by kernel_rfl)) ?_
      try go_wp2
      go_meet
      case rel => exact ⟨_, ((!(t318 == t314) || (!(t319 == t315)))), (by first | rfl | (simp; done) | (simp [*]; done)), H', ⟨by first | omega | exact Nat.le_refl _⟩, ⟨by (with_reducible repeat (first | refine blk_drewN ?_ _ | refine blk_drew ?_ | refine blk_alloc ?_ _)); exact BK316.out⟩, ⟨by repeat (first | (with_reducible first | exact HB.out | apply below_alloc | apply pw_below_drewN | apply below_drew1 | refine below_set ?_ GE316.out) | exact HB.out)⟩⟩
    · replace c9 := Bool.eq_false_iff.mpr c9
      subst c9
      have H1 : (changeforgelaw6_DepgraphMatchesSpec.j0 k l0 l1 true t314 t315) = some r := by rw [if_neg (show ¬ (false = true) by decide)] at H; exact H
      clear H
      have H := H1
      clear H1
      have H' := Aside0.mk H
      clear H
      try go_wp2
      have n0_ : Aside0 (((w6.setCell ⟨gb316, 0, none⟩ (.int .i64 t314)).setCell ⟨gb316, 1, none⟩ (.int .i64 t315)).heap[gb316]? = some (.cells #[.int .i64 t314, .int .i64 t315] 25 (0, 0))) := ⟨by (with_reducible repeat (first | refine blk_drewN ?_ _ | refine blk_drew ?_ | refine blk_alloc ?_ _)); refine blk_put (cs := #[.int .i64 t314, .int .i64 0]) ?_ 1 _ rfl; (with_reducible repeat (first | refine blk_drewN ?_ _ | refine blk_drew ?_ | refine blk_alloc ?_ _)); refine blk_put (cs := #[.int .i64 0, .int .i64 0]) ?_ 0 _ rfl; (with_reducible repeat (first | refine blk_drewN ?_ _ | refine blk_drew ?_ | refine blk_alloc ?_ _)); exact BK316.out⟩
      have n1_ : Aside0 (Below w.heap.size w ((w6.setCell ⟨gb316, 0, none⟩ (.int .i64 t314)).setCell ⟨gb316, 1, none⟩ (.int .i64 t315))) := ⟨by repeat (first | (with_reducible first | exact HB.out | apply below_alloc | apply pw_below_drewN | apply below_drew1 | refine below_set ?_ GE316.out) | exact HB.out)⟩
      (try clear BK316)
      (try clear HB)
      generalize ((w6.setCell ⟨gb316, 0, none⟩ (.int .i64 t314)).setCell ⟨gb316, 1, none⟩ (.int .i64 t315)) = w15 at n0_ n1_ ⊢
      have BK316 := n0_
      have HB := n1_
      clear n0_ n1_
      have n0_ := Aside0.mk (blk_drew BK316.out)
      have n1_ := Aside0.mk (below_drew1 HB.out)
      clear BK316
      clear HB
      have BK316 := n0_
      have HB := n1_
      clear n0_ n1_
      refine start_ (n := 8) (S := fun w' => True) (ds := []) #[false, false, false, false, false, false, false, false] (by kernel_rfl) rfl rfl trivial (fun hHeld => ?_); refine with_tabW changeforgelaw6_DepgraphMatchesSpec.tab2 changeforgelaw6_DepgraphMatchesSpec.bits2 (fun HT_ HW_ => ?_)
      generalize w15.drew = w16 at BK316 HB hHeld ⊢
      refine one_ (i := 0) (N := some 13) #[true, false, false, false, false, false, false, false] rfl rfl (one_of HT_.out (by kernel_rfl)) (by decide) (fun K hK => ?_)
      refine goes_ Try.func10 (by kernel_rfl) rfl #[] (by rfl) rfl rfl (by (try simp only [List.map_toArray, List.map_cons, List.map_nil]); first | done | rfl | (simp only [List.length_drop, List.length_take]; rfl)) ?_
      with_reducible refine (changeforgelaw6_graphs.calls k  false _ A8.out).mono ?_
      rintro e w17 ⟨rfl, hb⟩
      refine ⟨_, rfl, ?_⟩
      have n0_ := Aside0.mk (blk_below (g := gb316) (o := .cells #[.int .i64 t314, .int .i64 t315] 25 (0, 0)) (by (with_reducible repeat (first | refine blk_drewN ?_ _ | refine blk_drew ?_ | refine blk_alloc ?_ _)); exact BK316.out) hb)
      have n1_ := Aside0.mk (below_step (by repeat (first | (with_reducible first | exact HB.out | apply below_alloc | apply pw_below_drewN | apply below_drew1 | refine below_set ?_ GE316.out) | exact HB.out)) hb)
      clear BK316
      clear HB
      have BK316 := n0_
      have HB := n1_
      clear n0_ n1_
      (try clear hb)
      (try clear hb2)
      (try clear hk)
      (try clear hi)
      refine hK.out _ _ trivial (fun hHeld => ?_)
      clear hK K
      refine norm_ (a' := ?_) ?_ ?_
      rotate_left
      · show Act.put _ (some 13) _ = _
        simp only [Act.put, List.setIfInBounds_toArray, List.set_cons_zero, List.set_cons_succ, i64_w, i32_w]
        rfl
      refine pure_ (i := 1) (N := some 14) (v := ?_) (a' := ?_) #[true, true, false, false, false, false, false, false] rfl rfl (any_of HT_.out (by kernel_rfl)) (fun _ _ _ h => h) (Or.inl ⟨by rfl, ?_⟩) ?_ ?_
      rotate_left
      · intro w'
        go_simp
        with_reducible rfl
      rotate_left
      · simp only [Act.put, List.setIfInBounds_toArray, List.set_cons_zero, List.set_cons_succ, i64_w, i32_w]
        rfl
      refine pure_ (i := 2) (N := some 15) (v := ?_) (a' := ?_) #[true, true, true, false, false, false, false, false] rfl rfl (any_of HT_.out (by kernel_rfl)) (fun _ _ _ h => h) (Or.inl ⟨by rfl, ?_⟩) ?_ ?_
      rotate_left
      · intro w'
        go_simp
        with_reducible rfl
      rotate_left
      · simp only [Act.put, List.setIfInBounds_toArray, List.set_cons_zero, List.set_cons_succ, i64_w, i32_w]
        rfl
      refine pure_ (i := 3) (N := some 16) (v := undef) (a' := ?_) #[true, true, true, true, false, false, false, false] rfl rfl (any_of HT_.out (by kernel_rfl)) (fun _ _ _ h => h) (Or.inr ⟨by rfl, rfl⟩) ?_ ?_
      rotate_left
      · simp only [Act.put, List.setIfInBounds_toArray, List.set_cons_zero, List.set_cons_succ, i64_w, i32_w]
        rfl
      refine pure_ (i := 4) (N := some 17) (v := undef) (a' := ?_) #[true, true, true, true, true, false, false, false] rfl rfl (any_of HT_.out (by kernel_rfl)) (fun _ _ _ h => h) (Or.inr ⟨by rfl, rfl⟩) ?_ ?_
      rotate_left
      · simp only [Act.put, List.setIfInBounds_toArray, List.set_cons_zero, List.set_cons_succ, i64_w, i32_w]
        rfl
      refine pure_ (i := 5) (N := some 18) (v := undef) (a' := ?_) #[true, true, true, true, true, true, false, false] rfl rfl (any_of HT_.out (by kernel_rfl)) (fun _ _ _ h => h) (Or.inr ⟨by rfl, rfl⟩) ?_ ?_
      rotate_left
      · simp only [Act.put, List.setIfInBounds_toArray, List.set_cons_zero, List.set_cons_succ, i64_w, i32_w]
        rfl
      refine pure_ (i := 6) (N := some 19) (v := undef) (a' := ?_) #[true, true, true, true, true, true, true, false] rfl rfl (any_of HT_.out (by kernel_rfl)) (fun _ _ _ h => h) (Or.inr ⟨by rfl, rfl⟩) ?_ ?_
      rotate_left
      · simp only [Act.put, List.setIfInBounds_toArray, List.set_cons_zero, List.set_cons_succ, i64_w, i32_w]
        rfl
      refine pure_ (i := 7) (N := some 20) (v := ?_) (a' := ?_) #[true, true, true, true, true, true, true, true] rfl rfl (any_of HT_.out (by kernel_rfl)) (fun _ _ _ h => h) (Or.inl ⟨by rfl, ?_⟩) ?_ ?_
      rotate_left
      · intro w'
        go_simp
        with_reducible rfl
      rotate_left
      · simp only [Act.put, List.setIfInBounds_toArray, List.set_cons_zero, List.set_cons_succ, i64_w, i32_w]
        rfl
      refine done_ (done_of HT_.out (by kernel_rfl)) ?_
      try go_wp2
      go_meet
      case rel => exact ⟨_, (true), (by first | rfl | (simp; done) | (simp [*]; done)), H', ⟨by first | omega | exact Nat.le_refl _⟩, ⟨by (with_reducible repeat (first | refine blk_drewN ?_ _ | refine blk_drew ?_ | refine blk_alloc ?_ _)); exact BK316.out⟩, ⟨by repeat (first | (with_reducible first | exact HB.out | apply below_alloc | apply pw_below_drewN | apply below_drew1 | refine below_set ?_ GE316.out) | exact HB.out)⟩⟩
  case rest =>
    clear HC4
    try clear c1
    try clear p2
    try clear c3
    try clear c9
    try clear c10
    try clear c11
    try clear hcz7_0
    try clear hcz7_1
    try clear hfz7_0
    try clear hfz7_1
    obtain ⟨kq, x20_3, rfl, HA, HJ3, BK316, HB⟩ := hcut
    cases kq with
    | zero => exact absurd HA.out (by simp [changeforgelaw6_DepgraphMatchesSpec.j0])
    | succ kj3 =>
      have H := HA.out
      clear HA
      simp only [changeforgelaw6_DepgraphMatchesSpec.j0] at H
      by_cases c18 : x20_3 = true
      · subst c18
        have H1 : (some false) = some r := by rw [if_pos rfl] at H; exact H
        clear H
        have H := H1
        clear H1
        obtain rfl := Option.some.inj H
        go_wp2
        go_ret
        exact ⟨by first | rfl | (simp [errW_none, errW_some] <;> rfl) | (simp [*, errW_none, errW_some] <;> rfl), by repeat (first | (with_reducible first | exact HB.out | apply below_alloc | apply pw_below_drewN | apply below_drew1 | refine below_set ?_ GE316.out) | exact HB.out)⟩
      · replace c18 := Bool.eq_false_iff.mpr c18
        subst c18
        have H1 : ((depgraph_Cycle.f kj3 l0).bind fun bt320 => (if (!(bt320.2.2.1 == t314) || (!(bt320.2.2.2 == t315))) = true then (changeforgelaw6_DepgraphMatchesSpec.j1 kj3 l0 l1 bt320.1 bt320.2.1 true t314 t315) else (if t314 = 0 then (changeforgelaw6_DepgraphMatchesSpec.j1 kj3 l0 l1 bt320.1 bt320.2.1 false t314 t315) else (if bt320.2.1 = true then (changeforgelaw6_DepgraphMatchesSpec.j1 kj3 l0 l1 bt320.1 bt320.2.1 true t314 t315) else (changeforgelaw6_DepgraphMatchesSpec.j1 kj3 l0 l1 bt320.1 bt320.2.1 (decide ((bt320.1.length : Int) > 0)) t314 t315))))) = some r := by rw [if_neg (show ¬ (false = true) by decide)] at H; exact H
        clear H
        have H := H1
        clear H1
        replace H := Option.bind_eq_some_iff.mp H
        obtain ⟨⟨t320, t323, t324, t325⟩, A190, H⟩ := H
        replace H : (if (!(t324 == t314) || (!(t325 == t315))) = true then (changeforgelaw6_DepgraphMatchesSpec.j1 kj3 l0 l1 t320 t323 true t314 t315) else (if t314 = 0 then (changeforgelaw6_DepgraphMatchesSpec.j1 kj3 l0 l1 t320 t323 false t314 t315) else (if t323 = true then (changeforgelaw6_DepgraphMatchesSpec.j1 kj3 l0 l1 t320 t323 true t314 t315) else (changeforgelaw6_DepgraphMatchesSpec.j1 kj3 l0 l1 t320 t323 (decide ((t320.length : Int) > 0)) t314 t315)))) = some r := H
        have A19 := Aside0.mk A190
        clear A190
        have HC20 := Aside0.mk H
        clear H
        go_upto_region 5 with (first | ((with_reducible refine gate_callee (f := 12) rfl ?_); refine goesL_ (some 23) rfl rfl Try.func12 (by kernel_rfl) rfl #[.slice A0 l0.length c0] rfl (by (try simp only [List.map_toArray, List.map_cons, List.map_nil]); first | done | rfl | (simp only [List.length_drop, List.length_take]; rfl)) ?_; (with_reducible refine (depgraph_Cycle.calls kj3 _ _ l0 t320 t323 t324 t325 _ ?side1 ?side2 A19.out).mono ?_); (case side1 => repeat (first | exact (Kd.C_below HR0.out HB.out) | (with_reducible refine Kd.C_alloc ?_ _) | (with_reducible refine Kd.C_drewN ?_ _) | (with_reducible refine Kd.C_drew ?_))); (case side2 => exact HC0.out); rintro e w21 ⟨v321, rfl, ho0, hb⟩; refine ⟨_, rfl, ?_⟩; have n0_ := Aside0.mk (Kd.R_lower ho0 (below_size (by repeat (first | (with_reducible first | exact HB.out | apply below_alloc | apply pw_below_drewN | apply below_drew1 | refine below_set ?_ GE316.out) | exact HB.out)))); have n1_ := Aside0.mk (blk_below (g := gb316) (o := .cells #[.int .i64 t314, .int .i64 t315] 25 (0, 0)) (by (with_reducible repeat (first | refine blk_drewN ?_ _ | refine blk_drew ?_ | refine blk_alloc ?_ _)); exact BK316.out) hb); have n2_ := Aside0.mk (below_step (by repeat (first | (with_reducible first | exact HB.out | apply below_alloc | apply pw_below_drewN | apply below_drew1 | refine below_set ?_ GE316.out) | exact HB.out)) hb); clear BK316; clear HB; have HO322 := n0_; have BK316 := n1_; have HB := n2_; clear n0_ n1_ n2_; (try clear hb); (try clear hb2); (try clear hk); (try clear hi); (try clear ho0)) | ((with_reducible refine gate_dst (N := 8) rfl ?_); (try (refine gate_guard (by rfl) ?_; dsimp only)); refine box_event ?hg (N := 8) ?hd (cs := #[.int .i64 0, .int .i64 0]) (t := 25) ?hr ?_; (case hd => rfl); (case hg => rfl); (case hr => first | (go_simp; done) | (go_simp; rfl)); intro gb326 hg w22 hbox hb; have n0_ := Aside0.mk (Kd.R_below (by (with_reducible repeat (first | apply Kd.R_alloc | apply Kd.R_drewN | apply Kd.R_drew)); exact HO322.out) hb); have n1_ := Aside0.mk (blk_below (g := gb316) (o := .cells #[.int .i64 t314, .int .i64 t315] 25 (0, 0)) (by (with_reducible repeat (first | refine blk_drewN ?_ _ | refine blk_drew ?_ | refine blk_alloc ?_ _)); exact BK316.out) hb); have n2_ := Aside0.mk (below_step (by repeat (first | (with_reducible first | exact HB.out | apply below_alloc | apply pw_below_drewN | apply below_drew1 | refine below_set ?_ GE316.out) | exact HB.out)) hb); have n3_ := Aside0.mk (hbox); have n4_ := Aside0.mk ((by rw [hg]; exact (below_size (by repeat (first | (with_reducible first | exact HB.out | apply below_alloc | apply pw_below_drewN | apply below_drew1 | refine below_set ?_ GE316.out) | exact HB.out))) : w.heap.size ≤ gb326)); have n5_ := Aside0.mk ((by rw [hg]; exact (below_size (by repeat (first | (with_reducible first | exact HB.out | apply below_alloc | apply pw_below_drewN | apply below_drew1 | refine below_set ?_ GE316.out) | exact HB.out))) : w.heap.size ≤ gb326)); have n6_ := Aside0.mk ((by rw [hg]; exact Nat.ne_of_lt (blk_lt (g := gb316) (o := .cells #[.int .i64 t314, .int .i64 t315] 25 (0, 0)) (by (with_reducible repeat (first | refine blk_drewN ?_ _ | refine blk_drew ?_ | refine blk_alloc ?_ _)); exact BK316.out)) : gb316 ≠ gb326)); have n7_ := Aside0.mk ((by rw [hg]; exact Nat.ne_of_gt (blk_lt (g := gb316) (o := .cells #[.int .i64 t314, .int .i64 t315] 25 (0, 0)) (by (with_reducible repeat (first | refine blk_drewN ?_ _ | refine blk_drew ?_ | refine blk_alloc ?_ _)); exact BK316.out)) : gb326 ≠ gb316)); clear HO322; clear BK316; clear HB; have HO322 := n0_; have BK316 := n1_; have HB := n2_; have BK326 := n3_; have GW326 := n4_; have GE326 := n5_; have NB316_326 := n6_; have NB326_316 := n7_; clear n0_ n1_ n2_ n3_ n4_ n5_ n6_ n7_; clear hb hbox hg; have hnb23 := NB326_316.out; have hnc23 := NB316_326.out; have hcz24_0 : w22.cell? ⟨gb326, 0, none⟩ = some (.int .i64 0) := (blk_cell BK326.out 0).trans rfl; have hcz24_1 : w22.cell? ⟨gb326, 1, none⟩ = some (.int .i64 0) := (blk_cell BK326.out 1).trans rfl; have hfz24_0 := blk_frozen BK326.out 0; have hfz24_1 := blk_frozen BK326.out 1))
        (try simp only [Act.put, List.setIfInBounds_toArray, List.set_cons_zero, List.set_cons_succ])
        go_cut [42] (fun v42 wc => ∃ (kq : Nat) (x42_19 : Bool), v42 = .bool x42_19 ∧ Aside0 (changeforgelaw6_DepgraphMatchesSpec.j1 kq l0 l1 t320 t323 x42_19 t314 t315 = some r) ∧ Aside0 (kq ≤ kj3) ∧ Aside0 (Kd.R (Kd.int .i64) 3 wc w.heap.size (fun _ => True) v321 t320) ∧ Aside0 (wc.heap[gb316]? = some (.cells #[.int .i64 t314, .int .i64 t315] 25 (0, 0))) ∧ Aside0 (wc.heap[gb326]? = some (.cells #[.int .i64 t324, .int .i64 t325] 25 (0, 0))) ∧ Aside0 (Below w.heap.size w wc))
        case first =>
          have H := HC20.out
          clear HC20
          by_cases c25 : (!(t324 == t314) || (!(t325 == t315))) = true
          · rw [if_pos c25] at H
            have c25b0 : (!(t324 == t314) || (!(t325 == t315))) = true := c25
            clear c25
            (first | rw [c25b0] | (simp only [i64_w, i32_w]; rw [c25b0]) | skip)
            have H' := Aside0.mk H
            clear H
            have hnb26 := NB326_316.out
            have hnc26 := NB316_326.out
            have hcz27_0 : w22.cell? ⟨gb326, 0, none⟩ = some (.int .i64 0) := (blk_cell BK326.out 0).trans rfl
            have hcz27_1 : w22.cell? ⟨gb326, 1, none⟩ = some (.int .i64 0) := (blk_cell BK326.out 1).trans rfl
            have hfz27_0 := blk_frozen BK326.out 0
            have hfz27_1 := blk_frozen BK326.out 1
            have hcz28_0 : w22.cell? ⟨gb316, 0, none⟩ = some (.int .i64 t314) := (blk_cell BK316.out 0).trans rfl
            have hcz28_1 : w22.cell? ⟨gb316, 1, none⟩ = some (.int .i64 t315) := (blk_cell BK316.out 1).trans rfl
            have hfz28_0 := blk_frozen BK316.out 0
            have hfz28_1 := blk_frozen BK316.out 1
            go_wp2
            go_meet
            case rel => exact ⟨_, (true), (by first | rfl | (simp; done) | (simp [*]; done)), H', ⟨by have := HJ3.out; first | omega | exact Nat.le_refl _⟩, ⟨by (with_reducible repeat (first | apply Kd.R_alloc | apply Kd.R_drewN | apply Kd.R_drew)); exact Kd.R_mono (Kd.R_far (p := ⟨gb326, 1, none⟩) (Kd.R_far (p := ⟨gb326, 0, none⟩) (Kd.R_types HO322.out BK326.out (by decide)) (fun _ hk => hk.2) (.int .i64 t324)) (fun _ hk => hk.2) (.int .i64 t325)) (fun _ hk => trivial)⟩, ⟨by (with_reducible repeat (first | refine blk_drewN ?_ _ | refine blk_drew ?_ | refine blk_alloc ?_ _)); refine blk_far ?_ NB316_326.out _; (with_reducible repeat (first | refine blk_drewN ?_ _ | refine blk_drew ?_ | refine blk_alloc ?_ _)); refine blk_far ?_ NB316_326.out _; (with_reducible repeat (first | refine blk_drewN ?_ _ | refine blk_drew ?_ | refine blk_alloc ?_ _)); exact BK316.out⟩, ⟨by (with_reducible repeat (first | refine blk_drewN ?_ _ | refine blk_drew ?_ | refine blk_alloc ?_ _)); refine blk_put (cs := #[.int .i64 t324, .int .i64 0]) ?_ 1 _ rfl; (with_reducible repeat (first | refine blk_drewN ?_ _ | refine blk_drew ?_ | refine blk_alloc ?_ _)); refine blk_put (cs := #[.int .i64 0, .int .i64 0]) ?_ 0 _ rfl; (with_reducible repeat (first | refine blk_drewN ?_ _ | refine blk_drew ?_ | refine blk_alloc ?_ _)); exact BK326.out⟩, ⟨by repeat (first | (with_reducible first | exact HB.out | apply below_alloc | apply pw_below_drewN | apply below_drew1 | refine below_set ?_ GE316.out | refine below_set ?_ GE326.out) | exact HB.out)⟩⟩
          · rw [if_neg c25] at H
            have c25b0 : (!(t324 == t314) || (!(t325 == t315))) = false := by simpa using c25
            clear c25
            (first | rw [c25b0] | (simp only [i64_w, i32_w]; rw [c25b0]) | skip)
            by_cases c29 : t314 = 0
            · rw [if_pos c29] at H
              have c29b0 : (t314 == 0) = true := beq_iff_eq.mpr c29
              have c29b1 : (t314 != 0) = false := bne_eq_false_iff_eq.mpr c29
              clear c29
              have H' := Aside0.mk H
              clear H
              have hnb30 := NB326_316.out
              have hnc30 := NB316_326.out
              have hcz31_0 : w22.cell? ⟨gb326, 0, none⟩ = some (.int .i64 0) := (blk_cell BK326.out 0).trans rfl
              have hcz31_1 : w22.cell? ⟨gb326, 1, none⟩ = some (.int .i64 0) := (blk_cell BK326.out 1).trans rfl
              have hfz31_0 := blk_frozen BK326.out 0
              have hfz31_1 := blk_frozen BK326.out 1
              have hcz32_0 : w22.cell? ⟨gb316, 0, none⟩ = some (.int .i64 t314) := (blk_cell BK316.out 0).trans rfl
              have hcz32_1 : w22.cell? ⟨gb316, 1, none⟩ = some (.int .i64 t315) := (blk_cell BK316.out 1).trans rfl
              have hfz32_0 := blk_frozen BK316.out 0
              have hfz32_1 := blk_frozen BK316.out 1
              go_wp2
              go_meet
              case rel => exact ⟨_, (false), (by first | rfl | (simp; done) | (simp [*]; done)), H', ⟨by have := HJ3.out; first | omega | exact Nat.le_refl _⟩, ⟨by (with_reducible repeat (first | apply Kd.R_alloc | apply Kd.R_drewN | apply Kd.R_drew)); exact Kd.R_mono (Kd.R_far (p := ⟨gb326, 1, none⟩) (Kd.R_far (p := ⟨gb326, 0, none⟩) (Kd.R_types HO322.out BK326.out (by decide)) (fun _ hk => hk.2) (.int .i64 t324)) (fun _ hk => hk.2) (.int .i64 t325)) (fun _ hk => trivial)⟩, ⟨by (with_reducible repeat (first | refine blk_drewN ?_ _ | refine blk_drew ?_ | refine blk_alloc ?_ _)); refine blk_far ?_ NB316_326.out _; (with_reducible repeat (first | refine blk_drewN ?_ _ | refine blk_drew ?_ | refine blk_alloc ?_ _)); refine blk_far ?_ NB316_326.out _; (with_reducible repeat (first | refine blk_drewN ?_ _ | refine blk_drew ?_ | refine blk_alloc ?_ _)); exact BK316.out⟩, ⟨by (with_reducible repeat (first | refine blk_drewN ?_ _ | refine blk_drew ?_ | refine blk_alloc ?_ _)); refine blk_put (cs := #[.int .i64 t324, .int .i64 0]) ?_ 1 _ rfl; (with_reducible repeat (first | refine blk_drewN ?_ _ | refine blk_drew ?_ | refine blk_alloc ?_ _)); refine blk_put (cs := #[.int .i64 0, .int .i64 0]) ?_ 0 _ rfl; (with_reducible repeat (first | refine blk_drewN ?_ _ | refine blk_drew ?_ | refine blk_alloc ?_ _)); exact BK326.out⟩, ⟨by repeat (first | (with_reducible first | exact HB.out | apply below_alloc | apply pw_below_drewN | apply below_drew1 | refine below_set ?_ GE316.out | refine below_set ?_ GE326.out) | exact HB.out)⟩⟩
            · rw [if_neg c29] at H
              have c29b0 : (t314 == 0) = false := beq_eq_false_iff_ne.mpr c29
              have c29b1 : (t314 != 0) = true := bne_iff_ne.mpr c29
              by_cases c33 : t323 = true
              · subst c33
                have H1 : (changeforgelaw6_DepgraphMatchesSpec.j1 kj3 l0 l1 t320 true true t314 t315) = some r := by rw [if_pos rfl] at H; exact H
                clear H
                have H := H1
                clear H1
                have H' := Aside0.mk H
                clear H
                have hnb34 := NB326_316.out
                have hnc34 := NB316_326.out
                have hcz35_0 : w22.cell? ⟨gb326, 0, none⟩ = some (.int .i64 0) := (blk_cell BK326.out 0).trans rfl
                have hcz35_1 : w22.cell? ⟨gb326, 1, none⟩ = some (.int .i64 0) := (blk_cell BK326.out 1).trans rfl
                have hfz35_0 := blk_frozen BK326.out 0
                have hfz35_1 := blk_frozen BK326.out 1
                have hcz36_0 : w22.cell? ⟨gb316, 0, none⟩ = some (.int .i64 t314) := (blk_cell BK316.out 0).trans rfl
                have hcz36_1 : w22.cell? ⟨gb316, 1, none⟩ = some (.int .i64 t315) := (blk_cell BK316.out 1).trans rfl
                have hfz36_0 := blk_frozen BK316.out 0
                have hfz36_1 := blk_frozen BK316.out 1
                go_wp2
                go_meet
                case rel => exact ⟨_, (true), (by first | rfl | (simp; done) | (simp [*]; done)), H', ⟨by have := HJ3.out; first | omega | exact Nat.le_refl _⟩, ⟨by (with_reducible repeat (first | apply Kd.R_alloc | apply Kd.R_drewN | apply Kd.R_drew)); exact Kd.R_mono (Kd.R_far (p := ⟨gb326, 1, none⟩) (Kd.R_far (p := ⟨gb326, 0, none⟩) (Kd.R_types HO322.out BK326.out (by decide)) (fun _ hk => hk.2) (.int .i64 t324)) (fun _ hk => hk.2) (.int .i64 t325)) (fun _ hk => trivial)⟩, ⟨by (with_reducible repeat (first | refine blk_drewN ?_ _ | refine blk_drew ?_ | refine blk_alloc ?_ _)); refine blk_far ?_ NB316_326.out _; (with_reducible repeat (first | refine blk_drewN ?_ _ | refine blk_drew ?_ | refine blk_alloc ?_ _)); refine blk_far ?_ NB316_326.out _; (with_reducible repeat (first | refine blk_drewN ?_ _ | refine blk_drew ?_ | refine blk_alloc ?_ _)); exact BK316.out⟩, ⟨by (with_reducible repeat (first | refine blk_drewN ?_ _ | refine blk_drew ?_ | refine blk_alloc ?_ _)); refine blk_put (cs := #[.int .i64 t324, .int .i64 0]) ?_ 1 _ rfl; (with_reducible repeat (first | refine blk_drewN ?_ _ | refine blk_drew ?_ | refine blk_alloc ?_ _)); refine blk_put (cs := #[.int .i64 0, .int .i64 0]) ?_ 0 _ rfl; (with_reducible repeat (first | refine blk_drewN ?_ _ | refine blk_drew ?_ | refine blk_alloc ?_ _)); exact BK326.out⟩, ⟨by repeat (first | (with_reducible first | exact HB.out | apply below_alloc | apply pw_below_drewN | apply below_drew1 | refine below_set ?_ GE316.out | refine below_set ?_ GE326.out) | exact HB.out)⟩⟩
              · replace c33 := Bool.eq_false_iff.mpr c33
                subst c33
                have H1 : (changeforgelaw6_DepgraphMatchesSpec.j1 kj3 l0 l1 t320 false (decide ((t320.length : Int) > 0)) t314 t315) = some r := by rw [if_neg (show ¬ (false = true) by decide)] at H; exact H
                clear H
                have H := H1
                clear H1
                have H' := Aside0.mk H
                clear H
                have hnb37 := NB326_316.out
                have hnc37 := NB316_326.out
                have hcz38_0 : w22.cell? ⟨gb326, 0, none⟩ = some (.int .i64 0) := (blk_cell BK326.out 0).trans rfl
                have hcz38_1 : w22.cell? ⟨gb326, 1, none⟩ = some (.int .i64 0) := (blk_cell BK326.out 1).trans rfl
                have hfz38_0 := blk_frozen BK326.out 0
                have hfz38_1 := blk_frozen BK326.out 1
                have hcz39_0 : w22.cell? ⟨gb316, 0, none⟩ = some (.int .i64 t314) := (blk_cell BK316.out 0).trans rfl
                have hcz39_1 : w22.cell? ⟨gb316, 1, none⟩ = some (.int .i64 t315) := (blk_cell BK316.out 1).trans rfl
                have hfz39_0 := blk_frozen BK316.out 0
                have hfz39_1 := blk_frozen BK316.out 1
                obtain ⟨Ao40, co40, eo40⟩ := Kd.R_slice HO322.out
                subst eo40
                go_wp2
                go_meet
                case rel => exact ⟨_, (decide ((t320.length : Int) > 0)), (by first | rfl | (simp; done) | (simp [*]; done)), H', ⟨by have := HJ3.out; first | omega | exact Nat.le_refl _⟩, ⟨by (with_reducible repeat (first | apply Kd.R_alloc | apply Kd.R_drewN | apply Kd.R_drew)); exact Kd.R_mono (Kd.R_far (p := ⟨gb326, 1, none⟩) (Kd.R_far (p := ⟨gb326, 0, none⟩) (Kd.R_types HO322.out BK326.out (by decide)) (fun _ hk => hk.2) (.int .i64 t324)) (fun _ hk => hk.2) (.int .i64 t325)) (fun _ hk => trivial)⟩, ⟨by (with_reducible repeat (first | refine blk_drewN ?_ _ | refine blk_drew ?_ | refine blk_alloc ?_ _)); refine blk_far ?_ NB316_326.out _; (with_reducible repeat (first | refine blk_drewN ?_ _ | refine blk_drew ?_ | refine blk_alloc ?_ _)); refine blk_far ?_ NB316_326.out _; (with_reducible repeat (first | refine blk_drewN ?_ _ | refine blk_drew ?_ | refine blk_alloc ?_ _)); exact BK316.out⟩, ⟨by (with_reducible repeat (first | refine blk_drewN ?_ _ | refine blk_drew ?_ | refine blk_alloc ?_ _)); refine blk_put (cs := #[.int .i64 t324, .int .i64 0]) ?_ 1 _ rfl; (with_reducible repeat (first | refine blk_drewN ?_ _ | refine blk_drew ?_ | refine blk_alloc ?_ _)); refine blk_put (cs := #[.int .i64 0, .int .i64 0]) ?_ 0 _ rfl; (with_reducible repeat (first | refine blk_drewN ?_ _ | refine blk_drew ?_ | refine blk_alloc ?_ _)); exact BK326.out⟩, ⟨by repeat (first | (with_reducible first | exact HB.out | apply below_alloc | apply pw_below_drewN | apply below_drew1 | refine below_set ?_ GE316.out | refine below_set ?_ GE326.out) | exact HB.out)⟩⟩
        case rest =>
          clear HC20
          try clear c1
          try clear c2
          try clear p2
          try clear c3
          try clear c9
          try clear c10
          try clear c11
          try clear c12
          try clear c18
          try clear c23
          try clear c25
          try clear c25b0
          try clear c26
          try clear c29
          try clear c29b0
          try clear c29b1
          try clear c30
          try clear c33
          try clear c34
          try clear c37
          try clear hcz24_0
          try clear hcz24_1
          try clear hcz27_0
          try clear hcz27_1
          try clear hcz28_0
          try clear hcz28_1
          try clear hcz31_0
          try clear hcz31_1
          try clear hcz32_0
          try clear hcz32_1
          try clear hcz35_0
          try clear hcz35_1
          try clear hcz36_0
          try clear hcz36_1
          try clear hcz38_0
          try clear hcz38_1
          try clear hcz39_0
          try clear hcz39_1
          try clear hcz7_0
          try clear hcz7_1
          try clear hfz24_0
          try clear hfz24_1
          try clear hfz27_0
          try clear hfz27_1
          try clear hfz28_0
          try clear hfz28_1
          try clear hfz31_0
          try clear hfz31_1
          try clear hfz32_0
          try clear hfz32_1
          try clear hfz35_0
          try clear hfz35_1
          try clear hfz36_0
          try clear hfz36_1
          try clear hfz38_0
          try clear hfz38_1
          try clear hfz39_0
          try clear hfz39_1
          try clear hfz7_0
          try clear hfz7_1
          try clear p2
          obtain ⟨kq, x42_19, rfl, HA, HJ19, HO_6, BK316, BK326, HB⟩ := hcut
          cases kq with
          | zero => exact absurd HA.out (by simp [changeforgelaw6_DepgraphMatchesSpec.j1])
          | succ kj19 =>
            have H := HA.out
            clear HA
            simp only [changeforgelaw6_DepgraphMatchesSpec.j1] at H
            by_cases c41 : x42_19 = true
            · subst c41
              have H1 : (some false) = some r := by rw [if_pos rfl] at H; exact H
              clear H
              have H := H1
              clear H1
              obtain rfl := Option.some.inj H
              go_wp2
              go_ret
              exact ⟨by first | rfl | (simp [errW_none, errW_some] <;> rfl) | (simp [*, errW_none, errW_some] <;> rfl), by repeat (first | (with_reducible first | exact HB.out | apply below_alloc | apply pw_below_drewN | apply below_drew1 | refine below_set ?_ GE316.out | refine below_set ?_ GE326.out) | exact HB.out)⟩
            · replace c41 := Bool.eq_false_iff.mpr c41
              subst c41
              have H1 : (if t314 = 0 then ((changeforgeref6_FirstOnCycle.f kj19 l0).bind fun t327 => (if (t323 != (decide (t327 ≥ 0))) = true then (some false) else (if t323 = true then ((changeforgeref6_ShortestCycle.f kj19 l0 t327).bind fun t328 => ((changeforgeref5_Ints.f kj19 t320 t328).bind fun t331 => (if t331 = true then (changeforgelaw6_DepgraphMatchesSpec.j2 kj19 l0 l1) else (some false)))) else (if (t320.length : Int) > 0 then (some false) else (changeforgelaw6_DepgraphMatchesSpec.j2 kj19 l0 l1))))) else (changeforgelaw6_DepgraphMatchesSpec.j2 kj19 l0 l1)) = some r := by rw [if_neg (show ¬ (false = true) by decide)] at H; exact H
              clear H
              have H := H1
              clear H1
              have HC42 := Aside0.mk H
              clear H
              have hnb43 := NB316_326.out
              have hnc43 := NB326_316.out
              have hcz44_0 : wc.cell? ⟨gb316, 0, none⟩ = some (.int .i64 t314) := (blk_cell BK316.out 0).trans rfl
              have hcz44_1 : wc.cell? ⟨gb316, 1, none⟩ = some (.int .i64 t315) := (blk_cell BK316.out 1).trans rfl
              have hfz44_0 := blk_frozen BK316.out 0
              have hfz44_1 := blk_frozen BK316.out 1
              go_upto_if 45 with (fail)
              go_cut [] (fun wc => ∃ (kq : Nat), Aside0 (changeforgelaw6_DepgraphMatchesSpec.j2 kq l0 l1 = some r) ∧ Aside0 (kq ≤ kj19) ∧ Aside0 (wc.heap[gb316]? = some (.cells #[.int .i64 t314, .int .i64 t315] 25 (0, 0))) ∧ Aside0 (wc.heap[gb326]? = some (.cells #[.int .i64 t324, .int .i64 t325] 25 (0, 0))) ∧ Aside0 (Below w.heap.size w wc))
              case first =>
                have H := HC42.out
                clear HC42
                by_cases c45 : t314 = 0
                · rw [if_pos c45] at H
                  have c45b0 : (t314 == 0) = true := beq_iff_eq.mpr c45
                  have c45b1 : (t314 != 0) = false := bne_eq_false_iff_eq.mpr c45
                  clear c45
                  (first | rw [c45b0] | (simp only [i64_w, i32_w]; rw [c45b0]) | skip)
                  replace H := Option.bind_eq_some_iff.mp H
                  obtain ⟨t327, A460, H⟩ := H
                  replace H : (if (t323 != (decide (t327 ≥ 0))) = true then (some false) else (if t323 = true then ((changeforgeref6_ShortestCycle.f kj19 l0 t327).bind fun t328 => ((changeforgeref5_Ints.f kj19 t320 t328).bind fun t331 => (if t331 = true then (changeforgelaw6_DepgraphMatchesSpec.j2 kj19 l0 l1) else (some false)))) else (if (t320.length : Int) > 0 then (some false) else (changeforgelaw6_DepgraphMatchesSpec.j2 kj19 l0 l1)))) = some r := H
                  have A46 := Aside0.mk A460
                  clear A460
                  by_cases c47 : (t323 != (decide (t327 ≥ 0))) = true
                  · rw [if_pos c47] at H
                    have c47b0 : (t323 != (decide (t327 ≥ 0))) = true := c47
                    (try (have c47b1 : decide (t323 = (decide (t327 ≥ 0))) = false := by simpa using c47))
                    (try (have c47b2 : (t323 == (decide (t327 ≥ 0))) = false := by simpa using c47))
                    (try (have c47b3 : ¬ (t323 = (decide (t327 ≥ 0))) := by simpa using c47))
                    clear c47
                    obtain rfl := Option.some.inj H
                    go_wp2_with (first | ((with_reducible refine gate_callee (f := 13) rfl ?_); refine goesL_ (some 47) rfl rfl Try.func13 (by kernel_rfl) rfl #[.slice A0 l0.length c0] rfl (by (try simp only [List.map_toArray, List.map_cons, List.map_nil]); first | done | rfl | (simp only [List.length_drop, List.length_take]; rfl)) ?_; (with_reducible refine (changeforgeref6_FirstOnCycle.calls kj19 _ _ l0 t327 _ ?side1 ?side2 A46.out).mono ?_); (case side1 => repeat (first | exact (Kd.C_below HR0.out HB.out) | (with_reducible refine Kd.C_alloc ?_ _) | (with_reducible refine Kd.C_drewN ?_ _) | (with_reducible refine Kd.C_drew ?_))); (case side2 => exact HC0.out); rintro e w48 ⟨rfl, hb⟩; refine ⟨_, rfl, ?_⟩; have n0_ := Aside0.mk (Kd.R_below (by (with_reducible repeat (first | apply Kd.R_alloc | apply Kd.R_drewN | apply Kd.R_drew)); exact HO_6.out) hb); have n1_ := Aside0.mk (blk_below (g := gb316) (o := .cells #[.int .i64 t314, .int .i64 t315] 25 (0, 0)) (by (with_reducible repeat (first | refine blk_drewN ?_ _ | refine blk_drew ?_ | refine blk_alloc ?_ _)); exact BK316.out) hb); have n2_ := Aside0.mk (blk_below (g := gb326) (o := .cells #[.int .i64 t324, .int .i64 t325] 25 (0, 0)) (by (with_reducible repeat (first | refine blk_drewN ?_ _ | refine blk_drew ?_ | refine blk_alloc ?_ _)); exact BK326.out) hb); have n3_ := Aside0.mk (below_step (by repeat (first | (with_reducible first | exact HB.out | apply below_alloc | apply pw_below_drewN | apply below_drew1 | refine below_set ?_ GE316.out | refine below_set ?_ GE326.out) | exact HB.out)) hb); clear HO_6; clear BK316; clear BK326; clear HB; have HO_6 := n0_; have BK316 := n1_; have BK326 := n2_; have HB := n3_; clear n0_ n1_ n2_ n3_; (try clear hb); (try clear hb2); (try clear hk); (try clear hi)))
                    go_ret
                    exact ⟨by first | rfl | (simp [errW_none, errW_some] <;> rfl) | (simp [*, errW_none, errW_some] <;> rfl), by repeat (first | (with_reducible first | exact HB.out | apply below_alloc | apply pw_below_drewN | apply below_drew1 | refine below_set ?_ GE316.out | refine below_set ?_ GE326.out) | exact HB.out)⟩
                  · rw [if_neg c47] at H
                    have c47b0 : (t323 != (decide (t327 ≥ 0))) = false := by simpa using c47
                    (try (have c47b1 : decide (t323 = (decide (t327 ≥ 0))) = true := by simpa using c47))
                    (try (have c47b2 : (t323 == (decide (t327 ≥ 0))) = true := by simpa using c47))
                    clear c47
                    by_cases c49 : t323 = true
                    · subst c49
                      have H1 : ((changeforgeref6_ShortestCycle.f kj19 l0 t327).bind fun t328 => ((changeforgeref5_Ints.f kj19 t320 t328).bind fun t331 => (if t331 = true then (changeforgelaw6_DepgraphMatchesSpec.j2 kj19 l0 l1) else (some false)))) = some r := by rw [if_pos rfl] at H; exact H
                      clear H
                      have H := H1
                      clear H1
                      replace H := Option.bind_eq_some_iff.mp H
                      obtain ⟨t328, A500, H⟩ := H
                      replace H : ((changeforgeref5_Ints.f kj19 t320 t328).bind fun t331 => (if t331 = true then (changeforgelaw6_DepgraphMatchesSpec.j2 kj19 l0 l1) else (some false))) = some r := H
                      have A50 := Aside0.mk A500
                      clear A500
                      replace H := Option.bind_eq_some_iff.mp H
                      obtain ⟨t331, A510, H⟩ := H
                      replace H : (if t331 = true then (changeforgelaw6_DepgraphMatchesSpec.j2 kj19 l0 l1) else (some false)) = some r := H
                      have A51 := Aside0.mk A510
                      clear A510
                      by_cases c52 : t331 = true
                      · subst c52
                        have H1 : (changeforgelaw6_DepgraphMatchesSpec.j2 kj19 l0 l1) = some r := by rw [if_pos rfl] at H; exact H
                        clear H
                        have H := H1
                        clear H1
                        have H' := Aside0.mk H
                        clear H
                        go_wp2_with (first | ((with_reducible refine gate_callee (f := 13) rfl ?_); refine goesL_ (some 47) rfl rfl Try.func13 (by kernel_rfl) rfl #[.slice A0 l0.length c0] rfl (by (try simp only [List.map_toArray, List.map_cons, List.map_nil]); first | done | rfl | (simp only [List.length_drop, List.length_take]; rfl)) ?_; (with_reducible refine (changeforgeref6_FirstOnCycle.calls kj19 _ _ l0 t327 _ ?side1 ?side2 A46.out).mono ?_); (case side1 => repeat (first | exact (Kd.C_below HR0.out HB.out) | (with_reducible refine Kd.C_alloc ?_ _) | (with_reducible refine Kd.C_drewN ?_ _) | (with_reducible refine Kd.C_drew ?_))); (case side2 => exact HC0.out); rintro e w53 ⟨rfl, hb⟩; refine ⟨_, rfl, ?_⟩; have n0_ := Aside0.mk (Kd.R_below (by (with_reducible repeat (first | apply Kd.R_alloc | apply Kd.R_drewN | apply Kd.R_drew)); exact HO_6.out) hb); have n1_ := Aside0.mk (blk_below (g := gb316) (o := .cells #[.int .i64 t314, .int .i64 t315] 25 (0, 0)) (by (with_reducible repeat (first | refine blk_drewN ?_ _ | refine blk_drew ?_ | refine blk_alloc ?_ _)); exact BK316.out) hb); have n2_ := Aside0.mk (blk_below (g := gb326) (o := .cells #[.int .i64 t324, .int .i64 t325] 25 (0, 0)) (by (with_reducible repeat (first | refine blk_drewN ?_ _ | refine blk_drew ?_ | refine blk_alloc ?_ _)); exact BK326.out) hb); have n3_ := Aside0.mk (below_step (by repeat (first | (with_reducible first | exact HB.out | apply below_alloc | apply pw_below_drewN | apply below_drew1 | refine below_set ?_ GE316.out | refine below_set ?_ GE326.out) | exact HB.out)) hb); clear HO_6; clear BK316; clear BK326; clear HB; have HO_6 := n0_; have BK316 := n1_; have BK326 := n2_; have HB := n3_; clear n0_ n1_ n2_ n3_; (try clear hb); (try clear hb2); (try clear hk); (try clear hi)) | (go_at_call 15; (with_reducible refine (changeforgeref6_ShortestCycle.calls kj19 _ _ l0 t327 t328 _ ?side1 ?side2 A50.out).mono ?_); (case side1 => repeat (first | exact (Kd.C_below HR0.out HB.out) | (with_reducible refine Kd.C_alloc ?_ _) | (with_reducible refine Kd.C_drewN ?_ _) | (with_reducible refine Kd.C_drew ?_))); (case side2 => exact HC0.out); rintro e w54 ⟨v329, rfl, ho0, hb⟩; have n0_ := Aside0.mk (Kd.R_elder' (by (with_reducible repeat (first | apply Kd.R_alloc | apply Kd.R_drewN | apply Kd.R_drew)); exact HO_6.out) (Kd.R_base ho0) hb); have n1_ := Aside0.mk (Kd.R_lower (Kd.R_new' ho0 (Kd.R_lt (by (with_reducible repeat (first | apply Kd.R_alloc | apply Kd.R_drewN | apply Kd.R_drew)); exact HO_6.out))) (below_size (by repeat (first | (with_reducible first | exact HB.out | apply below_alloc | apply pw_below_drewN | apply below_drew1 | refine below_set ?_ GE316.out | refine below_set ?_ GE326.out) | exact HB.out)))); have n2_ := Aside0.mk (blk_below (g := gb316) (o := .cells #[.int .i64 t314, .int .i64 t315] 25 (0, 0)) (by (with_reducible repeat (first | refine blk_drewN ?_ _ | refine blk_drew ?_ | refine blk_alloc ?_ _)); exact BK316.out) hb); have n3_ := Aside0.mk (blk_below (g := gb326) (o := .cells #[.int .i64 t324, .int .i64 t325] 25 (0, 0)) (by (with_reducible repeat (first | refine blk_drewN ?_ _ | refine blk_drew ?_ | refine blk_alloc ?_ _)); exact BK326.out) hb); have n4_ := Aside0.mk (below_step (by repeat (first | (with_reducible first | exact HB.out | apply below_alloc | apply pw_below_drewN | apply below_drew1 | refine below_set ?_ GE316.out | refine below_set ?_ GE326.out) | exact HB.out)) hb); clear HO_6; clear BK316; clear BK326; clear HB; have HO_6 := n0_; have HO330 := n1_; have BK316 := n2_; have BK326 := n3_; have HB := n4_; clear n0_ n1_ n2_ n3_ n4_; (try clear hb); (try clear hb2); (try clear hk); (try clear hi); (try clear ho0); obtain ⟨Ao55, co55, eo55⟩ := Kd.R_slice HO_6.out; subst eo55; obtain ⟨Ao56, co56, eo56⟩ := Kd.R_slice HO330.out; subst eo56) | (go_at_call 14; (with_reducible refine (changeforgeref5_Ints.calls kj19 _ _ t320 _ _ t328 true _ ?side1 ?side2 ?side3 ?side4 A51.out).mono ?_); (case side1 => repeat (first | exact (Kd.R_reads' HO_6.out).2.2 | (with_reducible refine Kd.C_alloc ?_ _) | (with_reducible refine Kd.C_drewN ?_ _) | (with_reducible refine Kd.C_drew ?_))); (case side2 => exact (Kd.R_reads' HO_6.out).2.1); (case side3 => repeat (first | exact (Kd.R_reads' HO330.out).2.2 | (with_reducible refine Kd.C_alloc ?_ _) | (with_reducible refine Kd.C_drewN ?_ _) | (with_reducible refine Kd.C_drew ?_))); (case side4 => exact (Kd.R_reads' HO330.out).2.1); rintro e w' ⟨rfl, ⟨nd, rfl⟩⟩))
                        go_meet
                        case rel => exact ⟨_, H', ⟨by have := HJ3.out; have := HJ19.out; first | omega | exact Nat.le_refl _⟩, ⟨by (with_reducible repeat (first | refine blk_drewN ?_ _ | refine blk_drew ?_ | refine blk_alloc ?_ _)); exact BK316.out⟩, ⟨by (with_reducible repeat (first | refine blk_drewN ?_ _ | refine blk_drew ?_ | refine blk_alloc ?_ _)); exact BK326.out⟩, ⟨by repeat (first | (with_reducible first | exact HB.out | apply below_alloc | apply pw_below_drewN | apply below_drew1 | refine below_set ?_ GE316.out | refine below_set ?_ GE326.out) | exact HB.out)⟩⟩
                      · replace c52 := Bool.eq_false_iff.mpr c52
                        subst c52
                        have H1 : (some false) = some r := by rw [if_neg (show ¬ (false = true) by decide)] at H; exact H
                        clear H
                        have H := H1
                        clear H1
                        obtain rfl := Option.some.inj H
                        go_wp2_with (first | ((with_reducible refine gate_callee (f := 13) rfl ?_); refine goesL_ (some 47) rfl rfl Try.func13 (by kernel_rfl) rfl #[.slice A0 l0.length c0] rfl (by (try simp only [List.map_toArray, List.map_cons, List.map_nil]); first | done | rfl | (simp only [List.length_drop, List.length_take]; rfl)) ?_; (with_reducible refine (changeforgeref6_FirstOnCycle.calls kj19 _ _ l0 t327 _ ?side1 ?side2 A46.out).mono ?_); (case side1 => repeat (first | exact (Kd.C_below HR0.out HB.out) | (with_reducible refine Kd.C_alloc ?_ _) | (with_reducible refine Kd.C_drewN ?_ _) | (with_reducible refine Kd.C_drew ?_))); (case side2 => exact HC0.out); rintro e w57 ⟨rfl, hb⟩; refine ⟨_, rfl, ?_⟩; have n0_ := Aside0.mk (Kd.R_below (by (with_reducible repeat (first | apply Kd.R_alloc | apply Kd.R_drewN | apply Kd.R_drew)); exact HO_6.out) hb); have n1_ := Aside0.mk (blk_below (g := gb316) (o := .cells #[.int .i64 t314, .int .i64 t315] 25 (0, 0)) (by (with_reducible repeat (first | refine blk_drewN ?_ _ | refine blk_drew ?_ | refine blk_alloc ?_ _)); exact BK316.out) hb); have n2_ := Aside0.mk (blk_below (g := gb326) (o := .cells #[.int .i64 t324, .int .i64 t325] 25 (0, 0)) (by (with_reducible repeat (first | refine blk_drewN ?_ _ | refine blk_drew ?_ | refine blk_alloc ?_ _)); exact BK326.out) hb); have n3_ := Aside0.mk (below_step (by repeat (first | (with_reducible first | exact HB.out | apply below_alloc | apply pw_below_drewN | apply below_drew1 | refine below_set ?_ GE316.out | refine below_set ?_ GE326.out) | exact HB.out)) hb); clear HO_6; clear BK316; clear BK326; clear HB; have HO_6 := n0_; have BK316 := n1_; have BK326 := n2_; have HB := n3_; clear n0_ n1_ n2_ n3_; (try clear hb); (try clear hb2); (try clear hk); (try clear hi)) | (go_at_call 15; (with_reducible refine (changeforgeref6_ShortestCycle.calls kj19 _ _ l0 t327 t328 _ ?side1 ?side2 A50.out).mono ?_); (case side1 => repeat (first | exact (Kd.C_below HR0.out HB.out) | (with_reducible refine Kd.C_alloc ?_ _) | (with_reducible refine Kd.C_drewN ?_ _) | (with_reducible refine Kd.C_drew ?_))); (case side2 => exact HC0.out); rintro e w58 ⟨v329, rfl, ho0, hb⟩; have n0_ := Aside0.mk (Kd.R_elder' (by (with_reducible repeat (first | apply Kd.R_alloc | apply Kd.R_drewN | apply Kd.R_drew)); exact HO_6.out) (Kd.R_base ho0) hb); have n1_ := Aside0.mk (Kd.R_lower (Kd.R_new' ho0 (Kd.R_lt (by (with_reducible repeat (first | apply Kd.R_alloc | apply Kd.R_drewN | apply Kd.R_drew)); exact HO_6.out))) (below_size (by repeat (first | (with_reducible first | exact HB.out | apply below_alloc | apply pw_below_drewN | apply below_drew1 | refine below_set ?_ GE316.out | refine below_set ?_ GE326.out) | exact HB.out)))); have n2_ := Aside0.mk (blk_below (g := gb316) (o := .cells #[.int .i64 t314, .int .i64 t315] 25 (0, 0)) (by (with_reducible repeat (first | refine blk_drewN ?_ _ | refine blk_drew ?_ | refine blk_alloc ?_ _)); exact BK316.out) hb); have n3_ := Aside0.mk (blk_below (g := gb326) (o := .cells #[.int .i64 t324, .int .i64 t325] 25 (0, 0)) (by (with_reducible repeat (first | refine blk_drewN ?_ _ | refine blk_drew ?_ | refine blk_alloc ?_ _)); exact BK326.out) hb); have n4_ := Aside0.mk (below_step (by repeat (first | (with_reducible first | exact HB.out | apply below_alloc | apply pw_below_drewN | apply below_drew1 | refine below_set ?_ GE316.out | refine below_set ?_ GE326.out) | exact HB.out)) hb); clear HO_6; clear BK316; clear BK326; clear HB; have HO_6 := n0_; have HO330 := n1_; have BK316 := n2_; have BK326 := n3_; have HB := n4_; clear n0_ n1_ n2_ n3_ n4_; (try clear hb); (try clear hb2); (try clear hk); (try clear hi); (try clear ho0); obtain ⟨Ao59, co59, eo59⟩ := Kd.R_slice HO_6.out; subst eo59; obtain ⟨Ao60, co60, eo60⟩ := Kd.R_slice HO330.out; subst eo60) | (go_at_call 14; (with_reducible refine (changeforgeref5_Ints.calls kj19 _ _ t320 _ _ t328 false _ ?side1 ?side2 ?side3 ?side4 A51.out).mono ?_); (case side1 => repeat (first | exact (Kd.R_reads' HO_6.out).2.2 | (with_reducible refine Kd.C_alloc ?_ _) | (with_reducible refine Kd.C_drewN ?_ _) | (with_reducible refine Kd.C_drew ?_))); (case side2 => exact (Kd.R_reads' HO_6.out).2.1); (case side3 => repeat (first | exact (Kd.R_reads' HO330.out).2.2 | (with_reducible refine Kd.C_alloc ?_ _) | (with_reducible refine Kd.C_drewN ?_ _) | (with_reducible refine Kd.C_drew ?_))); (case side4 => exact (Kd.R_reads' HO330.out).2.1); rintro e w' ⟨rfl, ⟨nd, rfl⟩⟩))
                        go_ret
                        exact ⟨by first | rfl | (simp [errW_none, errW_some] <;> rfl) | (simp [*, errW_none, errW_some] <;> rfl), by repeat (first | (with_reducible first | exact HB.out | apply below_alloc | apply pw_below_drewN | apply below_drew1 | refine below_set ?_ GE316.out | refine below_set ?_ GE326.out) | exact HB.out)⟩
                    · replace c49 := Bool.eq_false_iff.mpr c49
                      subst c49
                      have H1 : (if (t320.length : Int) > 0 then (some false) else (changeforgelaw6_DepgraphMatchesSpec.j2 kj19 l0 l1)) = some r := by rw [if_neg (show ¬ (false = true) by decide)] at H; exact H
                      clear H
                      have H := H1
                      clear H1
                      by_cases c61 : (t320.length : Int) > 0
                      · rw [if_pos c61] at H
                        have c61b0 : decide (0 < (t320.length : Int)) = true := decide_eq_true c61
                        have c61b1 : decide (0 < t320.length) = true := decide_eq_true (by omega)
                        clear c61
                        obtain rfl := Option.some.inj H
                        go_wp2_with (first | ((with_reducible refine gate_callee (f := 13) rfl ?_); refine goesL_ (some 47) rfl rfl Try.func13 (by kernel_rfl) rfl #[.slice A0 l0.length c0] rfl (by (try simp only [List.map_toArray, List.map_cons, List.map_nil]); first | done | rfl | (simp only [List.length_drop, List.length_take]; rfl)) ?_; (with_reducible refine (changeforgeref6_FirstOnCycle.calls kj19 _ _ l0 t327 _ ?side1 ?side2 A46.out).mono ?_); (case side1 => repeat (first | exact (Kd.C_below HR0.out HB.out) | (with_reducible refine Kd.C_alloc ?_ _) | (with_reducible refine Kd.C_drewN ?_ _) | (with_reducible refine Kd.C_drew ?_))); (case side2 => exact HC0.out); rintro e w62 ⟨rfl, hb⟩; refine ⟨_, rfl, ?_⟩; have n0_ := Aside0.mk (Kd.R_below (by (with_reducible repeat (first | apply Kd.R_alloc | apply Kd.R_drewN | apply Kd.R_drew)); exact HO_6.out) hb); have n1_ := Aside0.mk (blk_below (g := gb316) (o := .cells #[.int .i64 t314, .int .i64 t315] 25 (0, 0)) (by (with_reducible repeat (first | refine blk_drewN ?_ _ | refine blk_drew ?_ | refine blk_alloc ?_ _)); exact BK316.out) hb); have n2_ := Aside0.mk (blk_below (g := gb326) (o := .cells #[.int .i64 t324, .int .i64 t325] 25 (0, 0)) (by (with_reducible repeat (first | refine blk_drewN ?_ _ | refine blk_drew ?_ | refine blk_alloc ?_ _)); exact BK326.out) hb); have n3_ := Aside0.mk (below_step (by repeat (first | (with_reducible first | exact HB.out | apply below_alloc | apply pw_below_drewN | apply below_drew1 | refine below_set ?_ GE316.out | refine below_set ?_ GE326.out) | exact HB.out)) hb); clear HO_6; clear BK316; clear BK326; clear HB; have HO_6 := n0_; have BK316 := n1_; have BK326 := n2_; have HB := n3_; clear n0_ n1_ n2_ n3_; (try clear hb); (try clear hb2); (try clear hk); (try clear hi); obtain ⟨Ao63, co63, eo63⟩ := Kd.R_slice HO_6.out; subst eo63))
                        go_ret
                        exact ⟨by first | rfl | (simp [errW_none, errW_some] <;> rfl) | (simp [*, errW_none, errW_some] <;> rfl), by repeat (first | (with_reducible first | exact HB.out | apply below_alloc | apply pw_below_drewN | apply below_drew1 | refine below_set ?_ GE316.out | refine below_set ?_ GE326.out) | exact HB.out)⟩
                      · rw [if_neg c61] at H
                        have c61b0 : decide (0 < (t320.length : Int)) = false := decide_eq_false c61
                        have c61b1 : decide (0 < t320.length) = false := decide_eq_false (by omega)
                        clear c61
                        have H' := Aside0.mk H
                        clear H
                        go_wp2_with (first | ((with_reducible refine gate_callee (f := 13) rfl ?_); refine goesL_ (some 47) rfl rfl Try.func13 (by kernel_rfl) rfl #[.slice A0 l0.length c0] rfl (by (try simp only [List.map_toArray, List.map_cons, List.map_nil]); first | done | rfl | (simp only [List.length_drop, List.length_take]; rfl)) ?_; (with_reducible refine (changeforgeref6_FirstOnCycle.calls kj19 _ _ l0 t327 _ ?side1 ?side2 A46.out).mono ?_); (case side1 => repeat (first | exact (Kd.C_below HR0.out HB.out) | (with_reducible refine Kd.C_alloc ?_ _) | (with_reducible refine Kd.C_drewN ?_ _) | (with_reducible refine Kd.C_drew ?_))); (case side2 => exact HC0.out); rintro e w64 ⟨rfl, hb⟩; refine ⟨_, rfl, ?_⟩; have n0_ := Aside0.mk (Kd.R_below (by (with_reducible repeat (first | apply Kd.R_alloc | apply Kd.R_drewN | apply Kd.R_drew)); exact HO_6.out) hb); have n1_ := Aside0.mk (blk_below (g := gb316) (o := .cells #[.int .i64 t314, .int .i64 t315] 25 (0, 0)) (by (with_reducible repeat (first | refine blk_drewN ?_ _ | refine blk_drew ?_ | refine blk_alloc ?_ _)); exact BK316.out) hb); have n2_ := Aside0.mk (blk_below (g := gb326) (o := .cells #[.int .i64 t324, .int .i64 t325] 25 (0, 0)) (by (with_reducible repeat (first | refine blk_drewN ?_ _ | refine blk_drew ?_ | refine blk_alloc ?_ _)); exact BK326.out) hb); have n3_ := Aside0.mk (below_step (by repeat (first | (with_reducible first | exact HB.out | apply below_alloc | apply pw_below_drewN | apply below_drew1 | refine below_set ?_ GE316.out | refine below_set ?_ GE326.out) | exact HB.out)) hb); clear HO_6; clear BK316; clear BK326; clear HB; have HO_6 := n0_; have BK316 := n1_; have BK326 := n2_; have HB := n3_; clear n0_ n1_ n2_ n3_; (try clear hb); (try clear hb2); (try clear hk); (try clear hi); obtain ⟨Ao65, co65, eo65⟩ := Kd.R_slice HO_6.out; subst eo65))
                        go_meet
                        case rel => exact ⟨_, H', ⟨by have := HJ3.out; have := HJ19.out; first | omega | exact Nat.le_refl _⟩, ⟨by (with_reducible repeat (first | refine blk_drewN ?_ _ | refine blk_drew ?_ | refine blk_alloc ?_ _)); exact BK316.out⟩, ⟨by (with_reducible repeat (first | refine blk_drewN ?_ _ | refine blk_drew ?_ | refine blk_alloc ?_ _)); exact BK326.out⟩, ⟨by repeat (first | (with_reducible first | exact HB.out | apply below_alloc | apply pw_below_drewN | apply below_drew1 | refine below_set ?_ GE316.out | refine below_set ?_ GE326.out) | exact HB.out)⟩⟩
                · rw [if_neg c45] at H
                  have c45b0 : (t314 == 0) = false := beq_eq_false_iff_ne.mpr c45
                  have c45b1 : (t314 != 0) = true := bne_iff_ne.mpr c45
                  (first | rw [c45b0] | (simp only [i64_w, i32_w]; rw [c45b0]) | skip)
                  have H' := Aside0.mk H
                  clear H
                  go_wp2
                  go_meet
                  case rel => exact ⟨_, H', ⟨by have := HJ3.out; have := HJ19.out; first | omega | exact Nat.le_refl _⟩, ⟨by (with_reducible repeat (first | refine blk_drewN ?_ _ | refine blk_drew ?_ | refine blk_alloc ?_ _)); exact BK316.out⟩, ⟨by (with_reducible repeat (first | refine blk_drewN ?_ _ | refine blk_drew ?_ | refine blk_alloc ?_ _)); exact BK326.out⟩, ⟨by repeat (first | (with_reducible first | exact HB.out | apply below_alloc | apply pw_below_drewN | apply below_drew1 | refine below_set ?_ GE316.out | refine below_set ?_ GE326.out) | exact HB.out)⟩⟩
              case rest =>
                clear HC42
                try clear c1
                try clear c2
                try clear p2
                try clear c3
                try clear c4
                try clear c5
                try clear c6
                try clear c9
                try clear c10
                try clear c11
                try clear c12
                try clear c13
                try clear c18
                try clear c23
                try clear c25
                try clear c25b0
                try clear c26
                try clear c29
                try clear c29b0
                try clear c29b1
                try clear c30
                try clear c33
                try clear c34
                try clear c37
                try clear c41
                try clear c43
                try clear c45
                try clear c45b0
                try clear c45b1
                try clear c47
                try clear c47b0
                try clear c47b1
                try clear c47b2
                try clear c49
                try clear c52
                try clear c61
                try clear c61b0
                try clear c61b1
                try clear hcz24_0
                try clear hcz24_1
                try clear hcz27_0
                try clear hcz27_1
                try clear hcz28_0
                try clear hcz28_1
                try clear hcz31_0
                try clear hcz31_1
                try clear hcz32_0
                try clear hcz32_1
                try clear hcz35_0
                try clear hcz35_1
                try clear hcz36_0
                try clear hcz36_1
                try clear hcz38_0
                try clear hcz38_1
                try clear hcz39_0
                try clear hcz39_1
                try clear hcz44_0
                try clear hcz44_1
                try clear hcz7_0
                try clear hcz7_1
                try clear hfz24_0
                try clear hfz24_1
                try clear hfz27_0
                try clear hfz27_1
                try clear hfz28_0
                try clear hfz28_1
                try clear hfz31_0
                try clear hfz31_1
                try clear hfz32_0
                try clear hfz32_1
                try clear hfz35_0
                try clear hfz35_1
                try clear hfz36_0
                try clear hfz36_1
                try clear hfz38_0
                try clear hfz38_1
                try clear hfz39_0
                try clear hfz39_1
                try clear hfz44_0
                try clear hfz44_1
                try clear hfz7_0
                try clear hfz7_1
                try clear p2
                obtain ⟨kq, HA, HJ41, BK316, BK326, HB⟩ := hcut
                cases kq with
                | zero => exact absurd HA.out (by simp [changeforgelaw6_DepgraphMatchesSpec.j2])
                | succ kj41 =>
                  have H := HA.out
                  clear HA
                  simp only [changeforgelaw6_DepgraphMatchesSpec.j2] at H
                  replace H := Option.bind_eq_some_iff.mp H
                  obtain ⟨⟨t332, t333⟩, A660, H⟩ := H
                  replace H : ((depgraph_Affected.f kj41 l0 l1).bind fun bt334 => (if (bt334.2.1 == t332 && (bt334.2.2 == t333)) = true then (if t332 = 0 then ((changeforgeref6_Affected.f kj41 l0 l1).bind fun t339 => ((changeforgeref5_Ints.f kj41 bt334.1 t339).bind fun t342 => (some t342))) else (if (bt334.1.length : Int) = 0 then (some true) else (some false))) else (some false))) = some r := H
                  have A66 := Aside0.mk A660
                  clear A660
                  replace H := Option.bind_eq_some_iff.mp H
                  obtain ⟨⟨t334, t337, t338⟩, A670, H⟩ := H
                  replace H : (if (t337 == t332 && (t338 == t333)) = true then (if t332 = 0 then ((changeforgeref6_Affected.f kj41 l0 l1).bind fun t339 => ((changeforgeref5_Ints.f kj41 t334 t339).bind fun t342 => (some t342))) else (if (t334.length : Int) = 0 then (some true) else (some false))) else (some false)) = some r := H
                  have A67 := Aside0.mk A670
                  clear A670
                  by_cases c68 : (t337 == t332 && (t338 == t333)) = true
                  · rw [if_pos c68] at H
                    have c68b0 : (t337 == t332 && (t338 == t333)) = true := c68
                    (try (have c68b1 : decide (t337 = t332 && (t338 == t333)) = true := by simpa using c68))
                    (try (have c68b2 : (t337 == t332 && (t338 == t333)) = true := by simpa using c68))
                    clear c68
                    by_cases c69 : t332 = 0
                    · rw [if_pos c69] at H
                      have c69b0 : (t332 == 0) = true := beq_iff_eq.mpr c69
                      have c69b1 : (t332 != 0) = false := bne_eq_false_iff_eq.mpr c69
                      clear c69
                      replace H := Option.bind_eq_some_iff.mp H
                      obtain ⟨t339, A700, H⟩ := H
                      replace H : ((changeforgeref5_Ints.f kj41 t334 t339).bind fun t342 => (some t342)) = some r := H
                      have A70 := Aside0.mk A700
                      clear A700
                      replace H := Option.bind_eq_some_iff.mp H
                      obtain ⟨t342, A710, H⟩ := H
                      replace H : (some t342) = some r := H
                      have A71 := Aside0.mk A710
                      clear A710
                      obtain rfl := Option.some.inj H
                      go_wp2_with (first | ((with_reducible refine gate_callee (f := 16) rfl ?_); refine goesL_ (some 74) rfl rfl Try.func16 (by kernel_rfl) rfl #[.slice A0 l0.length c0, .slice A1 l1.length c1] rfl (by (try simp only [List.map_toArray, List.map_cons, List.map_nil]); first | done | rfl | (simp only [List.length_drop, List.length_take]; rfl)) ?_; (with_reducible refine (changeforgeref6_ChangedFault.calls kj41 _ _ l0 _ _ l1 t332 t333 _ ?side1 ?side2 ?side3 ?side4 A66.out).mono ?_); (case side1 => repeat (first | exact (Kd.C_below HR0.out HB.out) | (with_reducible refine Kd.C_alloc ?_ _) | (with_reducible refine Kd.C_drewN ?_ _) | (with_reducible refine Kd.C_drew ?_))); (case side2 => exact HC0.out); (case side3 => repeat (first | exact (Kd.C_below HR1.out HB.out) | (with_reducible refine Kd.C_alloc ?_ _) | (with_reducible refine Kd.C_drewN ?_ _) | (with_reducible refine Kd.C_drew ?_))); (case side4 => exact HC1.out); rintro e w72 ⟨rfl, hb⟩; refine ⟨_, rfl, ?_⟩; have n0_ := Aside0.mk (blk_below (g := gb316) (o := .cells #[.int .i64 t314, .int .i64 t315] 25 (0, 0)) (by (with_reducible repeat (first | refine blk_drewN ?_ _ | refine blk_drew ?_ | refine blk_alloc ?_ _)); exact BK316.out) hb); have n1_ := Aside0.mk (blk_below (g := gb326) (o := .cells #[.int .i64 t324, .int .i64 t325] 25 (0, 0)) (by (with_reducible repeat (first | refine blk_drewN ?_ _ | refine blk_drew ?_ | refine blk_alloc ?_ _)); exact BK326.out) hb); have n2_ := Aside0.mk (below_step (by repeat (first | (with_reducible first | exact HB.out | apply below_alloc | apply pw_below_drewN | apply below_drew1 | refine below_set ?_ GE316.out | refine below_set ?_ GE326.out) | exact HB.out)) hb); clear BK316; clear BK326; clear HB; have BK316 := n0_; have BK326 := n1_; have HB := n2_; clear n0_ n1_ n2_; (try clear hb); (try clear hb2); (try clear hk); (try clear hi); have hnb73 := NB316_326.out; have hnc73 := NB326_316.out; have hcz74_0 : w72.cell? ⟨gb316, 0, none⟩ = some (.int .i64 t314) := (blk_cell BK316.out 0).trans rfl; have hcz74_1 : w72.cell? ⟨gb316, 1, none⟩ = some (.int .i64 t315) := (blk_cell BK316.out 1).trans rfl; have hfz74_0 := blk_frozen BK316.out 0; have hfz74_1 := blk_frozen BK316.out 1) | ((with_reducible refine gate_callee (f := 17) rfl ?_); refine goesL_ (some 78) rfl rfl Try.func17 (by kernel_rfl) rfl #[.slice A0 l0.length c0, .slice A1 l1.length c1] rfl (by (try simp only [List.map_toArray, List.map_cons, List.map_nil]); first | done | rfl | (simp only [List.length_drop, List.length_take]; rfl)) ?_; (with_reducible refine (depgraph_Affected.calls kj41 _ _ l0 _ _ l1 t334 t337 t338 _ ?side1 ?side2 ?side3 ?side4 A67.out).mono ?_); (case side1 => exact Kd.C_below HR0.out (by repeat (first | (with_reducible first | exact HB.out | apply below_alloc | apply pw_below_drewN | apply below_drew1 | refine below_set ?_ GE316.out | refine below_set ?_ GE326.out) | exact HB.out))); (case side2 => exact HC0.out); (case side3 => exact Kd.C_below HR1.out (by repeat (first | (with_reducible first | exact HB.out | apply below_alloc | apply pw_below_drewN | apply below_drew1 | refine below_set ?_ GE316.out | refine below_set ?_ GE326.out) | exact HB.out))); (case side4 => exact HC1.out); rintro e w75 ⟨v335, rfl, ho0, hb⟩; refine ⟨_, rfl, ?_⟩; have n0_ := Aside0.mk (Kd.R_lower ho0 (below_size (by repeat (first | (with_reducible first | exact HB.out | apply below_alloc | apply pw_below_drewN | apply below_drew1 | refine below_set ?_ GE316.out | refine below_set ?_ GE326.out) | exact HB.out)))); have n1_ := Aside0.mk (blk_below (g := gb316) (o := .cells #[.int .i64 t332, .int .i64 t333] 25 (0, 0)) (by (with_reducible repeat (first | refine blk_drewN ?_ _ | refine blk_drew ?_ | refine blk_alloc ?_ _)); refine blk_put (cs := #[.int .i64 t332, .int .i64 t315]) ?_ 1 _ rfl; (with_reducible repeat (first | refine blk_drewN ?_ _ | refine blk_drew ?_ | refine blk_alloc ?_ _)); refine blk_put (cs := #[.int .i64 t314, .int .i64 t315]) ?_ 0 _ rfl; (with_reducible repeat (first | refine blk_drewN ?_ _ | refine blk_drew ?_ | refine blk_alloc ?_ _)); exact BK316.out) hb); have n2_ := Aside0.mk (blk_below (g := gb326) (o := .cells #[.int .i64 t324, .int .i64 t325] 25 (0, 0)) (by (with_reducible repeat (first | refine blk_drewN ?_ _ | refine blk_drew ?_ | refine blk_alloc ?_ _)); refine blk_far ?_ NB326_316.out _; (with_reducible repeat (first | refine blk_drewN ?_ _ | refine blk_drew ?_ | refine blk_alloc ?_ _)); refine blk_far ?_ NB326_316.out _; (with_reducible repeat (first | refine blk_drewN ?_ _ | refine blk_drew ?_ | refine blk_alloc ?_ _)); exact BK326.out) hb); have n3_ := Aside0.mk (below_step (by repeat (first | (with_reducible first | exact HB.out | apply below_alloc | apply pw_below_drewN | apply below_drew1 | refine below_set ?_ GE316.out | refine below_set ?_ GE326.out) | exact HB.out)) hb); clear BK316; clear BK326; clear HB; have HO336 := n0_; have BK316 := n1_; have BK326 := n2_; have HB := n3_; clear n0_ n1_ n2_ n3_; (try clear hb); (try clear hb2); (try clear hk); (try clear hi); (try clear ho0); have hcz76_0 : w75.cell? ⟨gb326, 0, none⟩ = some (.int .i64 t324) := (blk_cell BK326.out 0).trans rfl; have hcz76_1 : w75.cell? ⟨gb326, 1, none⟩ = some (.int .i64 t325) := (blk_cell BK326.out 1).trans rfl; have hfz76_0 := blk_frozen BK326.out 0; have hfz76_1 := blk_frozen BK326.out 1; have hcz77_0 : w75.cell? ⟨gb316, 0, none⟩ = some (.int .i64 t332) := (blk_cell BK316.out 0).trans rfl; have hcz77_1 : w75.cell? ⟨gb316, 1, none⟩ = some (.int .i64 t333) := (blk_cell BK316.out 1).trans rfl; have hfz77_0 := blk_frozen BK316.out 0; have hfz77_1 := blk_frozen BK316.out 1) | (go_at_call 18; (with_reducible refine (changeforgeref6_Affected.calls kj41 _ _ l0 _ _ l1 t339 _ ?side1 ?side2 ?side3 ?side4 A70.out).mono ?_); (case side1 => exact Kd.C_below HR0.out (by repeat (first | (with_reducible first | exact HB.out | apply below_alloc | apply pw_below_drewN | apply below_drew1 | refine below_set ?_ GE316.out | refine below_set ?_ GE326.out) | exact HB.out))); (case side2 => exact HC0.out); (case side3 => exact Kd.C_below HR1.out (by repeat (first | (with_reducible first | exact HB.out | apply below_alloc | apply pw_below_drewN | apply below_drew1 | refine below_set ?_ GE316.out | refine below_set ?_ GE326.out) | exact HB.out))); (case side4 => exact HC1.out); rintro e w78 ⟨v340, rfl, ho0, hb⟩; have n0_ := Aside0.mk (Kd.R_elder' (by (with_reducible repeat (first | apply Kd.R_alloc | apply Kd.R_drewN | apply Kd.R_drew)); exact (Kd.R_mono (Kd.R_far (p := ⟨gb326, 1, none⟩) (Kd.R_far (p := ⟨gb326, 0, none⟩) (Kd.R_types HO336.out BK326.out (by decide)) (fun _ hk => hk.2) (.int .i64 t337)) (fun _ hk => hk.2) (.int .i64 t338)) (fun _ h_ => h_.1))) (Kd.R_base ho0) hb); have n1_ := Aside0.mk (Kd.R_lower (Kd.R_new' ho0 (Kd.R_lt (by (with_reducible repeat (first | apply Kd.R_alloc | apply Kd.R_drewN | apply Kd.R_drew)); exact (Kd.R_mono (Kd.R_far (p := ⟨gb326, 1, none⟩) (Kd.R_far (p := ⟨gb326, 0, none⟩) (Kd.R_types HO336.out BK326.out (by decide)) (fun _ hk => hk.2) (.int .i64 t337)) (fun _ hk => hk.2) (.int .i64 t338)) (fun _ h_ => h_.1))))) (below_size (by repeat (first | (with_reducible first | exact HB.out | apply below_alloc | apply pw_below_drewN | apply below_drew1 | refine below_set ?_ GE316.out | refine below_set ?_ GE326.out) | exact HB.out)))); have n2_ := Aside0.mk (blk_below (g := gb316) (o := .cells #[.int .i64 t332, .int .i64 t333] 25 (0, 0)) (by (with_reducible repeat (first | refine blk_drewN ?_ _ | refine blk_drew ?_ | refine blk_alloc ?_ _)); refine blk_far ?_ NB316_326.out _; (with_reducible repeat (first | refine blk_drewN ?_ _ | refine blk_drew ?_ | refine blk_alloc ?_ _)); refine blk_far ?_ NB316_326.out _; (with_reducible repeat (first | refine blk_drewN ?_ _ | refine blk_drew ?_ | refine blk_alloc ?_ _)); exact BK316.out) hb); have n3_ := Aside0.mk (blk_below (g := gb326) (o := .cells #[.int .i64 t337, .int .i64 t338] 25 (0, 0)) (by (with_reducible repeat (first | refine blk_drewN ?_ _ | refine blk_drew ?_ | refine blk_alloc ?_ _)); refine blk_put (cs := #[.int .i64 t337, .int .i64 t325]) ?_ 1 _ rfl; (with_reducible repeat (first | refine blk_drewN ?_ _ | refine blk_drew ?_ | refine blk_alloc ?_ _)); refine blk_put (cs := #[.int .i64 t324, .int .i64 t325]) ?_ 0 _ rfl; (with_reducible repeat (first | refine blk_drewN ?_ _ | refine blk_drew ?_ | refine blk_alloc ?_ _)); exact BK326.out) hb); have n4_ := Aside0.mk (below_step (by repeat (first | (with_reducible first | exact HB.out | apply below_alloc | apply pw_below_drewN | apply below_drew1 | refine below_set ?_ GE316.out | refine below_set ?_ GE326.out) | exact HB.out)) hb); clear HO336; clear BK316; clear BK326; clear HB; have HO336 := n0_; have HO341 := n1_; have BK316 := n2_; have BK326 := n3_; have HB := n4_; clear n0_ n1_ n2_ n3_ n4_; (try clear hb); (try clear hb2); (try clear hk); (try clear hi); (try clear ho0); obtain ⟨Ao79, co79, eo79⟩ := Kd.R_slice HO336.out; subst eo79; obtain ⟨Ao80, co80, eo80⟩ := Kd.R_slice HO341.out; subst eo80) | (go_at_call 14; (with_reducible refine (changeforgeref5_Ints.calls kj41 _ _ t334 _ _ t339 t342 _ ?side1 ?side2 ?side3 ?side4 A71.out).mono ?_); (case side1 => repeat (first | exact (Kd.R_reads' HO336.out).2.2 | (with_reducible refine Kd.C_alloc ?_ _) | (with_reducible refine Kd.C_drewN ?_ _) | (with_reducible refine Kd.C_drew ?_))); (case side2 => exact (Kd.R_reads' HO336.out).2.1); (case side3 => repeat (first | exact (Kd.R_reads' HO341.out).2.2 | (with_reducible refine Kd.C_alloc ?_ _) | (with_reducible refine Kd.C_drewN ?_ _) | (with_reducible refine Kd.C_drew ?_))); (case side4 => exact (Kd.R_reads' HO341.out).2.1); rintro e w' ⟨rfl, ⟨nd, rfl⟩⟩))
                      go_ret
                      exact ⟨by first | rfl | (simp [errW_none, errW_some] <;> rfl) | (simp [*, errW_none, errW_some] <;> rfl), by repeat (first | (with_reducible first | exact HB.out | apply below_alloc | apply pw_below_drewN | apply below_drew1 | refine below_set ?_ GE316.out | refine below_set ?_ GE326.out) | exact HB.out)⟩
                    · rw [if_neg c69] at H
                      have c69b0 : (t332 == 0) = false := beq_eq_false_iff_ne.mpr c69
                      have c69b1 : (t332 != 0) = true := bne_iff_ne.mpr c69
                      by_cases c81 : (t334.length : Int) = 0
                      · rw [if_pos c81] at H
                        have c81b0 : ((t334.length : Int) == 0) = true := beq_iff_eq.mpr c81
                        have c81b1 : ((t334.length : Int) != 0) = false := bne_eq_false_iff_eq.mpr c81
                        clear c81
                        obtain rfl := Option.some.inj H
                        go_wp2_with (first | ((with_reducible refine gate_callee (f := 16) rfl ?_); refine goesL_ (some 74) rfl rfl Try.func16 (by kernel_rfl) rfl #[.slice A0 l0.length c0, .slice A1 l1.length c1] rfl (by (try simp only [List.map_toArray, List.map_cons, List.map_nil]); first | done | rfl | (simp only [List.length_drop, List.length_take]; rfl)) ?_; (with_reducible refine (changeforgeref6_ChangedFault.calls kj41 _ _ l0 _ _ l1 t332 t333 _ ?side1 ?side2 ?side3 ?side4 A66.out).mono ?_); (case side1 => repeat (first | exact (Kd.C_below HR0.out HB.out) | (with_reducible refine Kd.C_alloc ?_ _) | (with_reducible refine Kd.C_drewN ?_ _) | (with_reducible refine Kd.C_drew ?_))); (case side2 => exact HC0.out); (case side3 => repeat (first | exact (Kd.C_below HR1.out HB.out) | (with_reducible refine Kd.C_alloc ?_ _) | (with_reducible refine Kd.C_drewN ?_ _) | (with_reducible refine Kd.C_drew ?_))); (case side4 => exact HC1.out); rintro e w82 ⟨rfl, hb⟩; refine ⟨_, rfl, ?_⟩; have n0_ := Aside0.mk (blk_below (g := gb316) (o := .cells #[.int .i64 t314, .int .i64 t315] 25 (0, 0)) (by (with_reducible repeat (first | refine blk_drewN ?_ _ | refine blk_drew ?_ | refine blk_alloc ?_ _)); exact BK316.out) hb); have n1_ := Aside0.mk (blk_below (g := gb326) (o := .cells #[.int .i64 t324, .int .i64 t325] 25 (0, 0)) (by (with_reducible repeat (first | refine blk_drewN ?_ _ | refine blk_drew ?_ | refine blk_alloc ?_ _)); exact BK326.out) hb); have n2_ := Aside0.mk (below_step (by repeat (first | (with_reducible first | exact HB.out | apply below_alloc | apply pw_below_drewN | apply below_drew1 | refine below_set ?_ GE316.out | refine below_set ?_ GE326.out) | exact HB.out)) hb); clear BK316; clear BK326; clear HB; have BK316 := n0_; have BK326 := n1_; have HB := n2_; clear n0_ n1_ n2_; (try clear hb); (try clear hb2); (try clear hk); (try clear hi); have hnb83 := NB316_326.out; have hnc83 := NB326_316.out; have hcz84_0 : w82.cell? ⟨gb316, 0, none⟩ = some (.int .i64 t314) := (blk_cell BK316.out 0).trans rfl; have hcz84_1 : w82.cell? ⟨gb316, 1, none⟩ = some (.int .i64 t315) := (blk_cell BK316.out 1).trans rfl; have hfz84_0 := blk_frozen BK316.out 0; have hfz84_1 := blk_frozen BK316.out 1) | ((with_reducible refine gate_callee (f := 17) rfl ?_); refine goesL_ (some 78) rfl rfl Try.func17 (by kernel_rfl) rfl #[.slice A0 l0.length c0, .slice A1 l1.length c1] rfl (by (try simp only [List.map_toArray, List.map_cons, List.map_nil]); first | done | rfl | (simp only [List.length_drop, List.length_take]; rfl)) ?_; (with_reducible refine (depgraph_Affected.calls kj41 _ _ l0 _ _ l1 t334 t337 t338 _ ?side1 ?side2 ?side3 ?side4 A67.out).mono ?_); (case side1 => exact Kd.C_below HR0.out (by repeat (first | (with_reducible first | exact HB.out | apply below_alloc | apply pw_below_drewN | apply below_drew1 | refine below_set ?_ GE316.out | refine below_set ?_ GE326.out) | exact HB.out))); (case side2 => exact HC0.out); (case side3 => exact Kd.C_below HR1.out (by repeat (first | (with_reducible first | exact HB.out | apply below_alloc | apply pw_below_drewN | apply below_drew1 | refine below_set ?_ GE316.out | refine below_set ?_ GE326.out) | exact HB.out))); (case side4 => exact HC1.out); rintro e w85 ⟨v335, rfl, ho0, hb⟩; refine ⟨_, rfl, ?_⟩; have n0_ := Aside0.mk (Kd.R_lower ho0 (below_size (by repeat (first | (with_reducible first | exact HB.out | apply below_alloc | apply pw_below_drewN | apply below_drew1 | refine below_set ?_ GE316.out | refine below_set ?_ GE326.out) | exact HB.out)))); have n1_ := Aside0.mk (blk_below (g := gb316) (o := .cells #[.int .i64 t332, .int .i64 t333] 25 (0, 0)) (by (with_reducible repeat (first | refine blk_drewN ?_ _ | refine blk_drew ?_ | refine blk_alloc ?_ _)); refine blk_put (cs := #[.int .i64 t332, .int .i64 t315]) ?_ 1 _ rfl; (with_reducible repeat (first | refine blk_drewN ?_ _ | refine blk_drew ?_ | refine blk_alloc ?_ _)); refine blk_put (cs := #[.int .i64 t314, .int .i64 t315]) ?_ 0 _ rfl; (with_reducible repeat (first | refine blk_drewN ?_ _ | refine blk_drew ?_ | refine blk_alloc ?_ _)); exact BK316.out) hb); have n2_ := Aside0.mk (blk_below (g := gb326) (o := .cells #[.int .i64 t324, .int .i64 t325] 25 (0, 0)) (by (with_reducible repeat (first | refine blk_drewN ?_ _ | refine blk_drew ?_ | refine blk_alloc ?_ _)); refine blk_far ?_ NB326_316.out _; (with_reducible repeat (first | refine blk_drewN ?_ _ | refine blk_drew ?_ | refine blk_alloc ?_ _)); refine blk_far ?_ NB326_316.out _; (with_reducible repeat (first | refine blk_drewN ?_ _ | refine blk_drew ?_ | refine blk_alloc ?_ _)); exact BK326.out) hb); have n3_ := Aside0.mk (below_step (by repeat (first | (with_reducible first | exact HB.out | apply below_alloc | apply pw_below_drewN | apply below_drew1 | refine below_set ?_ GE316.out | refine below_set ?_ GE326.out) | exact HB.out)) hb); clear BK316; clear BK326; clear HB; have HO336 := n0_; have BK316 := n1_; have BK326 := n2_; have HB := n3_; clear n0_ n1_ n2_ n3_; (try clear hb); (try clear hb2); (try clear hk); (try clear hi); (try clear ho0); have hcz86_0 : w85.cell? ⟨gb326, 0, none⟩ = some (.int .i64 t324) := (blk_cell BK326.out 0).trans rfl; have hcz86_1 : w85.cell? ⟨gb326, 1, none⟩ = some (.int .i64 t325) := (blk_cell BK326.out 1).trans rfl; have hfz86_0 := blk_frozen BK326.out 0; have hfz86_1 := blk_frozen BK326.out 1; have hcz87_0 : w85.cell? ⟨gb316, 0, none⟩ = some (.int .i64 t332) := (blk_cell BK316.out 0).trans rfl; have hcz87_1 : w85.cell? ⟨gb316, 1, none⟩ = some (.int .i64 t333) := (blk_cell BK316.out 1).trans rfl; have hfz87_0 := blk_frozen BK316.out 0; have hfz87_1 := blk_frozen BK316.out 1; obtain ⟨Ao88, co88, eo88⟩ := Kd.R_slice HO336.out; subst eo88))
                        go_ret
                        exact ⟨by first | rfl | (simp [errW_none, errW_some] <;> rfl) | (simp [*, errW_none, errW_some] <;> rfl), by repeat (first | (with_reducible first | exact HB.out | apply below_alloc | apply pw_below_drewN | apply below_drew1 | refine below_set ?_ GE316.out | refine below_set ?_ GE326.out) | exact HB.out)⟩
                      · rw [if_neg c81] at H
                        have c81b0 : ((t334.length : Int) == 0) = false := beq_eq_false_iff_ne.mpr c81
                        have c81b1 : ((t334.length : Int) != 0) = true := bne_iff_ne.mpr c81
                        have c81b2 : ¬ (t334 = []) := fun h_ => c81 (by rw [h_]; rfl)
                        obtain rfl := Option.some.inj H
                        go_wp2_with (first | ((with_reducible refine gate_callee (f := 16) rfl ?_); refine goesL_ (some 74) rfl rfl Try.func16 (by kernel_rfl) rfl #[.slice A0 l0.length c0, .slice A1 l1.length c1] rfl (by (try simp only [List.map_toArray, List.map_cons, List.map_nil]); first | done | rfl | (simp only [List.length_drop, List.length_take]; rfl)) ?_; (with_reducible refine (changeforgeref6_ChangedFault.calls kj41 _ _ l0 _ _ l1 t332 t333 _ ?side1 ?side2 ?side3 ?side4 A66.out).mono ?_); (case side1 => repeat (first | exact (Kd.C_below HR0.out HB.out) | (with_reducible refine Kd.C_alloc ?_ _) | (with_reducible refine Kd.C_drewN ?_ _) | (with_reducible refine Kd.C_drew ?_))); (case side2 => exact HC0.out); (case side3 => repeat (first | exact (Kd.C_below HR1.out HB.out) | (with_reducible refine Kd.C_alloc ?_ _) | (with_reducible refine Kd.C_drewN ?_ _) | (with_reducible refine Kd.C_drew ?_))); (case side4 => exact HC1.out); rintro e w89 ⟨rfl, hb⟩; refine ⟨_, rfl, ?_⟩; have n0_ := Aside0.mk (blk_below (g := gb316) (o := .cells #[.int .i64 t314, .int .i64 t315] 25 (0, 0)) (by (with_reducible repeat (first | refine blk_drewN ?_ _ | refine blk_drew ?_ | refine blk_alloc ?_ _)); exact BK316.out) hb); have n1_ := Aside0.mk (blk_below (g := gb326) (o := .cells #[.int .i64 t324, .int .i64 t325] 25 (0, 0)) (by (with_reducible repeat (first | refine blk_drewN ?_ _ | refine blk_drew ?_ | refine blk_alloc ?_ _)); exact BK326.out) hb); have n2_ := Aside0.mk (below_step (by repeat (first | (with_reducible first | exact HB.out | apply below_alloc | apply pw_below_drewN | apply below_drew1 | refine below_set ?_ GE316.out | refine below_set ?_ GE326.out) | exact HB.out)) hb); clear BK316; clear BK326; clear HB; have BK316 := n0_; have BK326 := n1_; have HB := n2_; clear n0_ n1_ n2_; (try clear hb); (try clear hb2); (try clear hk); (try clear hi); have hnb90 := NB316_326.out; have hnc90 := NB326_316.out; have hcz91_0 : w89.cell? ⟨gb316, 0, none⟩ = some (.int .i64 t314) := (blk_cell BK316.out 0).trans rfl; have hcz91_1 : w89.cell? ⟨gb316, 1, none⟩ = some (.int .i64 t315) := (blk_cell BK316.out 1).trans rfl; have hfz91_0 := blk_frozen BK316.out 0; have hfz91_1 := blk_frozen BK316.out 1) | ((with_reducible refine gate_callee (f := 17) rfl ?_); refine goesL_ (some 78) rfl rfl Try.func17 (by kernel_rfl) rfl #[.slice A0 l0.length c0, .slice A1 l1.length c1] rfl (by (try simp only [List.map_toArray, List.map_cons, List.map_nil]); first | done | rfl | (simp only [List.length_drop, List.length_take]; rfl)) ?_; (with_reducible refine (depgraph_Affected.calls kj41 _ _ l0 _ _ l1 t334 t337 t338 _ ?side1 ?side2 ?side3 ?side4 A67.out).mono ?_); (case side1 => exact Kd.C_below HR0.out (by repeat (first | (with_reducible first | exact HB.out | apply below_alloc | apply pw_below_drewN | apply below_drew1 | refine below_set ?_ GE316.out | refine below_set ?_ GE326.out) | exact HB.out))); (case side2 => exact HC0.out); (case side3 => exact Kd.C_below HR1.out (by repeat (first | (with_reducible first | exact HB.out | apply below_alloc | apply pw_below_drewN | apply below_drew1 | refine below_set ?_ GE316.out | refine below_set ?_ GE326.out) | exact HB.out))); (case side4 => exact HC1.out); rintro e w92 ⟨v335, rfl, ho0, hb⟩; refine ⟨_, rfl, ?_⟩; have n0_ := Aside0.mk (Kd.R_lower ho0 (below_size (by repeat (first | (with_reducible first | exact HB.out | apply below_alloc | apply pw_below_drewN | apply below_drew1 | refine below_set ?_ GE316.out | refine below_set ?_ GE326.out) | exact HB.out)))); have n1_ := Aside0.mk (blk_below (g := gb316) (o := .cells #[.int .i64 t332, .int .i64 t333] 25 (0, 0)) (by (with_reducible repeat (first | refine blk_drewN ?_ _ | refine blk_drew ?_ | refine blk_alloc ?_ _)); refine blk_put (cs := #[.int .i64 t332, .int .i64 t315]) ?_ 1 _ rfl; (with_reducible repeat (first | refine blk_drewN ?_ _ | refine blk_drew ?_ | refine blk_alloc ?_ _)); refine blk_put (cs := #[.int .i64 t314, .int .i64 t315]) ?_ 0 _ rfl; (with_reducible repeat (first | refine blk_drewN ?_ _ | refine blk_drew ?_ | refine blk_alloc ?_ _)); exact BK316.out) hb); have n2_ := Aside0.mk (blk_below (g := gb326) (o := .cells #[.int .i64 t324, .int .i64 t325] 25 (0, 0)) (by (with_reducible repeat (first | refine blk_drewN ?_ _ | refine blk_drew ?_ | refine blk_alloc ?_ _)); refine blk_far ?_ NB326_316.out _; (with_reducible repeat (first | refine blk_drewN ?_ _ | refine blk_drew ?_ | refine blk_alloc ?_ _)); refine blk_far ?_ NB326_316.out _; (with_reducible repeat (first | refine blk_drewN ?_ _ | refine blk_drew ?_ | refine blk_alloc ?_ _)); exact BK326.out) hb); have n3_ := Aside0.mk (below_step (by repeat (first | (with_reducible first | exact HB.out | apply below_alloc | apply pw_below_drewN | apply below_drew1 | refine below_set ?_ GE316.out | refine below_set ?_ GE326.out) | exact HB.out)) hb); clear BK316; clear BK326; clear HB; have HO336 := n0_; have BK316 := n1_; have BK326 := n2_; have HB := n3_; clear n0_ n1_ n2_ n3_; (try clear hb); (try clear hb2); (try clear hk); (try clear hi); (try clear ho0); have hcz93_0 : w92.cell? ⟨gb326, 0, none⟩ = some (.int .i64 t324) := (blk_cell BK326.out 0).trans rfl; have hcz93_1 : w92.cell? ⟨gb326, 1, none⟩ = some (.int .i64 t325) := (blk_cell BK326.out 1).trans rfl; have hfz93_0 := blk_frozen BK326.out 0; have hfz93_1 := blk_frozen BK326.out 1; have hcz94_0 : w92.cell? ⟨gb316, 0, none⟩ = some (.int .i64 t332) := (blk_cell BK316.out 0).trans rfl; have hcz94_1 : w92.cell? ⟨gb316, 1, none⟩ = some (.int .i64 t333) := (blk_cell BK316.out 1).trans rfl; have hfz94_0 := blk_frozen BK316.out 0; have hfz94_1 := blk_frozen BK316.out 1; obtain ⟨Ao95, co95, eo95⟩ := Kd.R_slice HO336.out; subst eo95))
                        go_ret
                        exact ⟨by first | rfl | (simp [errW_none, errW_some] <;> rfl) | (simp [*, errW_none, errW_some] <;> rfl), by repeat (first | (with_reducible first | exact HB.out | apply below_alloc | apply pw_below_drewN | apply below_drew1 | refine below_set ?_ GE316.out | refine below_set ?_ GE326.out) | exact HB.out)⟩
                  · rw [if_neg c68] at H
                    have c68b0 : (t337 == t332 && (t338 == t333)) = false := by simpa using c68
                    (try (have c68b1 : decide (t337 = t332 && (t338 == t333)) = false := by simpa using c68))
                    (try (have c68b2 : (t337 == t332 && (t338 == t333)) = false := by simpa using c68))
                    (try (have c68b3 : ¬ (t337 = t332 && (t338 == t333)) := by simpa using c68))
                    clear c68
                    obtain rfl := Option.some.inj H
                    go_wp2_with (first | ((with_reducible refine gate_callee (f := 16) rfl ?_); refine goesL_ (some 74) rfl rfl Try.func16 (by kernel_rfl) rfl #[.slice A0 l0.length c0, .slice A1 l1.length c1] rfl (by (try simp only [List.map_toArray, List.map_cons, List.map_nil]); first | done | rfl | (simp only [List.length_drop, List.length_take]; rfl)) ?_; (with_reducible refine (changeforgeref6_ChangedFault.calls kj41 _ _ l0 _ _ l1 t332 t333 _ ?side1 ?side2 ?side3 ?side4 A66.out).mono ?_); (case side1 => repeat (first | exact (Kd.C_below HR0.out HB.out) | (with_reducible refine Kd.C_alloc ?_ _) | (with_reducible refine Kd.C_drewN ?_ _) | (with_reducible refine Kd.C_drew ?_))); (case side2 => exact HC0.out); (case side3 => repeat (first | exact (Kd.C_below HR1.out HB.out) | (with_reducible refine Kd.C_alloc ?_ _) | (with_reducible refine Kd.C_drewN ?_ _) | (with_reducible refine Kd.C_drew ?_))); (case side4 => exact HC1.out); rintro e w96 ⟨rfl, hb⟩; refine ⟨_, rfl, ?_⟩; have n0_ := Aside0.mk (blk_below (g := gb316) (o := .cells #[.int .i64 t314, .int .i64 t315] 25 (0, 0)) (by (with_reducible repeat (first | refine blk_drewN ?_ _ | refine blk_drew ?_ | refine blk_alloc ?_ _)); exact BK316.out) hb); have n1_ := Aside0.mk (blk_below (g := gb326) (o := .cells #[.int .i64 t324, .int .i64 t325] 25 (0, 0)) (by (with_reducible repeat (first | refine blk_drewN ?_ _ | refine blk_drew ?_ | refine blk_alloc ?_ _)); exact BK326.out) hb); have n2_ := Aside0.mk (below_step (by repeat (first | (with_reducible first | exact HB.out | apply below_alloc | apply pw_below_drewN | apply below_drew1 | refine below_set ?_ GE316.out | refine below_set ?_ GE326.out) | exact HB.out)) hb); clear BK316; clear BK326; clear HB; have BK316 := n0_; have BK326 := n1_; have HB := n2_; clear n0_ n1_ n2_; (try clear hb); (try clear hb2); (try clear hk); (try clear hi); have hnb97 := NB316_326.out; have hnc97 := NB326_316.out; have hcz98_0 : w96.cell? ⟨gb316, 0, none⟩ = some (.int .i64 t314) := (blk_cell BK316.out 0).trans rfl; have hcz98_1 : w96.cell? ⟨gb316, 1, none⟩ = some (.int .i64 t315) := (blk_cell BK316.out 1).trans rfl; have hfz98_0 := blk_frozen BK316.out 0; have hfz98_1 := blk_frozen BK316.out 1) | ((with_reducible refine gate_callee (f := 17) rfl ?_); refine goesL_ (some 78) rfl rfl Try.func17 (by kernel_rfl) rfl #[.slice A0 l0.length c0, .slice A1 l1.length c1] rfl (by (try simp only [List.map_toArray, List.map_cons, List.map_nil]); first | done | rfl | (simp only [List.length_drop, List.length_take]; rfl)) ?_; (with_reducible refine (depgraph_Affected.calls kj41 _ _ l0 _ _ l1 t334 t337 t338 _ ?side1 ?side2 ?side3 ?side4 A67.out).mono ?_); (case side1 => exact Kd.C_below HR0.out (by repeat (first | (with_reducible first | exact HB.out | apply below_alloc | apply pw_below_drewN | apply below_drew1 | refine below_set ?_ GE316.out | refine below_set ?_ GE326.out) | exact HB.out))); (case side2 => exact HC0.out); (case side3 => exact Kd.C_below HR1.out (by repeat (first | (with_reducible first | exact HB.out | apply below_alloc | apply pw_below_drewN | apply below_drew1 | refine below_set ?_ GE316.out | refine below_set ?_ GE326.out) | exact HB.out))); (case side4 => exact HC1.out); rintro e w99 ⟨v335, rfl, ho0, hb⟩; refine ⟨_, rfl, ?_⟩; have n0_ := Aside0.mk (Kd.R_lower ho0 (below_size (by repeat (first | (with_reducible first | exact HB.out | apply below_alloc | apply pw_below_drewN | apply below_drew1 | refine below_set ?_ GE316.out | refine below_set ?_ GE326.out) | exact HB.out)))); have n1_ := Aside0.mk (blk_below (g := gb316) (o := .cells #[.int .i64 t332, .int .i64 t333] 25 (0, 0)) (by (with_reducible repeat (first | refine blk_drewN ?_ _ | refine blk_drew ?_ | refine blk_alloc ?_ _)); refine blk_put (cs := #[.int .i64 t332, .int .i64 t315]) ?_ 1 _ rfl; (with_reducible repeat (first | refine blk_drewN ?_ _ | refine blk_drew ?_ | refine blk_alloc ?_ _)); refine blk_put (cs := #[.int .i64 t314, .int .i64 t315]) ?_ 0 _ rfl; (with_reducible repeat (first | refine blk_drewN ?_ _ | refine blk_drew ?_ | refine blk_alloc ?_ _)); exact BK316.out) hb); have n2_ := Aside0.mk (blk_below (g := gb326) (o := .cells #[.int .i64 t324, .int .i64 t325] 25 (0, 0)) (by (with_reducible repeat (first | refine blk_drewN ?_ _ | refine blk_drew ?_ | refine blk_alloc ?_ _)); refine blk_far ?_ NB326_316.out _; (with_reducible repeat (first | refine blk_drewN ?_ _ | refine blk_drew ?_ | refine blk_alloc ?_ _)); refine blk_far ?_ NB326_316.out _; (with_reducible repeat (first | refine blk_drewN ?_ _ | refine blk_drew ?_ | refine blk_alloc ?_ _)); exact BK326.out) hb); have n3_ := Aside0.mk (below_step (by repeat (first | (with_reducible first | exact HB.out | apply below_alloc | apply pw_below_drewN | apply below_drew1 | refine below_set ?_ GE316.out | refine below_set ?_ GE326.out) | exact HB.out)) hb); clear BK316; clear BK326; clear HB; have HO336 := n0_; have BK316 := n1_; have BK326 := n2_; have HB := n3_; clear n0_ n1_ n2_ n3_; (try clear hb); (try clear hb2); (try clear hk); (try clear hi); (try clear ho0); have hcz100_0 : w99.cell? ⟨gb326, 0, none⟩ = some (.int .i64 t324) := (blk_cell BK326.out 0).trans rfl; have hcz100_1 : w99.cell? ⟨gb326, 1, none⟩ = some (.int .i64 t325) := (blk_cell BK326.out 1).trans rfl; have hfz100_0 := blk_frozen BK326.out 0; have hfz100_1 := blk_frozen BK326.out 1; have hcz101_0 : w99.cell? ⟨gb316, 0, none⟩ = some (.int .i64 t332) := (blk_cell BK316.out 0).trans rfl; have hcz101_1 : w99.cell? ⟨gb316, 1, none⟩ = some (.int .i64 t333) := (blk_cell BK316.out 1).trans rfl; have hfz101_0 := blk_frozen BK316.out 0; have hfz101_1 := blk_frozen BK316.out 1))
                    go_ret
                    exact ⟨by first | rfl | (simp [errW_none, errW_some] <;> rfl) | (simp [*, errW_none, errW_some] <;> rfl), by repeat (first | (with_reducible first | exact HB.out | apply below_alloc | apply pw_below_drewN | apply below_drew1 | refine below_set ?_ GE316.out | refine below_set ?_ GE326.out) | exact HB.out)⟩

end Go.Proofs.Ytffcaglfcnmhdaa.H
end
