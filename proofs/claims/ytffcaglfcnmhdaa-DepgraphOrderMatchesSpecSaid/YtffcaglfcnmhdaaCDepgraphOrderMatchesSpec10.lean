/- Texts that the law DepgraphOrderMatchesSpec comes to, printed and by hand, what is not used left out. -/
import Derived.Test.YtffcaglfcnmhdaaCDepgraphOrderMatchesSpec9
section
namespace Go.Proofs.Ytffcaglfcnmhdaa.H
open Go.RowKit Go.Proofs.YtffcaglfcnmhdaaW.PrintWords Go.Proofs.YtffcaglfcnmhdaaW.PrintLast Go.Proofs.YtffcaglfcnmhdaaW.PrintMore
attribute [local go_sem] max2_int max_two
set_option linter.unusedVariables false
set_option linter.unusedSimpArgs false

attribute [local go_sem high] eqA25
mutual
def changeforgelaw6_DepgraphOrderMatchesSpec.j0 : Nat → List (List Int) → Bool → Int → Int → Option (Bool)
  | 0, _, _, _, _ => none
  | k + 1, x0, x17, x366000, x366001 => if x17 = true then ((changeforgeref6_FirstOnCycle.f k x0).bind fun t367 => ((changeforgelaw6_fault.f 20 t367).bind fun bt368 => (changeforgelaw6_DepgraphOrderMatchesSpec.j1 k x0 bt368.1 bt368.2))) else (changeforgelaw6_DepgraphOrderMatchesSpec.j1 k x0 x366000 x366001)
def changeforgelaw6_DepgraphOrderMatchesSpec.j1 : Nat → List (List Int) → Int → Int → Option (Bool)
  | 0, _, _, _ => none
  | k + 1, x0, x366000, x366001 => (depgraph_Order.f k x0).bind fun bt370 => ((depgraph_Levels.f k x0).bind fun bt376 => ((changeforgelaw6_graphs.f k).bind fun t382 => (if t382 = true then (if (!(bt370.2.1 == x366000) || (!(bt370.2.2 == x366001))) = true then (changeforgelaw6_DepgraphOrderMatchesSpec.j2 k x0 bt370.1 bt376.1 true x366000 x366001 bt370.2.1 bt370.2.2 bt376.2.1 bt376.2.2) else (if (!(bt376.2.1 == x366000) || (!(bt376.2.2 == x366001))) = true then (changeforgelaw6_DepgraphOrderMatchesSpec.j2 k x0 bt370.1 bt376.1 true x366000 x366001 bt370.2.1 bt370.2.2 bt376.2.1 bt376.2.2) else (changeforgelaw6_DepgraphOrderMatchesSpec.j2 k x0 bt370.1 bt376.1 (x366000 != 0) x366000 x366001 bt370.2.1 bt370.2.2 bt376.2.1 bt376.2.2))) else (changeforgelaw6_DepgraphOrderMatchesSpec.j2 k x0 bt370.1 bt376.1 true x366000 x366001 bt370.2.1 bt370.2.2 bt376.2.1 bt376.2.2))))
def changeforgelaw6_DepgraphOrderMatchesSpec.j2 : Nat → List (List Int) → List Int → List Int → Bool → Int → Int → Int → Int → Int → Int → Option (Bool)
  | 0, _, _, _, _, _, _, _, _, _, _ => none
  | k + 1, x0, x4, x6, x47, x366000, x366001, x376000, x376001, x382000, x382001 => if x47 = true then ((changeforgelaw6_graphs.f k).bind fun t383 => (if t383 = true then (if (x376000 == x366000 && (x376001 == x366001)) = true then (if (x382000 == x366000 && (x382001 == x366001)) = true then (if (x4.length : Int) = 0 then (some ((x6.length : Int) == 0)) else (some false)) else (some false)) else (some false)) else (some false))) else ((changeforgeref6_Topological.f k x0).bind fun t384 => ((changeforgeref5_Ints.f k x4 t384).bind fun t387 => (if t387 = true then ((changeforgeref6_Levels.f k x0).bind fun t388 => ((changeforgeref5_Ints.f k x6 t388).bind fun t391 => (some t391))) else (some false))))
end
def changeforgelaw6_DepgraphOrderMatchesSpec.f (k : Nat) (l0 : List (List Int)) : Option (Bool) := (changeforgeref6_GraphFault.f k l0).bind fun bt363 => (if bt363.1 = 0 then ((changeforgeref6_FirstOnCycle.f k l0).bind fun t366 => (changeforgelaw6_DepgraphOrderMatchesSpec.j0 k l0 (decide (t366 ≥ 0)) bt363.1 bt363.2)) else (changeforgelaw6_DepgraphOrderMatchesSpec.j0 k l0 false bt363.1 bt363.2))
theorem changeforgelaw6_DepgraphOrderMatchesSpec.mono_l : ∀ k, (∀ y0 y1 y2 y3, LeO (changeforgelaw6_DepgraphOrderMatchesSpec.j0 k y0 y1 y2 y3) (changeforgelaw6_DepgraphOrderMatchesSpec.j0 (k + 1) y0 y1 y2 y3)) ∧ (∀ y0 y1 y2, LeO (changeforgelaw6_DepgraphOrderMatchesSpec.j1 k y0 y1 y2) (changeforgelaw6_DepgraphOrderMatchesSpec.j1 (k + 1) y0 y1 y2)) ∧ (∀ y0 y1 y2 y3 y4 y5 y6 y7 y8 y9, LeO (changeforgelaw6_DepgraphOrderMatchesSpec.j2 k y0 y1 y2 y3 y4 y5 y6 y7 y8 y9) (changeforgelaw6_DepgraphOrderMatchesSpec.j2 (k + 1) y0 y1 y2 y3 y4 y5 y6 y7 y8 y9))
  | 0 => ⟨fun _ _ _ _ r h => by simp [changeforgelaw6_DepgraphOrderMatchesSpec.j0] at h, fun _ _ _ r h => by simp [changeforgelaw6_DepgraphOrderMatchesSpec.j1] at h, fun _ _ _ _ _ _ _ _ _ _ r h => by simp [changeforgelaw6_DepgraphOrderMatchesSpec.j2] at h⟩
  | k + 1 => by
    obtain ⟨ih0, ih1, ih2⟩ := changeforgelaw6_DepgraphOrderMatchesSpec.mono_l k
    refine ⟨?_, ?_, ?_⟩
    · intro y0 y1 y2 y3
      unfold changeforgelaw6_DepgraphOrderMatchesSpec.j0
      repeat' first
      | (with_reducible exact ih0 _ _ _ _)
      | (with_reducible exact ih1 _ _ _)
      | (with_reducible exact ih2 _ _ _ _ _ _ _ _ _ _)
      | (with_reducible exact changeforgelaw6_graphs.mono _)
      | (with_reducible exact changeforgeref5_Ints.mono _ _ _)
      | (with_reducible exact changeforgeref6_FirstOnCycle.mono _ _)
      | (with_reducible exact changeforgeref6_GraphFault.mono _ _)
      | (with_reducible exact changeforgeref6_Levels.mono _ _)
      | (with_reducible exact changeforgeref6_Topological.mono _ _)
      | (with_reducible exact depgraph_Levels.mono _ _)
      | (with_reducible exact depgraph_Order.mono _ _)
      | (with_reducible exact LeO.refl _)
      | (with_reducible exact LeO.none _)
      | (with_reducible refine LeO.ite ?_ ?_)
      | (with_reducible refine LeO.bind ?_ (fun _ => ?_))
      | exact ih0 _ _ _ _
      | exact ih1 _ _ _
      | exact ih2 _ _ _ _ _ _ _ _ _ _
      | exact changeforgelaw6_graphs.mono _
      | exact changeforgeref5_Ints.mono _ _ _
      | exact changeforgeref6_FirstOnCycle.mono _ _
      | exact changeforgeref6_GraphFault.mono _ _
      | exact changeforgeref6_Levels.mono _ _
      | exact changeforgeref6_Topological.mono _ _
      | exact depgraph_Levels.mono _ _
      | exact depgraph_Order.mono _ _
      | exact LeO.none _
      | refine LeO.ite ?_ ?_
      | refine LeO.bind ?_ (fun _ => ?_)
    · intro y0 y1 y2
      unfold changeforgelaw6_DepgraphOrderMatchesSpec.j1
      repeat' first
      | (with_reducible exact ih0 _ _ _ _)
      | (with_reducible exact ih1 _ _ _)
      | (with_reducible exact ih2 _ _ _ _ _ _ _ _ _ _)
      | (with_reducible exact changeforgelaw6_graphs.mono _)
      | (with_reducible exact changeforgeref5_Ints.mono _ _ _)
      | (with_reducible exact changeforgeref6_FirstOnCycle.mono _ _)
      | (with_reducible exact changeforgeref6_GraphFault.mono _ _)
      | (with_reducible exact changeforgeref6_Levels.mono _ _)
      | (with_reducible exact changeforgeref6_Topological.mono _ _)
      | (with_reducible exact depgraph_Levels.mono _ _)
      | (with_reducible exact depgraph_Order.mono _ _)
      | (with_reducible exact LeO.refl _)
      | (with_reducible exact LeO.none _)
      | (with_reducible refine LeO.ite ?_ ?_)
      | (with_reducible refine LeO.bind ?_ (fun _ => ?_))
      | exact ih0 _ _ _ _
      | exact ih1 _ _ _
      | exact ih2 _ _ _ _ _ _ _ _ _ _
      | exact changeforgelaw6_graphs.mono _
      | exact changeforgeref5_Ints.mono _ _ _
      | exact changeforgeref6_FirstOnCycle.mono _ _
      | exact changeforgeref6_GraphFault.mono _ _
      | exact changeforgeref6_Levels.mono _ _
      | exact changeforgeref6_Topological.mono _ _
      | exact depgraph_Levels.mono _ _
      | exact depgraph_Order.mono _ _
      | exact LeO.none _
      | refine LeO.ite ?_ ?_
      | refine LeO.bind ?_ (fun _ => ?_)
    · intro y0 y1 y2 y3 y4 y5 y6 y7 y8 y9
      unfold changeforgelaw6_DepgraphOrderMatchesSpec.j2
      repeat' first
      | (with_reducible exact ih0 _ _ _ _)
      | (with_reducible exact ih1 _ _ _)
      | (with_reducible exact ih2 _ _ _ _ _ _ _ _ _ _)
      | (with_reducible exact changeforgelaw6_graphs.mono _)
      | (with_reducible exact changeforgeref5_Ints.mono _ _ _)
      | (with_reducible exact changeforgeref6_FirstOnCycle.mono _ _)
      | (with_reducible exact changeforgeref6_GraphFault.mono _ _)
      | (with_reducible exact changeforgeref6_Levels.mono _ _)
      | (with_reducible exact changeforgeref6_Topological.mono _ _)
      | (with_reducible exact depgraph_Levels.mono _ _)
      | (with_reducible exact depgraph_Order.mono _ _)
      | (with_reducible exact LeO.refl _)
      | (with_reducible exact LeO.none _)
      | (with_reducible refine LeO.ite ?_ ?_)
      | (with_reducible refine LeO.bind ?_ (fun _ => ?_))
      | exact ih0 _ _ _ _
      | exact ih1 _ _ _
      | exact ih2 _ _ _ _ _ _ _ _ _ _
      | exact changeforgelaw6_graphs.mono _
      | exact changeforgeref5_Ints.mono _ _ _
      | exact changeforgeref6_FirstOnCycle.mono _ _
      | exact changeforgeref6_GraphFault.mono _ _
      | exact changeforgeref6_Levels.mono _ _
      | exact changeforgeref6_Topological.mono _ _
      | exact depgraph_Levels.mono _ _
      | exact depgraph_Order.mono _ _
      | exact LeO.none _
      | refine LeO.ite ?_ ?_
      | refine LeO.bind ?_ (fun _ => ?_)
theorem changeforgelaw6_DepgraphOrderMatchesSpec.mono : ∀ a0 k, LeO (changeforgelaw6_DepgraphOrderMatchesSpec.f k a0) (changeforgelaw6_DepgraphOrderMatchesSpec.f (k + 1) a0) := by
  intro a0 k
  obtain ⟨ih0, ih1, ih2⟩ := changeforgelaw6_DepgraphOrderMatchesSpec.mono_l k
  unfold changeforgelaw6_DepgraphOrderMatchesSpec.f
  repeat' first
      | (with_reducible exact ih0 _ _ _ _)
      | (with_reducible exact ih1 _ _ _)
      | (with_reducible exact ih2 _ _ _ _ _ _ _ _ _ _)
      | (with_reducible exact changeforgelaw6_graphs.mono _)
      | (with_reducible exact changeforgeref5_Ints.mono _ _ _)
      | (with_reducible exact changeforgeref6_FirstOnCycle.mono _ _)
      | (with_reducible exact changeforgeref6_GraphFault.mono _ _)
      | (with_reducible exact changeforgeref6_Levels.mono _ _)
      | (with_reducible exact changeforgeref6_Topological.mono _ _)
      | (with_reducible exact depgraph_Levels.mono _ _)
      | (with_reducible exact depgraph_Order.mono _ _)
      | (with_reducible exact LeO.refl _)
      | (with_reducible exact LeO.none _)
      | (with_reducible refine LeO.ite ?_ ?_)
      | (with_reducible refine LeO.bind ?_ (fun _ => ?_))
      | exact ih0 _ _ _ _
      | exact ih1 _ _ _
      | exact ih2 _ _ _ _ _ _ _ _ _ _
      | exact changeforgelaw6_graphs.mono _
      | exact changeforgeref5_Ints.mono _ _ _
      | exact changeforgeref6_FirstOnCycle.mono _ _
      | exact changeforgeref6_GraphFault.mono _ _
      | exact changeforgeref6_Levels.mono _ _
      | exact changeforgeref6_Topological.mono _ _
      | exact depgraph_Levels.mono _ _
      | exact depgraph_Order.mono _ _
      | exact LeO.none _
      | refine LeO.ite ?_ ?_
      | refine LeO.bind ?_ (fun _ => ?_)
set_option maxHeartbeats 8000000 in
set_option maxRecDepth 100000 in
theorem changeforgelaw6_DepgraphOrderMatchesSpec.calls (k : Nat) (A0 : Option Addr) (c0 : Nat) (l0 : List (List Int)) (r : Bool) (w : World) (hr0 : Kd.C (Kd.slice 3 (Kd.int .i64)) w A0 l0.length l0) (hc0 : l0.length ≤ c0) (h : changeforgelaw6_DepgraphOrderMatchesSpec.f k l0 = some r) :
    Calls Try.prog 4 #[.slice A0 l0.length c0] w fun e w' => e = .returned (.bool r) ∧ Below w.heap.size w w' := by
  have hu25 := Try.underlying25
  have HR0 := Aside0.mk hr0
  have HC0 := Aside0.mk hc0
  clear hr0 hc0
  have HB := Aside0.mk (Below.refl w.heap.size w)
  have H : ((changeforgeref6_GraphFault.f k l0).bind fun bt363 => (if bt363.1 = 0 then ((changeforgeref6_FirstOnCycle.f k l0).bind fun t366 => (changeforgelaw6_DepgraphOrderMatchesSpec.j0 k l0 (decide (t366 ≥ 0)) bt363.1 bt363.2)) else (changeforgelaw6_DepgraphOrderMatchesSpec.j0 k l0 false bt363.1 bt363.2))) = some r := h
  clear h
  replace H := Option.bind_eq_some_iff.mp H
  obtain ⟨⟨t363, t364⟩, A20, H⟩ := H
  replace H : (if t363 = 0 then ((changeforgeref6_FirstOnCycle.f k l0).bind fun t366 => (changeforgelaw6_DepgraphOrderMatchesSpec.j0 k l0 (decide (t366 ≥ 0)) t363 t364)) else (changeforgelaw6_DepgraphOrderMatchesSpec.j0 k l0 false t363 t364)) = some r := H
  have A2 := Aside0.mk A20
  clear A20
  have HC3 := Aside0.mk H
  clear H
  go_enter Try.func4, Try.ntmps4
  go_upto_region 2 with (first | ((with_reducible refine gate_callee (f := 9) rfl ?_); refine goesL_ (some 9) rfl rfl Try.func9 (by kernel_rfl) rfl #[.slice A0 l0.length c0] rfl (by (try simp only [List.map_toArray, List.map_cons, List.map_nil]); first | done | rfl | (simp only [List.length_drop, List.length_take]; rfl)) ?_; (with_reducible refine (changeforgeref6_GraphFault.calls k _ _ l0 t363 t364 _ ?side1 ?side2 A2.out).mono ?_); (case side1 => repeat (first | exact HR0.out | (with_reducible refine Kd.C_alloc ?_ _) | (with_reducible refine Kd.C_drewN ?_ _) | (with_reducible refine Kd.C_drew ?_))); (case side2 => exact HC0.out); rintro e w4 ⟨rfl, hb⟩; refine ⟨_, rfl, ?_⟩; have n0_ := Aside0.mk (below_step (by repeat (first | (with_reducible first | exact HB.out | apply below_alloc | apply pw_below_drewN | apply below_drew1) | exact HB.out)) hb); clear HB; have HB := n0_; clear n0_; (try clear hb); (try clear hb2); (try clear hk); (try clear hi)) | ((with_reducible refine gate_dst (N := 3) rfl ?_); (try (refine gate_guard (by rfl) ?_; dsimp only)); refine box_event ?hg (N := 3) ?hd (cs := #[.int .i64 0, .int .i64 0]) (t := 25) ?hr ?_; (case hd => rfl); (case hg => rfl); (case hr => first | (go_simp; done) | (go_simp; rfl)); intro gb365 hg w5 hbox hb; have n0_ := Aside0.mk (below_step (by repeat (first | (with_reducible first | exact HB.out | apply below_alloc | apply pw_below_drewN | apply below_drew1) | exact HB.out)) hb); have n1_ := Aside0.mk (hbox); have n2_ := Aside0.mk ((by rw [hg]; exact (below_size (by repeat (first | (with_reducible first | exact HB.out | apply below_alloc | apply pw_below_drewN | apply below_drew1) | exact HB.out))) : w.heap.size ≤ gb365)); have n3_ := Aside0.mk ((by rw [hg]; exact (below_size (by repeat (first | (with_reducible first | exact HB.out | apply below_alloc | apply pw_below_drewN | apply below_drew1) | exact HB.out))) : w.heap.size ≤ gb365)); clear HB; have HB := n0_; have BK365 := n1_; have GW365 := n2_; have GE365 := n3_; clear n0_ n1_ n2_ n3_; clear hb hbox hg; have hcz6_0 : w5.cell? ⟨gb365, 0, none⟩ = some (.int .i64 0) := (blk_cell BK365.out 0).trans rfl; have hcz6_1 : w5.cell? ⟨gb365, 1, none⟩ = some (.int .i64 0) := (blk_cell BK365.out 1).trans rfl; have hfz6_0 := blk_frozen BK365.out 0; have hfz6_1 := blk_frozen BK365.out 1))
  (try simp only [Act.put, List.setIfInBounds_toArray, List.set_cons_zero, List.set_cons_succ])
  go_cut [17] (fun v17 wc => ∃ (kq : Nat) (x17_2 : Bool), v17 = .bool x17_2 ∧ Aside0 (changeforgelaw6_DepgraphOrderMatchesSpec.j0 kq l0 x17_2 t363 t364 = some r) ∧ Aside0 (kq ≤ k) ∧ Aside0 (wc.heap[gb365]? = some (.cells #[.int .i64 t363, .int .i64 t364] 25 (0, 0))) ∧ Aside0 (Below w.heap.size w wc))
  case first =>
    have H := HC3.out
    clear HC3
    by_cases c7 : t363 = 0
    · rw [if_pos c7] at H
      have c7b0 : (t363 == 0) = true := beq_iff_eq.mpr c7
      have c7b1 : (t363 != 0) = false := bne_eq_false_iff_eq.mpr c7
      clear c7
      (first | rw [c7b0] | (simp only [i64_w, i32_w]; rw [c7b0]) | skip)
      replace H := Option.bind_eq_some_iff.mp H
      obtain ⟨t366, A80, H⟩ := H
      replace H : (changeforgelaw6_DepgraphOrderMatchesSpec.j0 k l0 (decide (t366 ≥ 0)) t363 t364) = some r := H
      have A8 := Aside0.mk A80
      clear A80
      have H' := Aside0.mk H
      clear H
      have hcz9_0 : w5.cell? ⟨gb365, 0, none⟩ = some (.int .i64 0) := (blk_cell BK365.out 0).trans rfl
      have hcz9_1 : w5.cell? ⟨gb365, 1, none⟩ = some (.int .i64 0) := (blk_cell BK365.out 1).trans rfl
      have hfz9_0 := blk_frozen BK365.out 0
      have hfz9_1 := blk_frozen BK365.out 1
      go_wp2_with (first | (go_at_call 13; (with_reducible refine (changeforgeref6_FirstOnCycle.calls k _ _ l0 t366 _ ?side1 ?side2 A8.out).mono ?_); (case side1 => exact Kd.C_below HR0.out (by repeat (first | (with_reducible first | exact HB.out | apply below_alloc | apply pw_below_drewN | apply below_drew1 | refine below_set ?_ GE365.out) | exact HB.out))); (case side2 => exact HC0.out); rintro e w10 ⟨rfl, hb⟩; have n0_ := Aside0.mk (blk_below (g := gb365) (o := .cells #[.int .i64 t363, .int .i64 t364] 25 (0, 0)) (by (with_reducible repeat (first | refine blk_drewN ?_ _ | refine blk_drew ?_ | refine blk_alloc ?_ _)); refine blk_put (cs := #[.int .i64 t363, .int .i64 0]) ?_ 1 _ rfl; (with_reducible repeat (first | refine blk_drewN ?_ _ | refine blk_drew ?_ | refine blk_alloc ?_ _)); refine blk_put (cs := #[.int .i64 0, .int .i64 0]) ?_ 0 _ rfl; (with_reducible repeat (first | refine blk_drewN ?_ _ | refine blk_drew ?_ | refine blk_alloc ?_ _)); exact BK365.out) hb); have n1_ := Aside0.mk (below_step (by repeat (first | (with_reducible first | exact HB.out | apply below_alloc | apply pw_below_drewN | apply below_drew1 | refine below_set ?_ GE365.out) | exact HB.out)) hb); clear BK365; clear HB; have BK365 := n0_; have HB := n1_; clear n0_ n1_; (try clear hb); (try clear hb2); (try clear hk); (try clear hi)))
      go_meet
      case rel => exact ⟨_, (decide (t366 ≥ 0)), (by first | rfl | (simp; done) | (simp [*]; done)), H', ⟨by first | omega | exact Nat.le_refl _⟩, ⟨by (with_reducible repeat (first | refine blk_drewN ?_ _ | refine blk_drew ?_ | refine blk_alloc ?_ _)); exact BK365.out⟩, ⟨by repeat (first | (with_reducible first | exact HB.out | apply below_alloc | apply pw_below_drewN | apply below_drew1 | refine below_set ?_ GE365.out) | exact HB.out)⟩⟩
    · rw [if_neg c7] at H
      have c7b0 : (t363 == 0) = false := beq_eq_false_iff_ne.mpr c7
      have c7b1 : (t363 != 0) = true := bne_iff_ne.mpr c7
      (first | rw [c7b0] | (simp only [i64_w, i32_w]; rw [c7b0]) | skip)
      have H' := Aside0.mk H
      clear H
      have hcz11_0 : w5.cell? ⟨gb365, 0, none⟩ = some (.int .i64 0) := (blk_cell BK365.out 0).trans rfl
      have hcz11_1 : w5.cell? ⟨gb365, 1, none⟩ = some (.int .i64 0) := (blk_cell BK365.out 1).trans rfl
      have hfz11_0 := blk_frozen BK365.out 0
      have hfz11_1 := blk_frozen BK365.out 1
      go_wp2
      go_meet
      case rel => exact ⟨_, (false), (by first | rfl | (simp; done) | (simp [*]; done)), H', ⟨by first | omega | exact Nat.le_refl _⟩, ⟨by (with_reducible repeat (first | refine blk_drewN ?_ _ | refine blk_drew ?_ | refine blk_alloc ?_ _)); refine blk_put (cs := #[.int .i64 t363, .int .i64 0]) ?_ 1 _ rfl; (with_reducible repeat (first | refine blk_drewN ?_ _ | refine blk_drew ?_ | refine blk_alloc ?_ _)); refine blk_put (cs := #[.int .i64 0, .int .i64 0]) ?_ 0 _ rfl; (with_reducible repeat (first | refine blk_drewN ?_ _ | refine blk_drew ?_ | refine blk_alloc ?_ _)); exact BK365.out⟩, ⟨by repeat (first | (with_reducible first | exact HB.out | apply below_alloc | apply pw_below_drewN | apply below_drew1 | refine below_set ?_ GE365.out) | exact HB.out)⟩⟩
  case rest =>
    clear HC3
    try clear p2
    try clear c4
    try clear c7
    try clear c7b0
    try clear c7b1
    try clear c9
    try clear hcz11_0
    try clear hcz11_1
    try clear hcz6_0
    try clear hcz6_1
    try clear hcz9_0
    try clear hcz9_1
    try clear hfz11_0
    try clear hfz11_1
    try clear hfz6_0
    try clear hfz6_1
    try clear hfz9_0
    try clear hfz9_1
    obtain ⟨kq, x17_2, rfl, HA, HJ2, BK365, HB⟩ := hcut
    cases kq with
    | zero => exact absurd HA.out (by simp [changeforgelaw6_DepgraphOrderMatchesSpec.j0])
    | succ kj2 =>
      have H := HA.out
      clear HA
      simp only [changeforgelaw6_DepgraphOrderMatchesSpec.j0] at H
      have HC12 := Aside0.mk H
      clear H
      go_upto_if 17 with (fail)
      go_cut [] (fun wc => ∃ (kq : Nat) (x366000_11 : Int) (x366001_11 : Int), Aside0 (changeforgelaw6_DepgraphOrderMatchesSpec.j1 kq l0 x366000_11 x366001_11 = some r) ∧ Aside0 (kq ≤ kj2) ∧ Aside0 (wc.heap[gb365]? = some (.cells #[.int .i64 x366000_11, .int .i64 x366001_11] 25 (0, 0))) ∧ Aside0 (Below w.heap.size w wc))
      case first =>
        have H := HC12.out
        clear HC12
        by_cases c13 : x17_2 = true
        · subst c13
          have H1 : ((changeforgeref6_FirstOnCycle.f kj2 l0).bind fun t367 => ((changeforgelaw6_fault.f 20 t367).bind fun bt368 => (changeforgelaw6_DepgraphOrderMatchesSpec.j1 kj2 l0 bt368.1 bt368.2))) = some r := by rw [if_pos rfl] at H; exact H
          clear H
          have H := H1
          clear H1
          replace H := Option.bind_eq_some_iff.mp H
          obtain ⟨t367, A140, H⟩ := H
          replace H : ((changeforgelaw6_fault.f 20 t367).bind fun bt368 => (changeforgelaw6_DepgraphOrderMatchesSpec.j1 kj2 l0 bt368.1 bt368.2)) = some r := H
          have A14 := Aside0.mk A140
          clear A140
          replace H := Option.bind_eq_some_iff.mp H
          obtain ⟨⟨t368, t369⟩, A150, H⟩ := H
          replace H : (changeforgelaw6_DepgraphOrderMatchesSpec.j1 kj2 l0 t368 t369) = some r := H
          have A15 := Aside0.mk A150
          clear A150
          have H' := Aside0.mk H
          clear H
          go_wp2_with (first | ((with_reducible refine gate_callee (f := 13) rfl ?_); refine goesL_ (some 19) rfl rfl Try.func13 (by kernel_rfl) rfl #[.slice A0 l0.length c0] rfl (by (try simp only [List.map_toArray, List.map_cons, List.map_nil]); first | done | rfl | (simp only [List.length_drop, List.length_take]; rfl)) ?_; (with_reducible refine (changeforgeref6_FirstOnCycle.calls kj2 _ _ l0 t367 _ ?side1 ?side2 A14.out).mono ?_); (case side1 => repeat (first | exact (Kd.C_below HR0.out HB.out) | (with_reducible refine Kd.C_alloc ?_ _) | (with_reducible refine Kd.C_drewN ?_ _) | (with_reducible refine Kd.C_drew ?_))); (case side2 => exact HC0.out); rintro e w16 ⟨rfl, hb⟩; refine ⟨_, rfl, ?_⟩; have n0_ := Aside0.mk (blk_below (g := gb365) (o := .cells #[.int .i64 t363, .int .i64 t364] 25 (0, 0)) (by (with_reducible repeat (first | refine blk_drewN ?_ _ | refine blk_drew ?_ | refine blk_alloc ?_ _)); exact BK365.out) hb); have n1_ := Aside0.mk (below_step (by repeat (first | (with_reducible first | exact HB.out | apply below_alloc | apply pw_below_drewN | apply below_drew1 | refine below_set ?_ GE365.out) | exact HB.out)) hb); clear BK365; clear HB; have BK365 := n0_; have HB := n1_; clear n0_ n1_; (try clear hb); (try clear hb2); (try clear hk); (try clear hi)) | ((with_reducible refine gate_callee (f := 19) rfl ?_); refine goesL_ (some 20) rfl rfl Try.func19 (by kernel_rfl) rfl #[.int .i64 20, .int .i64 t367] rfl (by (try simp only [List.map_toArray, List.map_cons, List.map_nil]); first | done | rfl | (simp only [List.length_drop, List.length_take]; rfl)) ?_; (with_reducible refine (changeforgelaw6_fault.calls 20 t367 t368 t369 _ A15.out).mono ?_); rintro e w17 ⟨rfl, hb⟩; refine ⟨_, rfl, ?_⟩; have n0_ := Aside0.mk (blk_below (g := gb365) (o := .cells #[.int .i64 t363, .int .i64 t364] 25 (0, 0)) (by (with_reducible repeat (first | refine blk_drewN ?_ _ | refine blk_drew ?_ | refine blk_alloc ?_ _)); exact BK365.out) hb); have n1_ := Aside0.mk (below_step (by repeat (first | (with_reducible first | exact HB.out | apply below_alloc | apply pw_below_drewN | apply below_drew1 | refine below_set ?_ GE365.out) | exact HB.out)) hb); clear BK365; clear HB; have BK365 := n0_; have HB := n1_; clear n0_ n1_; (try clear hb); (try clear hb2); (try clear hk); (try clear hi); have hcz18_0 : w17.cell? ⟨gb365, 0, none⟩ = some (.int .i64 t363) := (blk_cell BK365.out 0).trans rfl; have hcz18_1 : w17.cell? ⟨gb365, 1, none⟩ = some (.int .i64 t364) := (blk_cell BK365.out 1).trans rfl; have hfz18_0 := blk_frozen BK365.out 0; have hfz18_1 := blk_frozen BK365.out 1))
          go_meet
          case rel => exact ⟨_, (t368), (t369), H', ⟨by have := HJ2.out; first | omega | exact Nat.le_refl _⟩, ⟨by (with_reducible repeat (first | refine blk_drewN ?_ _ | refine blk_drew ?_ | refine blk_alloc ?_ _)); refine blk_put (cs := #[.int .i64 t368, .int .i64 t364]) ?_ 1 _ rfl; (with_reducible repeat (first | refine blk_drewN ?_ _ | refine blk_drew ?_ | refine blk_alloc ?_ _)); refine blk_put (cs := #[.int .i64 t363, .int .i64 t364]) ?_ 0 _ rfl; (with_reducible repeat (first | refine blk_drewN ?_ _ | refine blk_drew ?_ | refine blk_alloc ?_ _)); exact BK365.out⟩, ⟨by repeat (first | (with_reducible first | exact HB.out | apply below_alloc | apply pw_below_drewN | apply below_drew1 | refine below_set ?_ GE365.out) | exact HB.out)⟩⟩
        · replace c13 := Bool.eq_false_iff.mpr c13
          subst c13
          have H1 : (changeforgelaw6_DepgraphOrderMatchesSpec.j1 kj2 l0 t363 t364) = some r := by rw [if_neg (show ¬ (false = true) by decide)] at H; exact H
          clear H
          have H := H1
          clear H1
          have H' := Aside0.mk H
          clear H
          go_wp2
          go_meet
          case rel => exact ⟨_, (t363), (t364), H', ⟨by have := HJ2.out; first | omega | exact Nat.le_refl _⟩, ⟨by (with_reducible repeat (first | refine blk_drewN ?_ _ | refine blk_drew ?_ | refine blk_alloc ?_ _)); exact BK365.out⟩, ⟨by repeat (first | (with_reducible first | exact HB.out | apply below_alloc | apply pw_below_drewN | apply below_drew1 | refine below_set ?_ GE365.out) | exact HB.out)⟩⟩
      case rest =>
        clear HC12
        try clear c1
        try clear p2
        try clear c4
        try clear c7
        try clear c7b0
        try clear c7b1
        try clear c9
        try clear c13
        try clear hcz11_0
        try clear hcz11_1
        try clear hcz18_0
        try clear hcz18_1
        try clear hcz6_0
        try clear hcz6_1
        try clear hcz9_0
        try clear hcz9_1
        try clear hfz11_0
        try clear hfz11_1
        try clear hfz18_0
        try clear hfz18_1
        try clear hfz6_0
        try clear hfz6_1
        try clear hfz9_0
        try clear hfz9_1
        try clear p2
        obtain ⟨kq, x366000_11, x366001_11, HA, HJ11, BK365, HB⟩ := hcut
        cases kq with
        | zero => exact absurd HA.out (by simp [changeforgelaw6_DepgraphOrderMatchesSpec.j1])
        | succ kj11 =>
          have H := HA.out
          clear HA
          simp only [changeforgelaw6_DepgraphOrderMatchesSpec.j1] at H
          replace H := Option.bind_eq_some_iff.mp H
          obtain ⟨⟨t370, t373, t374⟩, A190, H⟩ := H
          replace H : ((depgraph_Levels.f kj11 l0).bind fun bt376 => ((changeforgelaw6_graphs.f kj11).bind fun t382 => (if t382 = true then (if (!(t373 == x366000_11) || (!(t374 == x366001_11))) = true then (changeforgelaw6_DepgraphOrderMatchesSpec.j2 kj11 l0 t370 bt376.1 true x366000_11 x366001_11 t373 t374 bt376.2.1 bt376.2.2) else (if (!(bt376.2.1 == x366000_11) || (!(bt376.2.2 == x366001_11))) = true then (changeforgelaw6_DepgraphOrderMatchesSpec.j2 kj11 l0 t370 bt376.1 true x366000_11 x366001_11 t373 t374 bt376.2.1 bt376.2.2) else (changeforgelaw6_DepgraphOrderMatchesSpec.j2 kj11 l0 t370 bt376.1 (x366000_11 != 0) x366000_11 x366001_11 t373 t374 bt376.2.1 bt376.2.2))) else (changeforgelaw6_DepgraphOrderMatchesSpec.j2 kj11 l0 t370 bt376.1 true x366000_11 x366001_11 t373 t374 bt376.2.1 bt376.2.2)))) = some r := H
          have A19 := Aside0.mk A190
          clear A190
          replace H := Option.bind_eq_some_iff.mp H
          obtain ⟨⟨t376, t379, t380⟩, A200, H⟩ := H
          replace H : ((changeforgelaw6_graphs.f kj11).bind fun t382 => (if t382 = true then (if (!(t373 == x366000_11) || (!(t374 == x366001_11))) = true then (changeforgelaw6_DepgraphOrderMatchesSpec.j2 kj11 l0 t370 t376 true x366000_11 x366001_11 t373 t374 t379 t380) else (if (!(t379 == x366000_11) || (!(t380 == x366001_11))) = true then (changeforgelaw6_DepgraphOrderMatchesSpec.j2 kj11 l0 t370 t376 true x366000_11 x366001_11 t373 t374 t379 t380) else (changeforgelaw6_DepgraphOrderMatchesSpec.j2 kj11 l0 t370 t376 (x366000_11 != 0) x366000_11 x366001_11 t373 t374 t379 t380))) else (changeforgelaw6_DepgraphOrderMatchesSpec.j2 kj11 l0 t370 t376 true x366000_11 x366001_11 t373 t374 t379 t380))) = some r := H
          have A20 := Aside0.mk A200
          clear A200
          have HC21 := Aside0.mk H
          clear H
          go_upto_region 6 with (first | ((with_reducible refine gate_callee (f := 20) rfl ?_); refine goesL_ (some 23) rfl rfl Try.func20 (by kernel_rfl) rfl #[.slice A0 l0.length c0] rfl (by (try simp only [List.map_toArray, List.map_cons, List.map_nil]); first | done | rfl | (simp only [List.length_drop, List.length_take]; rfl)) ?_; (with_reducible refine (depgraph_Order.calls kj11 _ _ l0 t370 t373 t374 _ ?side1 ?side2 A19.out).mono ?_); (case side1 => repeat (first | exact (Kd.C_below HR0.out HB.out) | (with_reducible refine Kd.C_alloc ?_ _) | (with_reducible refine Kd.C_drewN ?_ _) | (with_reducible refine Kd.C_drew ?_))); (case side2 => exact HC0.out); rintro e w22 ⟨v371, rfl, ho0, hb⟩; refine ⟨_, rfl, ?_⟩; have n0_ := Aside0.mk (Kd.R_lower ho0 (below_size (by repeat (first | (with_reducible first | exact HB.out | apply below_alloc | apply pw_below_drewN | apply below_drew1 | refine below_set ?_ GE365.out) | exact HB.out)))); have n1_ := Aside0.mk (blk_below (g := gb365) (o := .cells #[.int .i64 x366000_11, .int .i64 x366001_11] 25 (0, 0)) (by (with_reducible repeat (first | refine blk_drewN ?_ _ | refine blk_drew ?_ | refine blk_alloc ?_ _)); exact BK365.out) hb); have n2_ := Aside0.mk (below_step (by repeat (first | (with_reducible first | exact HB.out | apply below_alloc | apply pw_below_drewN | apply below_drew1 | refine below_set ?_ GE365.out) | exact HB.out)) hb); clear BK365; clear HB; have HO372 := n0_; have BK365 := n1_; have HB := n2_; clear n0_ n1_ n2_; (try clear hb); (try clear hb2); (try clear hk); (try clear hi); (try clear ho0)) | ((with_reducible refine gate_dst (N := 5) rfl ?_); (try (refine gate_guard (by rfl) ?_; dsimp only)); refine box_event ?hg (N := 5) ?hd (cs := #[.int .i64 0, .int .i64 0]) (t := 25) ?hr ?_; (case hd => rfl); (case hg => rfl); (case hr => first | (go_simp; done) | (go_simp; rfl)); intro gb375 hg w23 hbox hb; have n0_ := Aside0.mk (Kd.R_below (by (with_reducible repeat (first | apply Kd.R_alloc | apply Kd.R_drewN | apply Kd.R_drew)); exact HO372.out) hb); have n1_ := Aside0.mk (blk_below (g := gb365) (o := .cells #[.int .i64 x366000_11, .int .i64 x366001_11] 25 (0, 0)) (by (with_reducible repeat (first | refine blk_drewN ?_ _ | refine blk_drew ?_ | refine blk_alloc ?_ _)); exact BK365.out) hb); have n2_ := Aside0.mk (below_step (by repeat (first | (with_reducible first | exact HB.out | apply below_alloc | apply pw_below_drewN | apply below_drew1 | refine below_set ?_ GE365.out) | exact HB.out)) hb); have n3_ := Aside0.mk (hbox); have n4_ := Aside0.mk ((by rw [hg]; exact (below_size (by repeat (first | (with_reducible first | exact HB.out | apply below_alloc | apply pw_below_drewN | apply below_drew1 | refine below_set ?_ GE365.out) | exact HB.out))) : w.heap.size ≤ gb375)); have n5_ := Aside0.mk ((by rw [hg]; exact (below_size (by repeat (first | (with_reducible first | exact HB.out | apply below_alloc | apply pw_below_drewN | apply below_drew1 | refine below_set ?_ GE365.out) | exact HB.out))) : w.heap.size ≤ gb375)); have n6_ := Aside0.mk ((by rw [hg]; exact Nat.ne_of_lt (blk_lt (g := gb365) (o := .cells #[.int .i64 x366000_11, .int .i64 x366001_11] 25 (0, 0)) (by (with_reducible repeat (first | refine blk_drewN ?_ _ | refine blk_drew ?_ | refine blk_alloc ?_ _)); exact BK365.out)) : gb365 ≠ gb375)); have n7_ := Aside0.mk ((by rw [hg]; exact Nat.ne_of_gt (blk_lt (g := gb365) (o := .cells #[.int .i64 x366000_11, .int .i64 x366001_11] 25 (0, 0)) (by (with_reducible repeat (first | refine blk_drewN ?_ _ | refine blk_drew ?_ | refine blk_alloc ?_ _)); exact BK365.out)) : gb375 ≠ gb365)); clear HO372; clear BK365; clear HB; have HO372 := n0_; have BK365 := n1_; have HB := n2_; have BK375 := n3_; have GW375 := n4_; have GE375 := n5_; have NB365_375 := n6_; have NB375_365 := n7_; clear n0_ n1_ n2_ n3_ n4_ n5_ n6_ n7_; clear hb hbox hg; have hnb24 := NB375_365.out; have hnc24 := NB365_375.out; have hcz25_0 : w23.cell? ⟨gb375, 0, none⟩ = some (.int .i64 0) := (blk_cell BK375.out 0).trans rfl; have hcz25_1 : w23.cell? ⟨gb375, 1, none⟩ = some (.int .i64 0) := (blk_cell BK375.out 1).trans rfl; have hfz25_0 := blk_frozen BK375.out 0; have hfz25_1 := blk_frozen BK375.out 1) | ((with_reducible refine gate_callee (f := 21) rfl ?_); refine goesL_ (some 28) rfl rfl Try.func21 (by kernel_rfl) rfl #[.slice A0 l0.length c0] rfl (by (try simp only [List.map_toArray, List.map_cons, List.map_nil]); first | done | rfl | (simp only [List.length_drop, List.length_take]; rfl)) ?_; (with_reducible refine (depgraph_Levels.calls kj11 _ _ l0 t376 t379 t380 _ ?side1 ?side2 A20.out).mono ?_); (case side1 => exact Kd.C_below HR0.out (by repeat (first | (with_reducible first | exact HB.out | apply below_alloc | apply pw_below_drewN | apply below_drew1 | refine below_set ?_ GE365.out | refine below_set ?_ GE375.out) | exact HB.out))); (case side2 => exact HC0.out); rintro e w26 ⟨v377, rfl, ho0, hb⟩; refine ⟨_, rfl, ?_⟩; have n0_ := Aside0.mk (Kd.R_elder' (by (with_reducible repeat (first | apply Kd.R_alloc | apply Kd.R_drewN | apply Kd.R_drew)); exact (Kd.R_mono (Kd.R_far (p := ⟨gb375, 1, none⟩) (Kd.R_far (p := ⟨gb375, 0, none⟩) (Kd.R_types HO372.out BK375.out (by decide)) (fun _ hk => hk.2) (.int .i64 t373)) (fun _ hk => hk.2) (.int .i64 t374)) (fun _ h_ => h_.1))) (Kd.R_base ho0) hb); have n1_ := Aside0.mk (Kd.R_lower (Kd.R_new' ho0 (Kd.R_lt (by (with_reducible repeat (first | apply Kd.R_alloc | apply Kd.R_drewN | apply Kd.R_drew)); exact (Kd.R_mono (Kd.R_far (p := ⟨gb375, 1, none⟩) (Kd.R_far (p := ⟨gb375, 0, none⟩) (Kd.R_types HO372.out BK375.out (by decide)) (fun _ hk => hk.2) (.int .i64 t373)) (fun _ hk => hk.2) (.int .i64 t374)) (fun _ h_ => h_.1))))) (below_size (by repeat (first | (with_reducible first | exact HB.out | apply below_alloc | apply pw_below_drewN | apply below_drew1 | refine below_set ?_ GE365.out | refine below_set ?_ GE375.out) | exact HB.out)))); have n2_ := Aside0.mk (blk_below (g := gb365) (o := .cells #[.int .i64 x366000_11, .int .i64 x366001_11] 25 (0, 0)) (by (with_reducible repeat (first | refine blk_drewN ?_ _ | refine blk_drew ?_ | refine blk_alloc ?_ _)); refine blk_far ?_ NB365_375.out _; (with_reducible repeat (first | refine blk_drewN ?_ _ | refine blk_drew ?_ | refine blk_alloc ?_ _)); refine blk_far ?_ NB365_375.out _; (with_reducible repeat (first | refine blk_drewN ?_ _ | refine blk_drew ?_ | refine blk_alloc ?_ _)); exact BK365.out) hb); have n3_ := Aside0.mk (blk_below (g := gb375) (o := .cells #[.int .i64 t373, .int .i64 t374] 25 (0, 0)) (by (with_reducible repeat (first | refine blk_drewN ?_ _ | refine blk_drew ?_ | refine blk_alloc ?_ _)); refine blk_put (cs := #[.int .i64 t373, .int .i64 0]) ?_ 1 _ rfl; (with_reducible repeat (first | refine blk_drewN ?_ _ | refine blk_drew ?_ | refine blk_alloc ?_ _)); refine blk_put (cs := #[.int .i64 0, .int .i64 0]) ?_ 0 _ rfl; (with_reducible repeat (first | refine blk_drewN ?_ _ | refine blk_drew ?_ | refine blk_alloc ?_ _)); exact BK375.out) hb); have n4_ := Aside0.mk (below_step (by repeat (first | (with_reducible first | exact HB.out | apply below_alloc | apply pw_below_drewN | apply below_drew1 | refine below_set ?_ GE365.out | refine below_set ?_ GE375.out) | exact HB.out)) hb); clear HO372; clear BK365; clear BK375; clear HB; have HO372 := n0_; have HO378 := n1_; have BK365 := n2_; have BK375 := n3_; have HB := n4_; clear n0_ n1_ n2_ n3_ n4_; (try clear hb); (try clear hb2); (try clear hk); (try clear hi); (try clear ho0)) | ((with_reducible refine gate_dst (N := 7) rfl ?_); (try (refine gate_guard (by rfl) ?_; dsimp only)); refine box_event ?hg (N := 7) ?hd (cs := #[.int .i64 0, .int .i64 0]) (t := 25) ?hr ?_; (case hd => rfl); (case hg => rfl); (case hr => first | (go_simp; done) | (go_simp; rfl)); intro gb381 hg w27 hbox hb; have n0_ := Aside0.mk (Kd.R_below (by (with_reducible repeat (first | apply Kd.R_alloc | apply Kd.R_drewN | apply Kd.R_drew)); exact HO372.out) hb); have n1_ := Aside0.mk (Kd.R_below (by (with_reducible repeat (first | apply Kd.R_alloc | apply Kd.R_drewN | apply Kd.R_drew)); exact HO378.out) hb); have n2_ := Aside0.mk (blk_below (g := gb365) (o := .cells #[.int .i64 x366000_11, .int .i64 x366001_11] 25 (0, 0)) (by (with_reducible repeat (first | refine blk_drewN ?_ _ | refine blk_drew ?_ | refine blk_alloc ?_ _)); exact BK365.out) hb); have n3_ := Aside0.mk (blk_below (g := gb375) (o := .cells #[.int .i64 t373, .int .i64 t374] 25 (0, 0)) (by (with_reducible repeat (first | refine blk_drewN ?_ _ | refine blk_drew ?_ | refine blk_alloc ?_ _)); exact BK375.out) hb); have n4_ := Aside0.mk (below_step (by repeat (first | (with_reducible first | exact HB.out | apply below_alloc | apply pw_below_drewN | apply below_drew1 | refine below_set ?_ GE365.out | refine below_set ?_ GE375.out) | exact HB.out)) hb); have n5_ := Aside0.mk (hbox); have n6_ := Aside0.mk ((by rw [hg]; exact (below_size (by repeat (first | (with_reducible first | exact HB.out | apply below_alloc | apply pw_below_drewN | apply below_drew1 | refine below_set ?_ GE365.out | refine below_set ?_ GE375.out) | exact HB.out))) : w.heap.size ≤ gb381)); have n7_ := Aside0.mk ((by rw [hg]; exact (below_size (by repeat (first | (with_reducible first | exact HB.out | apply below_alloc | apply pw_below_drewN | apply below_drew1 | refine below_set ?_ GE365.out | refine below_set ?_ GE375.out) | exact HB.out))) : w.heap.size ≤ gb381)); have n8_ := Aside0.mk ((by rw [hg]; exact Nat.ne_of_lt (blk_lt (g := gb365) (o := .cells #[.int .i64 x366000_11, .int .i64 x366001_11] 25 (0, 0)) (by (with_reducible repeat (first | refine blk_drewN ?_ _ | refine blk_drew ?_ | refine blk_alloc ?_ _)); exact BK365.out)) : gb365 ≠ gb381)); have n9_ := Aside0.mk ((by rw [hg]; exact Nat.ne_of_gt (blk_lt (g := gb365) (o := .cells #[.int .i64 x366000_11, .int .i64 x366001_11] 25 (0, 0)) (by (with_reducible repeat (first | refine blk_drewN ?_ _ | refine blk_drew ?_ | refine blk_alloc ?_ _)); exact BK365.out)) : gb381 ≠ gb365)); have n10_ := Aside0.mk ((by rw [hg]; exact Nat.ne_of_lt (blk_lt (g := gb375) (o := .cells #[.int .i64 t373, .int .i64 t374] 25 (0, 0)) (by (with_reducible repeat (first | refine blk_drewN ?_ _ | refine blk_drew ?_ | refine blk_alloc ?_ _)); exact BK375.out)) : gb375 ≠ gb381)); have n11_ := Aside0.mk ((by rw [hg]; exact Nat.ne_of_gt (blk_lt (g := gb375) (o := .cells #[.int .i64 t373, .int .i64 t374] 25 (0, 0)) (by (with_reducible repeat (first | refine blk_drewN ?_ _ | refine blk_drew ?_ | refine blk_alloc ?_ _)); exact BK375.out)) : gb381 ≠ gb375)); clear HO372; clear HO378; clear BK365; clear BK375; clear HB; have HO372 := n0_; have HO378 := n1_; have BK365 := n2_; have BK375 := n3_; have HB := n4_; have BK381 := n5_; have GW381 := n6_; have GE381 := n7_; have NB365_381 := n8_; have NB381_365 := n9_; have NB375_381 := n10_; have NB381_375 := n11_; clear n0_ n1_ n2_ n3_ n4_ n5_ n6_ n7_ n8_ n9_ n10_ n11_; clear hb hbox hg; have hnb28 := NB381_365.out; have hnc28 := NB365_381.out; have hnb29 := NB381_375.out; have hnc29 := NB375_381.out; have hcz30_0 : w27.cell? ⟨gb381, 0, none⟩ = some (.int .i64 0) := (blk_cell BK381.out 0).trans rfl; have hcz30_1 : w27.cell? ⟨gb381, 1, none⟩ = some (.int .i64 0) := (blk_cell BK381.out 1).trans rfl; have hfz30_0 := blk_frozen BK381.out 0; have hfz30_1 := blk_frozen BK381.out 1))
          (try simp only [Act.put, List.setIfInBounds_toArray, List.set_cons_zero, List.set_cons_succ])
          go_cut [47] (fun v47 wc => ∃ (kq : Nat) (x47_20 : Bool), v47 = .bool x47_20 ∧ Aside0 (changeforgelaw6_DepgraphOrderMatchesSpec.j2 kq l0 t370 t376 x47_20 x366000_11 x366001_11 t373 t374 t379 t380 = some r) ∧ Aside0 (kq ≤ kj11) ∧ Aside0 (Kd.R (Kd.int .i64) 3 wc w.heap.size (fun k_ => some k_ ≠ (v377 : Value).ownBlock) v371 t370) ∧ Aside0 (Kd.R (Kd.int .i64) 3 wc w.heap.size (fun k_ => some k_ ≠ (v371 : Value).ownBlock) v377 t376) ∧ Aside0 (wc.heap[gb365]? = some (.cells #[.int .i64 x366000_11, .int .i64 x366001_11] 25 (0, 0))) ∧ Aside0 (wc.heap[gb375]? = some (.cells #[.int .i64 t373, .int .i64 t374] 25 (0, 0))) ∧ Aside0 (wc.heap[gb381]? = some (.cells #[.int .i64 t379, .int .i64 t380] 25 (0, 0))) ∧ Aside0 (Below w.heap.size w wc))
          case first =>
            have H := HC21.out
            clear HC21
            replace H := Option.bind_eq_some_iff.mp H
            obtain ⟨t382, A310, H⟩ := H
            replace H : (if t382 = true then (if (!(t373 == x366000_11) || (!(t374 == x366001_11))) = true then (changeforgelaw6_DepgraphOrderMatchesSpec.j2 kj11 l0 t370 t376 true x366000_11 x366001_11 t373 t374 t379 t380) else (if (!(t379 == x366000_11) || (!(t380 == x366001_11))) = true then (changeforgelaw6_DepgraphOrderMatchesSpec.j2 kj11 l0 t370 t376 true x366000_11 x366001_11 t373 t374 t379 t380) else (changeforgelaw6_DepgraphOrderMatchesSpec.j2 kj11 l0 t370 t376 (x366000_11 != 0) x366000_11 x366001_11 t373 t374 t379 t380))) else (changeforgelaw6_DepgraphOrderMatchesSpec.j2 kj11 l0 t370 t376 true x366000_11 x366001_11 t373 t374 t379 t380)) = some r := H
            have A31 := Aside0.mk A310
            clear A310
            by_cases c32 : t382 = true
            · subst c32
              have H1 : (if (!(t373 == x366000_11) || (!(t374 == x366001_11))) = true then (changeforgelaw6_DepgraphOrderMatchesSpec.j2 kj11 l0 t370 t376 true x366000_11 x366001_11 t373 t374 t379 t380) else (if (!(t379 == x366000_11) || (!(t380 == x366001_11))) = true then (changeforgelaw6_DepgraphOrderMatchesSpec.j2 kj11 l0 t370 t376 true x366000_11 x366001_11 t373 t374 t379 t380) else (changeforgelaw6_DepgraphOrderMatchesSpec.j2 kj11 l0 t370 t376 (x366000_11 != 0) x366000_11 x366001_11 t373 t374 t379 t380))) = some r := by rw [if_pos rfl] at H; exact H
              clear H
              have H := H1
              clear H1
              by_cases c33 : (!(t373 == x366000_11) || (!(t374 == x366001_11))) = true
              · rw [if_pos c33] at H
                have c33b0 : (!(t373 == x366000_11) || (!(t374 == x366001_11))) = true := c33
                clear c33
                (first | rw [c33b0] | (simp only [i64_w, i32_w]; rw [c33b0]) | skip)
                have H' := Aside0.mk H
                clear H
                go_wp2_with (first | ((with_reducible refine gate_callee (f := 10) rfl ?_); refine goesL_ (some 31) rfl rfl Try.func10 (by kernel_rfl) rfl #[] rfl (by (try simp only [List.map_toArray, List.map_cons, List.map_nil]); first | done | rfl | (simp only [List.length_drop, List.length_take]; rfl)) ?_; (with_reducible refine (changeforgelaw6_graphs.calls kj11  true _ A31.out).mono ?_); rintro e w34 ⟨rfl, hb⟩; refine ⟨_, rfl, ?_⟩; have n0_ := Aside0.mk (Kd.R_below (by (with_reducible repeat (first | apply Kd.R_alloc | apply Kd.R_drewN | apply Kd.R_drew)); exact (Kd.R_mono (Kd.R_far (p := ⟨gb381, 1, none⟩) (Kd.R_far (p := ⟨gb381, 0, none⟩) (Kd.R_types HO372.out BK381.out (by decide)) (fun _ hk => hk.2) (.int .i64 t379)) (fun _ hk => hk.2) (.int .i64 t380)) (fun _ h_ => h_.1))) hb); have n1_ := Aside0.mk (Kd.R_below (by (with_reducible repeat (first | apply Kd.R_alloc | apply Kd.R_drewN | apply Kd.R_drew)); exact (Kd.R_mono (Kd.R_far (p := ⟨gb381, 1, none⟩) (Kd.R_far (p := ⟨gb381, 0, none⟩) (Kd.R_types HO378.out BK381.out (by decide)) (fun _ hk => hk.2) (.int .i64 t379)) (fun _ hk => hk.2) (.int .i64 t380)) (fun _ h_ => h_.1))) hb); have n2_ := Aside0.mk (blk_below (g := gb365) (o := .cells #[.int .i64 x366000_11, .int .i64 x366001_11] 25 (0, 0)) (by (with_reducible repeat (first | refine blk_drewN ?_ _ | refine blk_drew ?_ | refine blk_alloc ?_ _)); refine blk_far ?_ NB365_381.out _; (with_reducible repeat (first | refine blk_drewN ?_ _ | refine blk_drew ?_ | refine blk_alloc ?_ _)); refine blk_far ?_ NB365_381.out _; (with_reducible repeat (first | refine blk_drewN ?_ _ | refine blk_drew ?_ | refine blk_alloc ?_ _)); exact BK365.out) hb); have n3_ := Aside0.mk (blk_below (g := gb375) (o := .cells #[.int .i64 t373, .int .i64 t374] 25 (0, 0)) (by (with_reducible repeat (first | refine blk_drewN ?_ _ | refine blk_drew ?_ | refine blk_alloc ?_ _)); refine blk_far ?_ NB375_381.out _; (with_reducible repeat (first | refine blk_drewN ?_ _ | refine blk_drew ?_ | refine blk_alloc ?_ _)); refine blk_far ?_ NB375_381.out _; (with_reducible repeat (first | refine blk_drewN ?_ _ | refine blk_drew ?_ | refine blk_alloc ?_ _)); exact BK375.out) hb); have n4_ := Aside0.mk (blk_below (g := gb381) (o := .cells #[.int .i64 t379, .int .i64 t380] 25 (0, 0)) (by (with_reducible repeat (first | refine blk_drewN ?_ _ | refine blk_drew ?_ | refine blk_alloc ?_ _)); refine blk_put (cs := #[.int .i64 t379, .int .i64 0]) ?_ 1 _ rfl; (with_reducible repeat (first | refine blk_drewN ?_ _ | refine blk_drew ?_ | refine blk_alloc ?_ _)); refine blk_put (cs := #[.int .i64 0, .int .i64 0]) ?_ 0 _ rfl; (with_reducible repeat (first | refine blk_drewN ?_ _ | refine blk_drew ?_ | refine blk_alloc ?_ _)); exact BK381.out) hb); have n5_ := Aside0.mk (below_step (by repeat (first | (with_reducible first | exact HB.out | apply below_alloc | apply pw_below_drewN | apply below_drew1 | refine below_set ?_ GE365.out | refine below_set ?_ GE375.out | refine below_set ?_ GE381.out) | exact HB.out)) hb); clear HO372; clear HO378; clear BK365; clear BK375; clear BK381; clear HB; have HO372 := n0_; have HO378 := n1_; have BK365 := n2_; have BK375 := n3_; have BK381 := n4_; have HB := n5_; clear n0_ n1_ n2_ n3_ n4_ n5_; (try clear hb); (try clear hb2); (try clear hk); (try clear hi); have hnb35 := NB375_365.out; have hnc35 := NB365_375.out; have hnb36 := NB375_381.out; have hnc36 := NB381_375.out; have hcz37_0 : w34.cell? ⟨gb375, 0, none⟩ = some (.int .i64 t373) := (blk_cell BK375.out 0).trans rfl; have hcz37_1 : w34.cell? ⟨gb375, 1, none⟩ = some (.int .i64 t374) := (blk_cell BK375.out 1).trans rfl; have hfz37_0 := blk_frozen BK375.out 0; have hfz37_1 := blk_frozen BK375.out 1; have hnb38 := NB365_381.out; have hnc38 := NB381_365.out; have hcz39_0 : w34.cell? ⟨gb365, 0, none⟩ = some (.int .i64 x366000_11) := (blk_cell BK365.out 0).trans rfl; have hcz39_1 : w34.cell? ⟨gb365, 1, none⟩ = some (.int .i64 x366001_11) := (blk_cell BK365.out 1).trans rfl; have hfz39_0 := blk_frozen BK365.out 0; have hfz39_1 := blk_frozen BK365.out 1))
                go_meet
                case rel => exact ⟨_, (true), (by first | rfl | (simp; done) | (simp [*]; done)), H', ⟨by have := HJ2.out; have := HJ11.out; first | omega | exact Nat.le_refl _⟩, ⟨by (with_reducible repeat (first | apply Kd.R_alloc | apply Kd.R_drewN | apply Kd.R_drew)); exact Kd.R_mono HO372.out (fun _ hk => hk.2)⟩, ⟨by (with_reducible repeat (first | apply Kd.R_alloc | apply Kd.R_drewN | apply Kd.R_drew)); exact Kd.R_mono HO378.out (fun _ hk => hk.2)⟩, ⟨by (with_reducible repeat (first | refine blk_drewN ?_ _ | refine blk_drew ?_ | refine blk_alloc ?_ _)); exact BK365.out⟩, ⟨by (with_reducible repeat (first | refine blk_drewN ?_ _ | refine blk_drew ?_ | refine blk_alloc ?_ _)); exact BK375.out⟩, ⟨by (with_reducible repeat (first | refine blk_drewN ?_ _ | refine blk_drew ?_ | refine blk_alloc ?_ _)); exact BK381.out⟩, ⟨by repeat (first | (with_reducible first | exact HB.out | apply below_alloc | apply pw_below_drewN | apply below_drew1 | refine below_set ?_ GE365.out | refine below_set ?_ GE375.out | refine below_set ?_ GE381.out) | exact HB.out)⟩⟩
              · rw [if_neg c33] at H
                have c33b0 : (!(t373 == x366000_11) || (!(t374 == x366001_11))) = false := by simpa using c33
                clear c33
                (first | rw [c33b0] | (simp only [i64_w, i32_w]; rw [c33b0]) | skip)
                by_cases c40 : (!(t379 == x366000_11) || (!(t380 == x366001_11))) = true
                · rw [if_pos c40] at H
                  have c40b0 : (!(t379 == x366000_11) || (!(t380 == x366001_11))) = true := c40
                  clear c40
                  have H' := Aside0.mk H
                  clear H
                  go_wp2_with (first | ((with_reducible refine gate_callee (f := 10) rfl ?_); refine goesL_ (some 31) rfl rfl Try.func10 (by kernel_rfl) rfl #[] rfl (by (try simp only [List.map_toArray, List.map_cons, List.map_nil]); first | done | rfl | (simp only [List.length_drop, List.length_take]; rfl)) ?_; (with_reducible refine (changeforgelaw6_graphs.calls kj11  true _ A31.out).mono ?_); rintro e w41 ⟨rfl, hb⟩; refine ⟨_, rfl, ?_⟩; have n0_ := Aside0.mk (Kd.R_below (by (with_reducible repeat (first | apply Kd.R_alloc | apply Kd.R_drewN | apply Kd.R_drew)); exact (Kd.R_mono (Kd.R_far (p := ⟨gb381, 1, none⟩) (Kd.R_far (p := ⟨gb381, 0, none⟩) (Kd.R_types HO372.out BK381.out (by decide)) (fun _ hk => hk.2) (.int .i64 t379)) (fun _ hk => hk.2) (.int .i64 t380)) (fun _ h_ => h_.1))) hb); have n1_ := Aside0.mk (Kd.R_below (by (with_reducible repeat (first | apply Kd.R_alloc | apply Kd.R_drewN | apply Kd.R_drew)); exact (Kd.R_mono (Kd.R_far (p := ⟨gb381, 1, none⟩) (Kd.R_far (p := ⟨gb381, 0, none⟩) (Kd.R_types HO378.out BK381.out (by decide)) (fun _ hk => hk.2) (.int .i64 t379)) (fun _ hk => hk.2) (.int .i64 t380)) (fun _ h_ => h_.1))) hb); have n2_ := Aside0.mk (blk_below (g := gb365) (o := .cells #[.int .i64 x366000_11, .int .i64 x366001_11] 25 (0, 0)) (by (with_reducible repeat (first | refine blk_drewN ?_ _ | refine blk_drew ?_ | refine blk_alloc ?_ _)); refine blk_far ?_ NB365_381.out _; (with_reducible repeat (first | refine blk_drewN ?_ _ | refine blk_drew ?_ | refine blk_alloc ?_ _)); refine blk_far ?_ NB365_381.out _; (with_reducible repeat (first | refine blk_drewN ?_ _ | refine blk_drew ?_ | refine blk_alloc ?_ _)); exact BK365.out) hb); have n3_ := Aside0.mk (blk_below (g := gb375) (o := .cells #[.int .i64 t373, .int .i64 t374] 25 (0, 0)) (by (with_reducible repeat (first | refine blk_drewN ?_ _ | refine blk_drew ?_ | refine blk_alloc ?_ _)); refine blk_far ?_ NB375_381.out _; (with_reducible repeat (first | refine blk_drewN ?_ _ | refine blk_drew ?_ | refine blk_alloc ?_ _)); refine blk_far ?_ NB375_381.out _; (with_reducible repeat (first | refine blk_drewN ?_ _ | refine blk_drew ?_ | refine blk_alloc ?_ _)); exact BK375.out) hb); have n4_ := Aside0.mk (blk_below (g := gb381) (o := .cells #[.int .i64 t379, .int .i64 t380] 25 (0, 0)) (by (with_reducible repeat (first | refine blk_drewN ?_ _ | refine blk_drew ?_ | refine blk_alloc ?_ _)); refine blk_put (cs := #[.int .i64 t379, .int .i64 0]) ?_ 1 _ rfl; (with_reducible repeat (first | refine blk_drewN ?_ _ | refine blk_drew ?_ | refine blk_alloc ?_ _)); refine blk_put (cs := #[.int .i64 0, .int .i64 0]) ?_ 0 _ rfl; (with_reducible repeat (first | refine blk_drewN ?_ _ | refine blk_drew ?_ | refine blk_alloc ?_ _)); exact BK381.out) hb); have n5_ := Aside0.mk (below_step (by repeat (first | (with_reducible first | exact HB.out | apply below_alloc | apply pw_below_drewN | apply below_drew1 | refine below_set ?_ GE365.out | refine below_set ?_ GE375.out | refine below_set ?_ GE381.out) | exact HB.out)) hb); clear HO372; clear HO378; clear BK365; clear BK375; clear BK381; clear HB; have HO372 := n0_; have HO378 := n1_; have BK365 := n2_; have BK375 := n3_; have BK381 := n4_; have HB := n5_; clear n0_ n1_ n2_ n3_ n4_ n5_; (try clear hb); (try clear hb2); (try clear hk); (try clear hi); have hnb42 := NB375_365.out; have hnc42 := NB365_375.out; have hnb43 := NB375_381.out; have hnc43 := NB381_375.out; have hcz44_0 : w41.cell? ⟨gb375, 0, none⟩ = some (.int .i64 t373) := (blk_cell BK375.out 0).trans rfl; have hcz44_1 : w41.cell? ⟨gb375, 1, none⟩ = some (.int .i64 t374) := (blk_cell BK375.out 1).trans rfl; have hfz44_0 := blk_frozen BK375.out 0; have hfz44_1 := blk_frozen BK375.out 1; have hnb45 := NB365_381.out; have hnc45 := NB381_365.out; have hcz46_0 : w41.cell? ⟨gb365, 0, none⟩ = some (.int .i64 x366000_11) := (blk_cell BK365.out 0).trans rfl; have hcz46_1 : w41.cell? ⟨gb365, 1, none⟩ = some (.int .i64 x366001_11) := (blk_cell BK365.out 1).trans rfl; have hfz46_0 := blk_frozen BK365.out 0; have hfz46_1 := blk_frozen BK365.out 1; have hcz47_0 : w41.cell? ⟨gb381, 0, none⟩ = some (.int .i64 t379) := (blk_cell BK381.out 0).trans rfl; have hcz47_1 : w41.cell? ⟨gb381, 1, none⟩ = some (.int .i64 t380) := (blk_cell BK381.out 1).trans rfl; have hfz47_0 := blk_frozen BK381.out 0; have hfz47_1 := blk_frozen BK381.out 1))
                  go_meet
                  case rel => exact ⟨_, (true), (by first | rfl | (simp; done) | (simp [*]; done)), H', ⟨by have := HJ2.out; have := HJ11.out; first | omega | exact Nat.le_refl _⟩, ⟨by (with_reducible repeat (first | apply Kd.R_alloc | apply Kd.R_drewN | apply Kd.R_drew)); exact Kd.R_mono HO372.out (fun _ hk => hk.2)⟩, ⟨by (with_reducible repeat (first | apply Kd.R_alloc | apply Kd.R_drewN | apply Kd.R_drew)); exact Kd.R_mono HO378.out (fun _ hk => hk.2)⟩, ⟨by (with_reducible repeat (first | refine blk_drewN ?_ _ | refine blk_drew ?_ | refine blk_alloc ?_ _)); exact BK365.out⟩, ⟨by (with_reducible repeat (first | refine blk_drewN ?_ _ | refine blk_drew ?_ | refine blk_alloc ?_ _)); exact BK375.out⟩, ⟨by (with_reducible repeat (first | refine blk_drewN ?_ _ | refine blk_drew ?_ | refine blk_alloc ?_ _)); exact BK381.out⟩, ⟨by repeat (first | (with_reducible first | exact HB.out | apply below_alloc | apply pw_below_drewN | apply below_drew1 | refine below_set ?_ GE365.out | refine below_set ?_ GE375.out | refine below_set ?_ GE381.out) | exact HB.out)⟩⟩
                · rw [if_neg c40] at H
                  have c40b0 : (!(t379 == x366000_11) || (!(t380 == x366001_11))) = false := by simpa using c40
                  clear c40
                  have H' := Aside0.mk H
                  clear H
                  go_wp2_with (first | ((with_reducible refine gate_callee (f := 10) rfl ?_); refine goesL_ (some 31) rfl rfl Try.func10 (by kernel_rfl) rfl #[] rfl (by (try simp only [List.map_toArray, List.map_cons, List.map_nil]); first | done | rfl | (simp only [List.length_drop, List.length_take]; rfl)) ?_; (with_reducible refine (changeforgelaw6_graphs.calls kj11  true _ A31.out).mono ?_); rintro e w48 ⟨rfl, hb⟩; refine ⟨_, rfl, ?_⟩; have n0_ := Aside0.mk (Kd.R_below (by (with_reducible repeat (first | apply Kd.R_alloc | apply Kd.R_drewN | apply Kd.R_drew)); exact (Kd.R_mono (Kd.R_far (p := ⟨gb381, 1, none⟩) (Kd.R_far (p := ⟨gb381, 0, none⟩) (Kd.R_types HO372.out BK381.out (by decide)) (fun _ hk => hk.2) (.int .i64 t379)) (fun _ hk => hk.2) (.int .i64 t380)) (fun _ h_ => h_.1))) hb); have n1_ := Aside0.mk (Kd.R_below (by (with_reducible repeat (first | apply Kd.R_alloc | apply Kd.R_drewN | apply Kd.R_drew)); exact (Kd.R_mono (Kd.R_far (p := ⟨gb381, 1, none⟩) (Kd.R_far (p := ⟨gb381, 0, none⟩) (Kd.R_types HO378.out BK381.out (by decide)) (fun _ hk => hk.2) (.int .i64 t379)) (fun _ hk => hk.2) (.int .i64 t380)) (fun _ h_ => h_.1))) hb); have n2_ := Aside0.mk (blk_below (g := gb365) (o := .cells #[.int .i64 x366000_11, .int .i64 x366001_11] 25 (0, 0)) (by (with_reducible repeat (first | refine blk_drewN ?_ _ | refine blk_drew ?_ | refine blk_alloc ?_ _)); refine blk_far ?_ NB365_381.out _; (with_reducible repeat (first | refine blk_drewN ?_ _ | refine blk_drew ?_ | refine blk_alloc ?_ _)); refine blk_far ?_ NB365_381.out _; (with_reducible repeat (first | refine blk_drewN ?_ _ | refine blk_drew ?_ | refine blk_alloc ?_ _)); exact BK365.out) hb); have n3_ := Aside0.mk (blk_below (g := gb375) (o := .cells #[.int .i64 t373, .int .i64 t374] 25 (0, 0)) (by (with_reducible repeat (first | refine blk_drewN ?_ _ | refine blk_drew ?_ | refine blk_alloc ?_ _)); refine blk_far ?_ NB375_381.out _; (with_reducible repeat (first | refine blk_drewN ?_ _ | refine blk_drew ?_ | refine blk_alloc ?_ _)); refine blk_far ?_ NB375_381.out _; (with_reducible repeat (first | refine blk_drewN ?_ _ | refine blk_drew ?_ | refine blk_alloc ?_ _)); exact BK375.out) hb); have n4_ := Aside0.mk (blk_below (g := gb381) (o := .cells #[.int .i64 t379, .int .i64 t380] 25 (0, 0)) (by (with_reducible repeat (first | refine blk_drewN ?_ _ | refine blk_drew ?_ | refine blk_alloc ?_ _)); refine blk_put (cs := #[.int .i64 t379, .int .i64 0]) ?_ 1 _ rfl; (with_reducible repeat (first | refine blk_drewN ?_ _ | refine blk_drew ?_ | refine blk_alloc ?_ _)); refine blk_put (cs := #[.int .i64 0, .int .i64 0]) ?_ 0 _ rfl; (with_reducible repeat (first | refine blk_drewN ?_ _ | refine blk_drew ?_ | refine blk_alloc ?_ _)); exact BK381.out) hb); have n5_ := Aside0.mk (below_step (by repeat (first | (with_reducible first | exact HB.out | apply below_alloc | apply pw_below_drewN | apply below_drew1 | refine below_set ?_ GE365.out | refine below_set ?_ GE375.out | refine below_set ?_ GE381.out) | exact HB.out)) hb); clear HO372; clear HO378; clear BK365; clear BK375; clear BK381; clear HB; have HO372 := n0_; have HO378 := n1_; have BK365 := n2_; have BK375 := n3_; have BK381 := n4_; have HB := n5_; clear n0_ n1_ n2_ n3_ n4_ n5_; (try clear hb); (try clear hb2); (try clear hk); (try clear hi); have hnb49 := NB375_365.out; have hnc49 := NB365_375.out; have hnb50 := NB375_381.out; have hnc50 := NB381_375.out; have hcz51_0 : w48.cell? ⟨gb375, 0, none⟩ = some (.int .i64 t373) := (blk_cell BK375.out 0).trans rfl; have hcz51_1 : w48.cell? ⟨gb375, 1, none⟩ = some (.int .i64 t374) := (blk_cell BK375.out 1).trans rfl; have hfz51_0 := blk_frozen BK375.out 0; have hfz51_1 := blk_frozen BK375.out 1; have hnb52 := NB365_381.out; have hnc52 := NB381_365.out; have hcz53_0 : w48.cell? ⟨gb365, 0, none⟩ = some (.int .i64 x366000_11) := (blk_cell BK365.out 0).trans rfl; have hcz53_1 : w48.cell? ⟨gb365, 1, none⟩ = some (.int .i64 x366001_11) := (blk_cell BK365.out 1).trans rfl; have hfz53_0 := blk_frozen BK365.out 0; have hfz53_1 := blk_frozen BK365.out 1; have hcz54_0 : w48.cell? ⟨gb381, 0, none⟩ = some (.int .i64 t379) := (blk_cell BK381.out 0).trans rfl; have hcz54_1 : w48.cell? ⟨gb381, 1, none⟩ = some (.int .i64 t380) := (blk_cell BK381.out 1).trans rfl; have hfz54_0 := blk_frozen BK381.out 0; have hfz54_1 := blk_frozen BK381.out 1))
                  go_meet
                  case rel => exact ⟨_, ((x366000_11 != 0)), (by first | rfl | (simp; done) | (simp [*]; done)), H', ⟨by have := HJ2.out; have := HJ11.out; first | omega | exact Nat.le_refl _⟩, ⟨by (with_reducible repeat (first | apply Kd.R_alloc | apply Kd.R_drewN | apply Kd.R_drew)); exact Kd.R_mono HO372.out (fun _ hk => hk.2)⟩, ⟨by (with_reducible repeat (first | apply Kd.R_alloc | apply Kd.R_drewN | apply Kd.R_drew)); exact Kd.R_mono HO378.out (fun _ hk => hk.2)⟩, ⟨by (with_reducible repeat (first | refine blk_drewN ?_ _ | refine blk_drew ?_ | refine blk_alloc ?_ _)); exact BK365.out⟩, ⟨by (with_reducible repeat (first | refine blk_drewN ?_ _ | refine blk_drew ?_ | refine blk_alloc ?_ _)); exact BK375.out⟩, ⟨by (with_reducible repeat (first | refine blk_drewN ?_ _ | refine blk_drew ?_ | refine blk_alloc ?_ _)); exact BK381.out⟩, ⟨by repeat (first | (with_reducible first | exact HB.out | apply below_alloc | apply pw_below_drewN | apply below_drew1 | refine below_set ?_ GE365.out | refine below_set ?_ GE375.out | refine below_set ?_ GE381.out) | exact HB.out)⟩⟩
            · replace c32 := Bool.eq_false_iff.mpr c32
              subst c32
              have H1 : (changeforgelaw6_DepgraphOrderMatchesSpec.j2 kj11 l0 t370 t376 true x366000_11 x366001_11 t373 t374 t379 t380) = some r := by rw [if_neg (show ¬ (false = true) by decide)] at H; exact H
              clear H
              have H := H1
              clear H1
              have H' := Aside0.mk H
              clear H
              go_wp2_with (first | ((with_reducible refine gate_callee (f := 10) rfl ?_); refine goesL_ (some 31) rfl rfl Try.func10 (by kernel_rfl) rfl #[] rfl (by (try simp only [List.map_toArray, List.map_cons, List.map_nil]); first | done | rfl | (simp only [List.length_drop, List.length_take]; rfl)) ?_; (with_reducible refine (changeforgelaw6_graphs.calls kj11  false _ A31.out).mono ?_); rintro e w55 ⟨rfl, hb⟩; refine ⟨_, rfl, ?_⟩; have n0_ := Aside0.mk (Kd.R_below (by (with_reducible repeat (first | apply Kd.R_alloc | apply Kd.R_drewN | apply Kd.R_drew)); exact (Kd.R_mono (Kd.R_far (p := ⟨gb381, 1, none⟩) (Kd.R_far (p := ⟨gb381, 0, none⟩) (Kd.R_types HO372.out BK381.out (by decide)) (fun _ hk => hk.2) (.int .i64 t379)) (fun _ hk => hk.2) (.int .i64 t380)) (fun _ h_ => h_.1))) hb); have n1_ := Aside0.mk (Kd.R_below (by (with_reducible repeat (first | apply Kd.R_alloc | apply Kd.R_drewN | apply Kd.R_drew)); exact (Kd.R_mono (Kd.R_far (p := ⟨gb381, 1, none⟩) (Kd.R_far (p := ⟨gb381, 0, none⟩) (Kd.R_types HO378.out BK381.out (by decide)) (fun _ hk => hk.2) (.int .i64 t379)) (fun _ hk => hk.2) (.int .i64 t380)) (fun _ h_ => h_.1))) hb); have n2_ := Aside0.mk (blk_below (g := gb365) (o := .cells #[.int .i64 x366000_11, .int .i64 x366001_11] 25 (0, 0)) (by (with_reducible repeat (first | refine blk_drewN ?_ _ | refine blk_drew ?_ | refine blk_alloc ?_ _)); refine blk_far ?_ NB365_381.out _; (with_reducible repeat (first | refine blk_drewN ?_ _ | refine blk_drew ?_ | refine blk_alloc ?_ _)); refine blk_far ?_ NB365_381.out _; (with_reducible repeat (first | refine blk_drewN ?_ _ | refine blk_drew ?_ | refine blk_alloc ?_ _)); exact BK365.out) hb); have n3_ := Aside0.mk (blk_below (g := gb375) (o := .cells #[.int .i64 t373, .int .i64 t374] 25 (0, 0)) (by (with_reducible repeat (first | refine blk_drewN ?_ _ | refine blk_drew ?_ | refine blk_alloc ?_ _)); refine blk_far ?_ NB375_381.out _; (with_reducible repeat (first | refine blk_drewN ?_ _ | refine blk_drew ?_ | refine blk_alloc ?_ _)); refine blk_far ?_ NB375_381.out _; (with_reducible repeat (first | refine blk_drewN ?_ _ | refine blk_drew ?_ | refine blk_alloc ?_ _)); exact BK375.out) hb); have n4_ := Aside0.mk (blk_below (g := gb381) (o := .cells #[.int .i64 t379, .int .i64 t380] 25 (0, 0)) (by (with_reducible repeat (first | refine blk_drewN ?_ _ | refine blk_drew ?_ | refine blk_alloc ?_ _)); refine blk_put (cs := #[.int .i64 t379, .int .i64 0]) ?_ 1 _ rfl; (with_reducible repeat (first | refine blk_drewN ?_ _ | refine blk_drew ?_ | refine blk_alloc ?_ _)); refine blk_put (cs := #[.int .i64 0, .int .i64 0]) ?_ 0 _ rfl; (with_reducible repeat (first | refine blk_drewN ?_ _ | refine blk_drew ?_ | refine blk_alloc ?_ _)); exact BK381.out) hb); have n5_ := Aside0.mk (below_step (by repeat (first | (with_reducible first | exact HB.out | apply below_alloc | apply pw_below_drewN | apply below_drew1 | refine below_set ?_ GE365.out | refine below_set ?_ GE375.out | refine below_set ?_ GE381.out) | exact HB.out)) hb); clear HO372; clear HO378; clear BK365; clear BK375; clear BK381; clear HB; have HO372 := n0_; have HO378 := n1_; have BK365 := n2_; have BK375 := n3_; have BK381 := n4_; have HB := n5_; clear n0_ n1_ n2_ n3_ n4_ n5_; (try clear hb); (try clear hb2); (try clear hk); (try clear hi)))
              go_meet
              case rel => exact ⟨_, (true), (by first | rfl | (simp; done) | (simp [*]; done)), H', ⟨by have := HJ2.out; have := HJ11.out; first | omega | exact Nat.le_refl _⟩, ⟨by (with_reducible repeat (first | apply Kd.R_alloc | apply Kd.R_drewN | apply Kd.R_drew)); exact Kd.R_mono HO372.out (fun _ hk => hk.2)⟩, ⟨by (with_reducible repeat (first | apply Kd.R_alloc | apply Kd.R_drewN | apply Kd.R_drew)); exact Kd.R_mono HO378.out (fun _ hk => hk.2)⟩, ⟨by (with_reducible repeat (first | refine blk_drewN ?_ _ | refine blk_drew ?_ | refine blk_alloc ?_ _)); exact BK365.out⟩, ⟨by (with_reducible repeat (first | refine blk_drewN ?_ _ | refine blk_drew ?_ | refine blk_alloc ?_ _)); exact BK375.out⟩, ⟨by (with_reducible repeat (first | refine blk_drewN ?_ _ | refine blk_drew ?_ | refine blk_alloc ?_ _)); exact BK381.out⟩, ⟨by repeat (first | (with_reducible first | exact HB.out | apply below_alloc | apply pw_below_drewN | apply below_drew1 | refine below_set ?_ GE365.out | refine below_set ?_ GE375.out | refine below_set ?_ GE381.out) | exact HB.out)⟩⟩
          case rest =>
            clear HC21
            try clear c1
            try clear c2
            try clear p2
            try clear c3
            try clear c4
            try clear c5
            try clear c7
            try clear c7b0
            try clear c7b1
            try clear c9
            try clear c10
            try clear c13
            try clear c19
            try clear c20
            try clear c21
            try clear c24
            try clear c28
            try clear c29
            try clear c32
            try clear c33
            try clear c33b0
            try clear c35
            try clear c36
            try clear c38
            try clear c40
            try clear c40b0
            try clear c42
            try clear c43
            try clear c45
            try clear c49
            try clear c50
            try clear c52
            try clear hcz11_0
            try clear hcz11_1
            try clear hcz18_0
            try clear hcz18_1
            try clear hcz25_0
            try clear hcz25_1
            try clear hcz30_0
            try clear hcz30_1
            try clear hcz37_0
            try clear hcz37_1
            try clear hcz39_0
            try clear hcz39_1
            try clear hcz44_0
            try clear hcz44_1
            try clear hcz46_0
            try clear hcz46_1
            try clear hcz47_0
            try clear hcz47_1
            try clear hcz51_0
            try clear hcz51_1
            try clear hcz53_0
            try clear hcz53_1
            try clear hcz54_0
            try clear hcz54_1
            try clear hcz6_0
            try clear hcz6_1
            try clear hcz9_0
            try clear hcz9_1
            try clear hfz11_0
            try clear hfz11_1
            try clear hfz18_0
            try clear hfz18_1
            try clear hfz25_0
            try clear hfz25_1
            try clear hfz30_0
            try clear hfz30_1
            try clear hfz37_0
            try clear hfz37_1
            try clear hfz39_0
            try clear hfz39_1
            try clear hfz44_0
            try clear hfz44_1
            try clear hfz46_0
            try clear hfz46_1
            try clear hfz47_0
            try clear hfz47_1
            try clear hfz51_0
            try clear hfz51_1
            try clear hfz53_0
            try clear hfz53_1
            try clear hfz54_0
            try clear hfz54_1
            try clear hfz6_0
            try clear hfz6_1
            try clear hfz9_0
            try clear hfz9_1
            try clear p2
            obtain ⟨kq, x47_20, rfl, HA, HJ20, HO_4, HO_6, BK365, BK375, BK381, HB⟩ := hcut
            cases kq with
            | zero => exact absurd HA.out (by simp [changeforgelaw6_DepgraphOrderMatchesSpec.j2])
            | succ kj20 =>
              have H := HA.out
              clear HA
              simp only [changeforgelaw6_DepgraphOrderMatchesSpec.j2] at H
              by_cases c56 : x47_20 = true
              · subst c56
                have H1 : ((changeforgelaw6_graphs.f kj20).bind fun t383 => (if t383 = true then (if (t373 == x366000_11 && (t374 == x366001_11)) = true then (if (t379 == x366000_11 && (t380 == x366001_11)) = true then (if (t370.length : Int) = 0 then (some ((t376.length : Int) == 0)) else (some false)) else (some false)) else (some false)) else (some false))) = some r := by rw [if_pos rfl] at H; exact H
                clear H
                have H := H1
                clear H1
                replace H := Option.bind_eq_some_iff.mp H
                obtain ⟨t383, A570, H⟩ := H
                replace H : (if t383 = true then (if (t373 == x366000_11 && (t374 == x366001_11)) = true then (if (t379 == x366000_11 && (t380 == x366001_11)) = true then (if (t370.length : Int) = 0 then (some ((t376.length : Int) == 0)) else (some false)) else (some false)) else (some false)) else (some false)) = some r := H
                have A57 := Aside0.mk A570
                clear A570
                by_cases c58 : t383 = true
                · subst c58
                  have H1 : (if (t373 == x366000_11 && (t374 == x366001_11)) = true then (if (t379 == x366000_11 && (t380 == x366001_11)) = true then (if (t370.length : Int) = 0 then (some ((t376.length : Int) == 0)) else (some false)) else (some false)) else (some false)) = some r := by rw [if_pos rfl] at H; exact H
                  clear H
                  have H := H1
                  clear H1
                  by_cases c59 : (t373 == x366000_11 && (t374 == x366001_11)) = true
                  · rw [if_pos c59] at H
                    have c59b0 : (t373 == x366000_11 && (t374 == x366001_11)) = true := c59
                    (try (have c59b1 : decide (t373 = x366000_11 && (t374 == x366001_11)) = true := by simpa using c59))
                    (try (have c59b2 : (t373 == x366000_11 && (t374 == x366001_11)) = true := by simpa using c59))
                    clear c59
                    by_cases c60 : (t379 == x366000_11 && (t380 == x366001_11)) = true
                    · rw [if_pos c60] at H
                      have c60b0 : (t379 == x366000_11 && (t380 == x366001_11)) = true := c60
                      (try (have c60b1 : decide (t379 = x366000_11 && (t380 == x366001_11)) = true := by simpa using c60))
                      (try (have c60b2 : (t379 == x366000_11 && (t380 == x366001_11)) = true := by simpa using c60))
                      clear c60
                      by_cases c61 : (t370.length : Int) = 0
                      · rw [if_pos c61] at H
                        have c61b0 : ((t370.length : Int) == 0) = true := beq_iff_eq.mpr c61
                        have c61b1 : ((t370.length : Int) != 0) = false := bne_eq_false_iff_eq.mpr c61
                        clear c61
                        obtain rfl := Option.some.inj H
                        go_wp2_with (first | ((with_reducible refine gate_callee (f := 10) rfl ?_); refine goesL_ (some 48) rfl rfl Try.func10 (by kernel_rfl) rfl #[] rfl (by (try simp only [List.map_toArray, List.map_cons, List.map_nil]); first | done | rfl | (simp only [List.length_drop, List.length_take]; rfl)) ?_; (with_reducible refine (changeforgelaw6_graphs.calls kj20  true _ A57.out).mono ?_); rintro e w62 ⟨rfl, hb⟩; refine ⟨_, rfl, ?_⟩; have n0_ := Aside0.mk (Kd.R_below (by (with_reducible repeat (first | apply Kd.R_alloc | apply Kd.R_drewN | apply Kd.R_drew)); exact HO_4.out) hb); have n1_ := Aside0.mk (Kd.R_below (by (with_reducible repeat (first | apply Kd.R_alloc | apply Kd.R_drewN | apply Kd.R_drew)); exact HO_6.out) hb); have n2_ := Aside0.mk (blk_below (g := gb365) (o := .cells #[.int .i64 x366000_11, .int .i64 x366001_11] 25 (0, 0)) (by (with_reducible repeat (first | refine blk_drewN ?_ _ | refine blk_drew ?_ | refine blk_alloc ?_ _)); exact BK365.out) hb); have n3_ := Aside0.mk (blk_below (g := gb375) (o := .cells #[.int .i64 t373, .int .i64 t374] 25 (0, 0)) (by (with_reducible repeat (first | refine blk_drewN ?_ _ | refine blk_drew ?_ | refine blk_alloc ?_ _)); exact BK375.out) hb); have n4_ := Aside0.mk (blk_below (g := gb381) (o := .cells #[.int .i64 t379, .int .i64 t380] 25 (0, 0)) (by (with_reducible repeat (first | refine blk_drewN ?_ _ | refine blk_drew ?_ | refine blk_alloc ?_ _)); exact BK381.out) hb); have n5_ := Aside0.mk (below_step (by repeat (first | (with_reducible first | exact HB.out | apply below_alloc | apply pw_below_drewN | apply below_drew1 | refine below_set ?_ GE365.out | refine below_set ?_ GE375.out | refine below_set ?_ GE381.out) | exact HB.out)) hb); clear HO_4; clear HO_6; clear BK365; clear BK375; clear BK381; clear HB; have HO_4 := n0_; have HO_6 := n1_; have BK365 := n2_; have BK375 := n3_; have BK381 := n4_; have HB := n5_; clear n0_ n1_ n2_ n3_ n4_ n5_; (try clear hb); (try clear hb2); (try clear hk); (try clear hi); have hnb63 := NB375_365.out; have hnc63 := NB365_375.out; have hnb64 := NB375_381.out; have hnc64 := NB381_375.out; have hcz65_0 : w62.cell? ⟨gb375, 0, none⟩ = some (.int .i64 t373) := (blk_cell BK375.out 0).trans rfl; have hcz65_1 : w62.cell? ⟨gb375, 1, none⟩ = some (.int .i64 t374) := (blk_cell BK375.out 1).trans rfl; have hfz65_0 := blk_frozen BK375.out 0; have hfz65_1 := blk_frozen BK375.out 1; have hnb66 := NB365_381.out; have hnc66 := NB381_365.out; have hcz67_0 : w62.cell? ⟨gb365, 0, none⟩ = some (.int .i64 x366000_11) := (blk_cell BK365.out 0).trans rfl; have hcz67_1 : w62.cell? ⟨gb365, 1, none⟩ = some (.int .i64 x366001_11) := (blk_cell BK365.out 1).trans rfl; have hfz67_0 := blk_frozen BK365.out 0; have hfz67_1 := blk_frozen BK365.out 1; have hcz68_0 : w62.cell? ⟨gb381, 0, none⟩ = some (.int .i64 t379) := (blk_cell BK381.out 0).trans rfl; have hcz68_1 : w62.cell? ⟨gb381, 1, none⟩ = some (.int .i64 t380) := (blk_cell BK381.out 1).trans rfl; have hfz68_0 := blk_frozen BK381.out 0; have hfz68_1 := blk_frozen BK381.out 1; obtain ⟨Ao69, co69, eo69⟩ := Kd.R_slice HO_4.out; subst eo69; obtain ⟨Ao70, co70, eo70⟩ := Kd.R_slice HO_6.out; subst eo70))
                        go_ret
                        exact ⟨by first | rfl | (simp [errW_none, errW_some] <;> rfl) | (simp [*, errW_none, errW_some] <;> rfl), by repeat (first | (with_reducible first | exact HB.out | apply below_alloc | apply pw_below_drewN | apply below_drew1 | refine below_set ?_ GE365.out | refine below_set ?_ GE375.out | refine below_set ?_ GE381.out) | exact HB.out)⟩
                      · rw [if_neg c61] at H
                        have c61b0 : ((t370.length : Int) == 0) = false := beq_eq_false_iff_ne.mpr c61
                        have c61b1 : ((t370.length : Int) != 0) = true := bne_iff_ne.mpr c61
                        have c61b2 : ¬ (t370 = []) := fun h_ => c61 (by rw [h_]; rfl)
                        obtain rfl := Option.some.inj H
                        go_wp2_with (first | ((with_reducible refine gate_callee (f := 10) rfl ?_); refine goesL_ (some 48) rfl rfl Try.func10 (by kernel_rfl) rfl #[] rfl (by (try simp only [List.map_toArray, List.map_cons, List.map_nil]); first | done | rfl | (simp only [List.length_drop, List.length_take]; rfl)) ?_; (with_reducible refine (changeforgelaw6_graphs.calls kj20  true _ A57.out).mono ?_); rintro e w71 ⟨rfl, hb⟩; refine ⟨_, rfl, ?_⟩; have n0_ := Aside0.mk (Kd.R_below (by (with_reducible repeat (first | apply Kd.R_alloc | apply Kd.R_drewN | apply Kd.R_drew)); exact HO_4.out) hb); have n1_ := Aside0.mk (Kd.R_below (by (with_reducible repeat (first | apply Kd.R_alloc | apply Kd.R_drewN | apply Kd.R_drew)); exact HO_6.out) hb); have n2_ := Aside0.mk (blk_below (g := gb365) (o := .cells #[.int .i64 x366000_11, .int .i64 x366001_11] 25 (0, 0)) (by (with_reducible repeat (first | refine blk_drewN ?_ _ | refine blk_drew ?_ | refine blk_alloc ?_ _)); exact BK365.out) hb); have n3_ := Aside0.mk (blk_below (g := gb375) (o := .cells #[.int .i64 t373, .int .i64 t374] 25 (0, 0)) (by (with_reducible repeat (first | refine blk_drewN ?_ _ | refine blk_drew ?_ | refine blk_alloc ?_ _)); exact BK375.out) hb); have n4_ := Aside0.mk (blk_below (g := gb381) (o := .cells #[.int .i64 t379, .int .i64 t380] 25 (0, 0)) (by (with_reducible repeat (first | refine blk_drewN ?_ _ | refine blk_drew ?_ | refine blk_alloc ?_ _)); exact BK381.out) hb); have n5_ := Aside0.mk (below_step (by repeat (first | (with_reducible first | exact HB.out | apply below_alloc | apply pw_below_drewN | apply below_drew1 | refine below_set ?_ GE365.out | refine below_set ?_ GE375.out | refine below_set ?_ GE381.out) | exact HB.out)) hb); clear HO_4; clear HO_6; clear BK365; clear BK375; clear BK381; clear HB; have HO_4 := n0_; have HO_6 := n1_; have BK365 := n2_; have BK375 := n3_; have BK381 := n4_; have HB := n5_; clear n0_ n1_ n2_ n3_ n4_ n5_; (try clear hb); (try clear hb2); (try clear hk); (try clear hi); have hnb72 := NB375_365.out; have hnc72 := NB365_375.out; have hnb73 := NB375_381.out; have hnc73 := NB381_375.out; have hcz74_0 : w71.cell? ⟨gb375, 0, none⟩ = some (.int .i64 t373) := (blk_cell BK375.out 0).trans rfl; have hcz74_1 : w71.cell? ⟨gb375, 1, none⟩ = some (.int .i64 t374) := (blk_cell BK375.out 1).trans rfl; have hfz74_0 := blk_frozen BK375.out 0; have hfz74_1 := blk_frozen BK375.out 1; have hnb75 := NB365_381.out; have hnc75 := NB381_365.out; have hcz76_0 : w71.cell? ⟨gb365, 0, none⟩ = some (.int .i64 x366000_11) := (blk_cell BK365.out 0).trans rfl; have hcz76_1 : w71.cell? ⟨gb365, 1, none⟩ = some (.int .i64 x366001_11) := (blk_cell BK365.out 1).trans rfl; have hfz76_0 := blk_frozen BK365.out 0; have hfz76_1 := blk_frozen BK365.out 1; have hcz77_0 : w71.cell? ⟨gb381, 0, none⟩ = some (.int .i64 t379) := (blk_cell BK381.out 0).trans rfl; have hcz77_1 : w71.cell? ⟨gb381, 1, none⟩ = some (.int .i64 t380) := (blk_cell BK381.out 1).trans rfl; have hfz77_0 := blk_frozen BK381.out 0; have hfz77_1 := blk_frozen BK381.out 1; obtain ⟨Ao78, co78, eo78⟩ := Kd.R_slice HO_4.out; subst eo78))
                        go_ret
                        exact ⟨by first | rfl | (simp [errW_none, errW_some] <;> rfl) | (simp [*, errW_none, errW_some] <;> rfl), by repeat (first | (with_reducible first | exact HB.out | apply below_alloc | apply pw_below_drewN | apply below_drew1 | refine below_set ?_ GE365.out | refine below_set ?_ GE375.out | refine below_set ?_ GE381.out) | exact HB.out)⟩
                    · rw [if_neg c60] at H
                      have c60b0 : (t379 == x366000_11 && (t380 == x366001_11)) = false := by simpa using c60
                      (try (have c60b1 : decide (t379 = x366000_11 && (t380 == x366001_11)) = false := by simpa using c60))
                      (try (have c60b2 : (t379 == x366000_11 && (t380 == x366001_11)) = false := by simpa using c60))
                      (try (have c60b3 : ¬ (t379 = x366000_11 && (t380 == x366001_11)) := by simpa using c60))
                      clear c60
                      obtain rfl := Option.some.inj H
                      go_wp2_with (first | ((with_reducible refine gate_callee (f := 10) rfl ?_); refine goesL_ (some 48) rfl rfl Try.func10 (by kernel_rfl) rfl #[] rfl (by (try simp only [List.map_toArray, List.map_cons, List.map_nil]); first | done | rfl | (simp only [List.length_drop, List.length_take]; rfl)) ?_; (with_reducible refine (changeforgelaw6_graphs.calls kj20  true _ A57.out).mono ?_); rintro e w79 ⟨rfl, hb⟩; refine ⟨_, rfl, ?_⟩; have n0_ := Aside0.mk (Kd.R_below (by (with_reducible repeat (first | apply Kd.R_alloc | apply Kd.R_drewN | apply Kd.R_drew)); exact HO_4.out) hb); have n1_ := Aside0.mk (Kd.R_below (by (with_reducible repeat (first | apply Kd.R_alloc | apply Kd.R_drewN | apply Kd.R_drew)); exact HO_6.out) hb); have n2_ := Aside0.mk (blk_below (g := gb365) (o := .cells #[.int .i64 x366000_11, .int .i64 x366001_11] 25 (0, 0)) (by (with_reducible repeat (first | refine blk_drewN ?_ _ | refine blk_drew ?_ | refine blk_alloc ?_ _)); exact BK365.out) hb); have n3_ := Aside0.mk (blk_below (g := gb375) (o := .cells #[.int .i64 t373, .int .i64 t374] 25 (0, 0)) (by (with_reducible repeat (first | refine blk_drewN ?_ _ | refine blk_drew ?_ | refine blk_alloc ?_ _)); exact BK375.out) hb); have n4_ := Aside0.mk (blk_below (g := gb381) (o := .cells #[.int .i64 t379, .int .i64 t380] 25 (0, 0)) (by (with_reducible repeat (first | refine blk_drewN ?_ _ | refine blk_drew ?_ | refine blk_alloc ?_ _)); exact BK381.out) hb); have n5_ := Aside0.mk (below_step (by repeat (first | (with_reducible first | exact HB.out | apply below_alloc | apply pw_below_drewN | apply below_drew1 | refine below_set ?_ GE365.out | refine below_set ?_ GE375.out | refine below_set ?_ GE381.out) | exact HB.out)) hb); clear HO_4; clear HO_6; clear BK365; clear BK375; clear BK381; clear HB; have HO_4 := n0_; have HO_6 := n1_; have BK365 := n2_; have BK375 := n3_; have BK381 := n4_; have HB := n5_; clear n0_ n1_ n2_ n3_ n4_ n5_; (try clear hb); (try clear hb2); (try clear hk); (try clear hi); have hnb80 := NB375_365.out; have hnc80 := NB365_375.out; have hnb81 := NB375_381.out; have hnc81 := NB381_375.out; have hcz82_0 : w79.cell? ⟨gb375, 0, none⟩ = some (.int .i64 t373) := (blk_cell BK375.out 0).trans rfl; have hcz82_1 : w79.cell? ⟨gb375, 1, none⟩ = some (.int .i64 t374) := (blk_cell BK375.out 1).trans rfl; have hfz82_0 := blk_frozen BK375.out 0; have hfz82_1 := blk_frozen BK375.out 1; have hnb83 := NB365_381.out; have hnc83 := NB381_365.out; have hcz84_0 : w79.cell? ⟨gb365, 0, none⟩ = some (.int .i64 x366000_11) := (blk_cell BK365.out 0).trans rfl; have hcz84_1 : w79.cell? ⟨gb365, 1, none⟩ = some (.int .i64 x366001_11) := (blk_cell BK365.out 1).trans rfl; have hfz84_0 := blk_frozen BK365.out 0; have hfz84_1 := blk_frozen BK365.out 1; have hcz85_0 : w79.cell? ⟨gb381, 0, none⟩ = some (.int .i64 t379) := (blk_cell BK381.out 0).trans rfl; have hcz85_1 : w79.cell? ⟨gb381, 1, none⟩ = some (.int .i64 t380) := (blk_cell BK381.out 1).trans rfl; have hfz85_0 := blk_frozen BK381.out 0; have hfz85_1 := blk_frozen BK381.out 1))
                      go_ret
                      exact ⟨by first | rfl | (simp [errW_none, errW_some] <;> rfl) | (simp [*, errW_none, errW_some] <;> rfl), by repeat (first | (with_reducible first | exact HB.out | apply below_alloc | apply pw_below_drewN | apply below_drew1 | refine below_set ?_ GE365.out | refine below_set ?_ GE375.out | refine below_set ?_ GE381.out) | exact HB.out)⟩
                  · rw [if_neg c59] at H
                    have c59b0 : (t373 == x366000_11 && (t374 == x366001_11)) = false := by simpa using c59
                    (try (have c59b1 : decide (t373 = x366000_11 && (t374 == x366001_11)) = false := by simpa using c59))
                    (try (have c59b2 : (t373 == x366000_11 && (t374 == x366001_11)) = false := by simpa using c59))
                    (try (have c59b3 : ¬ (t373 = x366000_11 && (t374 == x366001_11)) := by simpa using c59))
                    clear c59
                    obtain rfl := Option.some.inj H
                    go_wp2_with (first | ((with_reducible refine gate_callee (f := 10) rfl ?_); refine goesL_ (some 48) rfl rfl Try.func10 (by kernel_rfl) rfl #[] rfl (by (try simp only [List.map_toArray, List.map_cons, List.map_nil]); first | done | rfl | (simp only [List.length_drop, List.length_take]; rfl)) ?_; (with_reducible refine (changeforgelaw6_graphs.calls kj20  true _ A57.out).mono ?_); rintro e w86 ⟨rfl, hb⟩; refine ⟨_, rfl, ?_⟩; have n0_ := Aside0.mk (Kd.R_below (by (with_reducible repeat (first | apply Kd.R_alloc | apply Kd.R_drewN | apply Kd.R_drew)); exact HO_4.out) hb); have n1_ := Aside0.mk (Kd.R_below (by (with_reducible repeat (first | apply Kd.R_alloc | apply Kd.R_drewN | apply Kd.R_drew)); exact HO_6.out) hb); have n2_ := Aside0.mk (blk_below (g := gb365) (o := .cells #[.int .i64 x366000_11, .int .i64 x366001_11] 25 (0, 0)) (by (with_reducible repeat (first | refine blk_drewN ?_ _ | refine blk_drew ?_ | refine blk_alloc ?_ _)); exact BK365.out) hb); have n3_ := Aside0.mk (blk_below (g := gb375) (o := .cells #[.int .i64 t373, .int .i64 t374] 25 (0, 0)) (by (with_reducible repeat (first | refine blk_drewN ?_ _ | refine blk_drew ?_ | refine blk_alloc ?_ _)); exact BK375.out) hb); have n4_ := Aside0.mk (blk_below (g := gb381) (o := .cells #[.int .i64 t379, .int .i64 t380] 25 (0, 0)) (by (with_reducible repeat (first | refine blk_drewN ?_ _ | refine blk_drew ?_ | refine blk_alloc ?_ _)); exact BK381.out) hb); have n5_ := Aside0.mk (below_step (by repeat (first | (with_reducible first | exact HB.out | apply below_alloc | apply pw_below_drewN | apply below_drew1 | refine below_set ?_ GE365.out | refine below_set ?_ GE375.out | refine below_set ?_ GE381.out) | exact HB.out)) hb); clear HO_4; clear HO_6; clear BK365; clear BK375; clear BK381; clear HB; have HO_4 := n0_; have HO_6 := n1_; have BK365 := n2_; have BK375 := n3_; have BK381 := n4_; have HB := n5_; clear n0_ n1_ n2_ n3_ n4_ n5_; (try clear hb); (try clear hb2); (try clear hk); (try clear hi); have hnb87 := NB375_365.out; have hnc87 := NB365_375.out; have hnb88 := NB375_381.out; have hnc88 := NB381_375.out; have hcz89_0 : w86.cell? ⟨gb375, 0, none⟩ = some (.int .i64 t373) := (blk_cell BK375.out 0).trans rfl; have hcz89_1 : w86.cell? ⟨gb375, 1, none⟩ = some (.int .i64 t374) := (blk_cell BK375.out 1).trans rfl; have hfz89_0 := blk_frozen BK375.out 0; have hfz89_1 := blk_frozen BK375.out 1; have hnb90 := NB365_381.out; have hnc90 := NB381_365.out; have hcz91_0 : w86.cell? ⟨gb365, 0, none⟩ = some (.int .i64 x366000_11) := (blk_cell BK365.out 0).trans rfl; have hcz91_1 : w86.cell? ⟨gb365, 1, none⟩ = some (.int .i64 x366001_11) := (blk_cell BK365.out 1).trans rfl; have hfz91_0 := blk_frozen BK365.out 0; have hfz91_1 := blk_frozen BK365.out 1))
                    go_ret
                    exact ⟨by first | rfl | (simp [errW_none, errW_some] <;> rfl) | (simp [*, errW_none, errW_some] <;> rfl), by repeat (first | (with_reducible first | exact HB.out | apply below_alloc | apply pw_below_drewN | apply below_drew1 | refine below_set ?_ GE365.out | refine below_set ?_ GE375.out | refine below_set ?_ GE381.out) | exact HB.out)⟩
                · replace c58 := Bool.eq_false_iff.mpr c58
                  subst c58
                  have H1 : (some false) = some r := by rw [if_neg (show ¬ (false = true) by decide)] at H; exact H
                  clear H
                  have H := H1
                  clear H1
                  obtain rfl := Option.some.inj H
                  go_wp2_with (first | ((with_reducible refine gate_callee (f := 10) rfl ?_); refine goesL_ (some 48) rfl rfl Try.func10 (by kernel_rfl) rfl #[] rfl (by (try simp only [List.map_toArray, List.map_cons, List.map_nil]); first | done | rfl | (simp only [List.length_drop, List.length_take]; rfl)) ?_; (with_reducible refine (changeforgelaw6_graphs.calls kj20  false _ A57.out).mono ?_); rintro e w92 ⟨rfl, hb⟩; refine ⟨_, rfl, ?_⟩; have n0_ := Aside0.mk (Kd.R_below (by (with_reducible repeat (first | apply Kd.R_alloc | apply Kd.R_drewN | apply Kd.R_drew)); exact HO_4.out) hb); have n1_ := Aside0.mk (Kd.R_below (by (with_reducible repeat (first | apply Kd.R_alloc | apply Kd.R_drewN | apply Kd.R_drew)); exact HO_6.out) hb); have n2_ := Aside0.mk (blk_below (g := gb365) (o := .cells #[.int .i64 x366000_11, .int .i64 x366001_11] 25 (0, 0)) (by (with_reducible repeat (first | refine blk_drewN ?_ _ | refine blk_drew ?_ | refine blk_alloc ?_ _)); exact BK365.out) hb); have n3_ := Aside0.mk (blk_below (g := gb375) (o := .cells #[.int .i64 t373, .int .i64 t374] 25 (0, 0)) (by (with_reducible repeat (first | refine blk_drewN ?_ _ | refine blk_drew ?_ | refine blk_alloc ?_ _)); exact BK375.out) hb); have n4_ := Aside0.mk (blk_below (g := gb381) (o := .cells #[.int .i64 t379, .int .i64 t380] 25 (0, 0)) (by (with_reducible repeat (first | refine blk_drewN ?_ _ | refine blk_drew ?_ | refine blk_alloc ?_ _)); exact BK381.out) hb); have n5_ := Aside0.mk (below_step (by repeat (first | (with_reducible first | exact HB.out | apply below_alloc | apply pw_below_drewN | apply below_drew1 | refine below_set ?_ GE365.out | refine below_set ?_ GE375.out | refine below_set ?_ GE381.out) | exact HB.out)) hb); clear HO_4; clear HO_6; clear BK365; clear BK375; clear BK381; clear HB; have HO_4 := n0_; have HO_6 := n1_; have BK365 := n2_; have BK375 := n3_; have BK381 := n4_; have HB := n5_; clear n0_ n1_ n2_ n3_ n4_ n5_; (try clear hb); (try clear hb2); (try clear hk); (try clear hi)))
                  go_ret
                  exact ⟨by first | rfl | (simp [errW_none, errW_some] <;> rfl) | (simp [*, errW_none, errW_some] <;> rfl), by repeat (first | (with_reducible first | exact HB.out | apply below_alloc | apply pw_below_drewN | apply below_drew1 | refine below_set ?_ GE365.out | refine below_set ?_ GE375.out | refine below_set ?_ GE381.out) | exact HB.out)⟩
              · replace c56 := Bool.eq_false_iff.mpr c56
                subst c56
                have H1 : ((changeforgeref6_Topological.f kj20 l0).bind fun t384 => ((changeforgeref5_Ints.f kj20 t370 t384).bind fun t387 => (if t387 = true then ((changeforgeref6_Levels.f kj20 l0).bind fun t388 => ((changeforgeref5_Ints.f kj20 t376 t388).bind fun t391 => (some t391))) else (some false)))) = some r := by rw [if_neg (show ¬ (false = true) by decide)] at H; exact H
                clear H
                have H := H1
                clear H1
                replace H := Option.bind_eq_some_iff.mp H
                obtain ⟨t384, A930, H⟩ := H
                replace H : ((changeforgeref5_Ints.f kj20 t370 t384).bind fun t387 => (if t387 = true then ((changeforgeref6_Levels.f kj20 l0).bind fun t388 => ((changeforgeref5_Ints.f kj20 t376 t388).bind fun t391 => (some t391))) else (some false))) = some r := H
                have A93 := Aside0.mk A930
                clear A930
                replace H := Option.bind_eq_some_iff.mp H
                obtain ⟨t387, A940, H⟩ := H
                replace H : (if t387 = true then ((changeforgeref6_Levels.f kj20 l0).bind fun t388 => ((changeforgeref5_Ints.f kj20 t376 t388).bind fun t391 => (some t391))) else (some false)) = some r := H
                have A94 := Aside0.mk A940
                clear A940
                by_cases c95 : t387 = true
                · subst c95
                  have H1 : ((changeforgeref6_Levels.f kj20 l0).bind fun t388 => ((changeforgeref5_Ints.f kj20 t376 t388).bind fun t391 => (some t391))) = some r := by rw [if_pos rfl] at H; exact H
                  clear H
                  have H := H1
                  clear H1
                  replace H := Option.bind_eq_some_iff.mp H
                  obtain ⟨t388, A960, H⟩ := H
                  replace H : ((changeforgeref5_Ints.f kj20 t376 t388).bind fun t391 => (some t391)) = some r := H
                  have A96 := Aside0.mk A960
                  clear A960
                  replace H := Option.bind_eq_some_iff.mp H
                  obtain ⟨t391, A970, H⟩ := H
                  replace H : (some t391) = some r := H
                  have A97 := Aside0.mk A970
                  clear A970
                  obtain rfl := Option.some.inj H
                  go_wp2_with (first | ((with_reducible refine gate_callee (f := 22) rfl ?_); refine goesL_ (some 71) rfl rfl Try.func22 (by kernel_rfl) rfl #[.slice A0 l0.length c0] rfl (by (try simp only [List.map_toArray, List.map_cons, List.map_nil]); first | done | rfl | (simp only [List.length_drop, List.length_take]; rfl)) ?_; (with_reducible refine (changeforgeref6_Topological.calls kj20 _ _ l0 t384 _ ?side1 ?side2 A93.out).mono ?_); (case side1 => repeat (first | exact (Kd.C_below HR0.out HB.out) | (with_reducible refine Kd.C_alloc ?_ _) | (with_reducible refine Kd.C_drewN ?_ _) | (with_reducible refine Kd.C_drew ?_))); (case side2 => exact HC0.out); rintro e w98 ⟨v385, rfl, ho0, hb⟩; refine ⟨_, rfl, ?_⟩; have n0_ := Aside0.mk (Kd.R_elder' (by (with_reducible repeat (first | apply Kd.R_alloc | apply Kd.R_drewN | apply Kd.R_drew)); exact HO_4.out) (Kd.R_base ho0) hb); have n1_ := Aside0.mk (Kd.R_elder' (by (with_reducible repeat (first | apply Kd.R_alloc | apply Kd.R_drewN | apply Kd.R_drew)); exact HO_6.out) (Kd.R_base ho0) hb); have n2_ := Aside0.mk (Kd.R_lower (Kd.R_new' (Kd.R_new' ho0 (Kd.R_lt (by (with_reducible repeat (first | apply Kd.R_alloc | apply Kd.R_drewN | apply Kd.R_drew)); exact HO_4.out))) (Kd.R_lt (by (with_reducible repeat (first | apply Kd.R_alloc | apply Kd.R_drewN | apply Kd.R_drew)); exact HO_6.out))) (below_size (by repeat (first | (with_reducible first | exact HB.out | apply below_alloc | apply pw_below_drewN | apply below_drew1 | refine below_set ?_ GE365.out | refine below_set ?_ GE375.out | refine below_set ?_ GE381.out) | exact HB.out)))); have n3_ := Aside0.mk (blk_below (g := gb365) (o := .cells #[.int .i64 x366000_11, .int .i64 x366001_11] 25 (0, 0)) (by (with_reducible repeat (first | refine blk_drewN ?_ _ | refine blk_drew ?_ | refine blk_alloc ?_ _)); exact BK365.out) hb); have n4_ := Aside0.mk (blk_below (g := gb375) (o := .cells #[.int .i64 t373, .int .i64 t374] 25 (0, 0)) (by (with_reducible repeat (first | refine blk_drewN ?_ _ | refine blk_drew ?_ | refine blk_alloc ?_ _)); exact BK375.out) hb); have n5_ := Aside0.mk (blk_below (g := gb381) (o := .cells #[.int .i64 t379, .int .i64 t380] 25 (0, 0)) (by (with_reducible repeat (first | refine blk_drewN ?_ _ | refine blk_drew ?_ | refine blk_alloc ?_ _)); exact BK381.out) hb); have n6_ := Aside0.mk (below_step (by repeat (first | (with_reducible first | exact HB.out | apply below_alloc | apply pw_below_drewN | apply below_drew1 | refine below_set ?_ GE365.out | refine below_set ?_ GE375.out | refine below_set ?_ GE381.out) | exact HB.out)) hb); clear HO_4; clear HO_6; clear BK365; clear BK375; clear BK381; clear HB; have HO_4 := n0_; have HO_6 := n1_; have HO386 := n2_; have BK365 := n3_; have BK375 := n4_; have BK381 := n5_; have HB := n6_; clear n0_ n1_ n2_ n3_ n4_ n5_ n6_; (try clear hb); (try clear hb2); (try clear hk); (try clear hi); (try clear ho0); obtain ⟨Ao99, co99, eo99⟩ := Kd.R_slice HO_4.out; subst eo99; obtain ⟨Ao100, co100, eo100⟩ := Kd.R_slice HO386.out; subst eo100) | ((with_reducible refine gate_callee (f := 14) rfl ?_); refine goesL_ (some 72) rfl rfl Try.func14 (by kernel_rfl) rfl #[.slice Ao99 t370.length co99, .slice Ao100 t384.length co100] rfl (by (try simp only [List.map_toArray, List.map_cons, List.map_nil]); first | done | rfl | (simp only [List.length_drop, List.length_take]; rfl)) ?_; (with_reducible refine (changeforgeref5_Ints.calls kj20 _ _ t370 _ _ t384 true _ ?side1 ?side2 ?side3 ?side4 A94.out).mono ?_); (case side1 => repeat (first | exact (Kd.R_reads' HO_4.out).2.2 | (with_reducible refine Kd.C_alloc ?_ _) | (with_reducible refine Kd.C_drewN ?_ _) | (with_reducible refine Kd.C_drew ?_))); (case side2 => exact (Kd.R_reads' HO_4.out).2.1); (case side3 => repeat (first | exact (Kd.R_reads' HO386.out).2.2 | (with_reducible refine Kd.C_alloc ?_ _) | (with_reducible refine Kd.C_drewN ?_ _) | (with_reducible refine Kd.C_drew ?_))); (case side4 => exact (Kd.R_reads' HO386.out).2.1); rintro e w' ⟨rfl, ⟨nd, rfl⟩⟩; refine ⟨_, rfl, ?_⟩) | (go_at_call 23; (with_reducible refine (changeforgeref6_Levels.calls kj20 _ _ l0 t388 _ ?side1 ?side2 A96.out).mono ?_); (case side1 => repeat (first | exact (Kd.C_below HR0.out (by repeat (first | (with_reducible first | exact HB.out | apply below_alloc | apply pw_below_drewN | apply below_drew1 | refine below_set ?_ GE365.out | refine below_set ?_ GE375.out | refine below_set ?_ GE381.out) | exact HB.out))) | (with_reducible refine Kd.C_alloc ?_ _) | (with_reducible refine Kd.C_drewN ?_ _) | (with_reducible refine Kd.C_drew ?_))); (case side2 => exact HC0.out); rintro e w101 ⟨v389, rfl, ho0, hb⟩; have n0_ := Aside0.mk (Kd.R_elder' (by (with_reducible repeat (first | apply Kd.R_alloc | apply Kd.R_drewN | apply Kd.R_drew)); exact HO_4.out) (Kd.R_base ho0) hb); have n1_ := Aside0.mk (Kd.R_elder' (by (with_reducible repeat (first | apply Kd.R_alloc | apply Kd.R_drewN | apply Kd.R_drew)); exact HO_6.out) (Kd.R_base ho0) hb); have n2_ := Aside0.mk (Kd.R_elder' (by (with_reducible repeat (first | apply Kd.R_alloc | apply Kd.R_drewN | apply Kd.R_drew)); exact HO386.out) (Kd.R_base ho0) hb); have n3_ := Aside0.mk (Kd.R_lower (Kd.R_new' (Kd.R_new' (Kd.R_new' ho0 (Kd.R_lt (by (with_reducible repeat (first | apply Kd.R_alloc | apply Kd.R_drewN | apply Kd.R_drew)); exact HO_4.out))) (Kd.R_lt (by (with_reducible repeat (first | apply Kd.R_alloc | apply Kd.R_drewN | apply Kd.R_drew)); exact HO_6.out))) (Kd.R_lt (by (with_reducible repeat (first | apply Kd.R_alloc | apply Kd.R_drewN | apply Kd.R_drew)); exact HO386.out))) (below_size (by repeat (first | (with_reducible first | exact HB.out | apply below_alloc | apply pw_below_drewN | apply below_drew1 | refine below_set ?_ GE365.out | refine below_set ?_ GE375.out | refine below_set ?_ GE381.out) | exact HB.out)))); have n4_ := Aside0.mk (blk_below (g := gb365) (o := .cells #[.int .i64 x366000_11, .int .i64 x366001_11] 25 (0, 0)) (by (with_reducible repeat (first | refine blk_drewN ?_ _ | refine blk_drew ?_ | refine blk_alloc ?_ _)); exact BK365.out) hb); have n5_ := Aside0.mk (blk_below (g := gb375) (o := .cells #[.int .i64 t373, .int .i64 t374] 25 (0, 0)) (by (with_reducible repeat (first | refine blk_drewN ?_ _ | refine blk_drew ?_ | refine blk_alloc ?_ _)); exact BK375.out) hb); have n6_ := Aside0.mk (blk_below (g := gb381) (o := .cells #[.int .i64 t379, .int .i64 t380] 25 (0, 0)) (by (with_reducible repeat (first | refine blk_drewN ?_ _ | refine blk_drew ?_ | refine blk_alloc ?_ _)); exact BK381.out) hb); have n7_ := Aside0.mk (below_step (by repeat (first | (with_reducible first | exact HB.out | apply below_alloc | apply pw_below_drewN | apply below_drew1 | refine below_set ?_ GE365.out | refine below_set ?_ GE375.out | refine below_set ?_ GE381.out) | exact HB.out)) hb); clear HO_4; clear HO_6; clear HO386; clear BK365; clear BK375; clear BK381; clear HB; have HO_4 := n0_; have HO_6 := n1_; have HO386 := n2_; have HO390 := n3_; have BK365 := n4_; have BK375 := n5_; have BK381 := n6_; have HB := n7_; clear n0_ n1_ n2_ n3_ n4_ n5_ n6_ n7_; (try clear hb); (try clear hb2); (try clear hk); (try clear hi); (try clear ho0); obtain ⟨Ao102, co102, eo102⟩ := Kd.R_slice HO_6.out; subst eo102; obtain ⟨Ao103, co103, eo103⟩ := Kd.R_slice HO390.out; subst eo103) | (go_at_call 14; (with_reducible refine (changeforgeref5_Ints.calls kj20 _ _ t376 _ _ t388 t391 _ ?side1 ?side2 ?side3 ?side4 A97.out).mono ?_); (case side1 => repeat (first | exact (Kd.R_reads' HO_6.out).2.2 | (with_reducible refine Kd.C_alloc ?_ _) | (with_reducible refine Kd.C_drewN ?_ _) | (with_reducible refine Kd.C_drew ?_))); (case side2 => exact (Kd.R_reads' HO_6.out).2.1); (case side3 => repeat (first | exact (Kd.R_reads' HO390.out).2.2 | (with_reducible refine Kd.C_alloc ?_ _) | (with_reducible refine Kd.C_drewN ?_ _) | (with_reducible refine Kd.C_drew ?_))); (case side4 => exact (Kd.R_reads' HO390.out).2.1); rintro e w' ⟨rfl, ⟨nd, rfl⟩⟩))
                  go_ret
                  exact ⟨by first | rfl | (simp [errW_none, errW_some] <;> rfl) | (simp [*, errW_none, errW_some] <;> rfl), by repeat (first | (with_reducible first | exact HB.out | apply below_alloc | apply pw_below_drewN | apply below_drew1 | refine below_set ?_ GE365.out | refine below_set ?_ GE375.out | refine below_set ?_ GE381.out) | exact HB.out)⟩
                · replace c95 := Bool.eq_false_iff.mpr c95
                  subst c95
                  have H1 : (some false) = some r := by rw [if_neg (show ¬ (false = true) by decide)] at H; exact H
                  clear H
                  have H := H1
                  clear H1
                  obtain rfl := Option.some.inj H
                  go_wp2_with (first | ((with_reducible refine gate_callee (f := 22) rfl ?_); refine goesL_ (some 71) rfl rfl Try.func22 (by kernel_rfl) rfl #[.slice A0 l0.length c0] rfl (by (try simp only [List.map_toArray, List.map_cons, List.map_nil]); first | done | rfl | (simp only [List.length_drop, List.length_take]; rfl)) ?_; (with_reducible refine (changeforgeref6_Topological.calls kj20 _ _ l0 t384 _ ?side1 ?side2 A93.out).mono ?_); (case side1 => repeat (first | exact (Kd.C_below HR0.out HB.out) | (with_reducible refine Kd.C_alloc ?_ _) | (with_reducible refine Kd.C_drewN ?_ _) | (with_reducible refine Kd.C_drew ?_))); (case side2 => exact HC0.out); rintro e w104 ⟨v385, rfl, ho0, hb⟩; refine ⟨_, rfl, ?_⟩; have n0_ := Aside0.mk (Kd.R_elder' (by (with_reducible repeat (first | apply Kd.R_alloc | apply Kd.R_drewN | apply Kd.R_drew)); exact HO_4.out) (Kd.R_base ho0) hb); have n1_ := Aside0.mk (Kd.R_elder' (by (with_reducible repeat (first | apply Kd.R_alloc | apply Kd.R_drewN | apply Kd.R_drew)); exact HO_6.out) (Kd.R_base ho0) hb); have n2_ := Aside0.mk (Kd.R_lower (Kd.R_new' (Kd.R_new' ho0 (Kd.R_lt (by (with_reducible repeat (first | apply Kd.R_alloc | apply Kd.R_drewN | apply Kd.R_drew)); exact HO_4.out))) (Kd.R_lt (by (with_reducible repeat (first | apply Kd.R_alloc | apply Kd.R_drewN | apply Kd.R_drew)); exact HO_6.out))) (below_size (by repeat (first | (with_reducible first | exact HB.out | apply below_alloc | apply pw_below_drewN | apply below_drew1 | refine below_set ?_ GE365.out | refine below_set ?_ GE375.out | refine below_set ?_ GE381.out) | exact HB.out)))); have n3_ := Aside0.mk (blk_below (g := gb365) (o := .cells #[.int .i64 x366000_11, .int .i64 x366001_11] 25 (0, 0)) (by (with_reducible repeat (first | refine blk_drewN ?_ _ | refine blk_drew ?_ | refine blk_alloc ?_ _)); exact BK365.out) hb); have n4_ := Aside0.mk (blk_below (g := gb375) (o := .cells #[.int .i64 t373, .int .i64 t374] 25 (0, 0)) (by (with_reducible repeat (first | refine blk_drewN ?_ _ | refine blk_drew ?_ | refine blk_alloc ?_ _)); exact BK375.out) hb); have n5_ := Aside0.mk (blk_below (g := gb381) (o := .cells #[.int .i64 t379, .int .i64 t380] 25 (0, 0)) (by (with_reducible repeat (first | refine blk_drewN ?_ _ | refine blk_drew ?_ | refine blk_alloc ?_ _)); exact BK381.out) hb); have n6_ := Aside0.mk (below_step (by repeat (first | (with_reducible first | exact HB.out | apply below_alloc | apply pw_below_drewN | apply below_drew1 | refine below_set ?_ GE365.out | refine below_set ?_ GE375.out | refine below_set ?_ GE381.out) | exact HB.out)) hb); clear HO_4; clear HO_6; clear BK365; clear BK375; clear BK381; clear HB; have HO_4 := n0_; have HO_6 := n1_; have HO386 := n2_; have BK365 := n3_; have BK375 := n4_; have BK381 := n5_; have HB := n6_; clear n0_ n1_ n2_ n3_ n4_ n5_ n6_; (try clear hb); (try clear hb2); (try clear hk); (try clear hi); (try clear ho0); obtain ⟨Ao105, co105, eo105⟩ := Kd.R_slice HO_4.out; subst eo105; obtain ⟨Ao106, co106, eo106⟩ := Kd.R_slice HO386.out; subst eo106) | ((with_reducible refine gate_callee (f := 14) rfl ?_); refine goesL_ (some 72) rfl rfl Try.func14 (by kernel_rfl) rfl #[.slice Ao105 t370.length co105, .slice Ao106 t384.length co106] rfl (by (try simp only [List.map_toArray, List.map_cons, List.map_nil]); first | done | rfl | (simp only [List.length_drop, List.length_take]; rfl)) ?_; (with_reducible refine (changeforgeref5_Ints.calls kj20 _ _ t370 _ _ t384 false _ ?side1 ?side2 ?side3 ?side4 A94.out).mono ?_); (case side1 => repeat (first | exact (Kd.R_reads' HO_4.out).2.2 | (with_reducible refine Kd.C_alloc ?_ _) | (with_reducible refine Kd.C_drewN ?_ _) | (with_reducible refine Kd.C_drew ?_))); (case side2 => exact (Kd.R_reads' HO_4.out).2.1); (case side3 => repeat (first | exact (Kd.R_reads' HO386.out).2.2 | (with_reducible refine Kd.C_alloc ?_ _) | (with_reducible refine Kd.C_drewN ?_ _) | (with_reducible refine Kd.C_drew ?_))); (case side4 => exact (Kd.R_reads' HO386.out).2.1); rintro e w' ⟨rfl, ⟨nd, rfl⟩⟩; refine ⟨_, rfl, ?_⟩))
                  go_ret
                  exact ⟨by first | rfl | (simp [errW_none, errW_some] <;> rfl) | (simp [*, errW_none, errW_some] <;> rfl), by repeat (first | (with_reducible first | exact HB.out | apply below_alloc | apply pw_below_drewN | apply below_drew1 | refine below_set ?_ GE365.out | refine below_set ?_ GE375.out | refine below_set ?_ GE381.out) | exact HB.out)⟩

def changeforgelaw6_position.l0 : Nat → List Int → Int → Int → Option (Int)
  | 0, _, _, _ => none
  | k + 1, x0, x1, x5 => if x5 < (x0.length : Int) then (if 0 ≤ x5 then (if (rd x0 x5) = x1 then (some x5) else (changeforgelaw6_position.l0 k x0 x1 (wrap64 (x5 + 1)))) else (none)) else (some (-1))
def changeforgelaw6_position.f (k : Nat) (l0 : List Int) (a1 : Int) : Option (Int) := changeforgelaw6_position.l0 k l0 a1 0
theorem changeforgelaw6_position.mono_l : ∀ k, (∀ y0 y1 y2, LeO (changeforgelaw6_position.l0 k y0 y1 y2) (changeforgelaw6_position.l0 (k + 1) y0 y1 y2))
  | 0 => fun _ _ _ r h => by simp [changeforgelaw6_position.l0] at h
  | k + 1 => by
    have ih0 := changeforgelaw6_position.mono_l k
    · intro y0 y1 y2
      unfold changeforgelaw6_position.l0
      repeat' first
      | (with_reducible exact ih0 _ _ _)
      | (with_reducible exact LeO.refl _)
      | (with_reducible exact LeO.none _)
      | (with_reducible refine LeO.ite ?_ ?_)
      | (with_reducible refine LeO.bind ?_ (fun _ => ?_))
      | exact ih0 _ _ _
      | exact LeO.none _
      | refine LeO.ite ?_ ?_
      | refine LeO.bind ?_ (fun _ => ?_)
theorem changeforgelaw6_position.mono : ∀ a0 a1 k, LeO (changeforgelaw6_position.f k a0 a1) (changeforgelaw6_position.f (k + 1) a0 a1) := by
  intro a0 a1 k
  have ih0 := changeforgelaw6_position.mono_l k
  unfold changeforgelaw6_position.f
  repeat' first
      | (with_reducible exact ih0 _ _ _)
      | (with_reducible exact LeO.refl _)
      | (with_reducible exact LeO.none _)
      | (with_reducible refine LeO.ite ?_ ?_)
      | (with_reducible refine LeO.bind ?_ (fun _ => ?_))
      | exact ih0 _ _ _
      | exact LeO.none _
      | refine LeO.ite ?_ ?_
      | refine LeO.bind ?_ (fun _ => ?_)
def changeforgelaw6_in.f (a0 : Int) (a1 : Int) (a2 : Int) : Option (Bool) := if a0 ≥ a1 then (some (decide (a0 ≤ a2))) else (some false)
end Go.Proofs.Ytffcaglfcnmhdaa.H
end
