/- Texts that the law WorkersResultsHaveAQuorum comes to, printed and by hand, what is not used left out. -/
import Derived.Test.YtepflpmngegdiaaCWorkersResultsHaveAQuorum6
section
namespace Go.Proofs.Ytepflpmngegdiaa.H
open Go.RowKit Go.Proofs.YtepflpmngegdiaaW.PrintWords Go.Proofs.YtepflpmngegdiaaW.PrintLast Go.Proofs.YtepflpmngegdiaaW.PrintMore
set_option linter.unusedVariables false
set_option linter.unusedSimpArgs false

mutual
def changeforgelaw6_WorkersResultsHaveAQuorum.j0 : Nat → Int → Int → List Int → List Int → Bool → Int → Int → Int → Int → Option (Bool)
  | 0, _, _, _, _, _, _, _, _, _ => none
  | k + 1, x2, x4, x11, x13, x47, x363000, x363001, x369000, x369001 => if x47 = true then ((changeforgelaw6_farms.f k).bind fun t370 => (if t370 = true then (if x363000 = 0 then (if x369000 = 0 then (some true) else (some ((x13.length : Int) == 0))) else (if (x11.length : Int) = 0 then (if x369000 = 0 then (some true) else (some ((x13.length : Int) == 0))) else (some false))) else (some false))) else ((changeforgelaw6_in.f x4 0 (wrap64 ((x11.length : Int) - 1))).bind fun t371 => (if t371 = true then (changeforgelaw6_WorkersResultsHaveAQuorum.l0 k x2 x4 x11 x13 false 0) else (some false)))
def changeforgelaw6_WorkersResultsHaveAQuorum.l0 : Nat → Int → Int → List Int → List Int → Bool → Int → Option (Bool)
  | 0, _, _, _, _, _, _ => none
  | k + 1, x2, x4, x11, x13, x15, x16 => if x16 < (x13.length : Int) then (changeforgelaw6_WorkersResultsHaveAQuorum.l1 k x2 x4 x11 x13 x15 x16 0 0) else (if 0 ≤ x4 then (if x4 < (x11.length : Int) then (if (x15 == (decide ((rd x11 x4) ≥ 0))) = true then (if (rd x11 x4) < 0 then (some true) else ((changeforgeref5_Has.f k x13 (rd x11 x4)).bind fun t375 => (some t375))) else (some false)) else (none)) else (none))
def changeforgelaw6_WorkersResultsHaveAQuorum.l1 : Nat → Int → Int → List Int → List Int → Bool → Int → Int → Int → Option (Bool)
  | 0, _, _, _, _, _, _, _, _ => none
  | k + 1, x2, x4, x11, x13, x15, x16, x17, x18 => if x18 < (x13.length : Int) then (if 0 ≤ x18 then (if 0 ≤ x16 then (if x16 < (x13.length : Int) then (if (rd x13 x18) = (rd x13 x16) then (changeforgelaw6_WorkersResultsHaveAQuorum.l1 k x2 x4 x11 x13 x15 x16 (wrap64 (x17 + 1)) (wrap64 (x18 + 1))) else (changeforgelaw6_WorkersResultsHaveAQuorum.l1 k x2 x4 x11 x13 x15 x16 x17 (wrap64 (x18 + 1)))) else (none)) else (none)) else (none)) else (if x15 = true then (if 0 ≤ x4 then (if x4 < (x11.length : Int) then (if (rd x11 x4) ≥ 0 then (if 0 ≤ x16 then (if x16 < (x13.length : Int) then (if (rd x13 x16) = (rd x11 x4) then (if x17 < x2 then (some false) else (changeforgelaw6_WorkersResultsHaveAQuorum.l0 k x2 x4 x11 x13 true (wrap64 (x16 + 1)))) else (changeforgelaw6_WorkersResultsHaveAQuorum.l0 k x2 x4 x11 x13 true (wrap64 (x16 + 1)))) else (none)) else (none)) else (changeforgelaw6_WorkersResultsHaveAQuorum.l0 k x2 x4 x11 x13 true (wrap64 (x16 + 1)))) else (none)) else (none)) else (if 0 ≤ x16 then (if x16 < (x13.length : Int) then (if (rd x13 x16) ≥ 0 then (if 0 ≤ x4 then (if x4 < (x11.length : Int) then (if (rd x11 x4) ≥ 0 then (if (rd x13 x16) = (rd x11 x4) then (if x17 < x2 then (some false) else (changeforgelaw6_WorkersResultsHaveAQuorum.l0 k x2 x4 x11 x13 (decide (x17 ≥ x2)) (wrap64 (x16 + 1)))) else (changeforgelaw6_WorkersResultsHaveAQuorum.l0 k x2 x4 x11 x13 (decide (x17 ≥ x2)) (wrap64 (x16 + 1)))) else (changeforgelaw6_WorkersResultsHaveAQuorum.l0 k x2 x4 x11 x13 (decide (x17 ≥ x2)) (wrap64 (x16 + 1)))) else (none)) else (none)) else (if 0 ≤ x4 then (if x4 < (x11.length : Int) then (if (rd x11 x4) ≥ 0 then (if (rd x13 x16) = (rd x11 x4) then (if x17 < x2 then (some false) else (changeforgelaw6_WorkersResultsHaveAQuorum.l0 k x2 x4 x11 x13 false (wrap64 (x16 + 1)))) else (changeforgelaw6_WorkersResultsHaveAQuorum.l0 k x2 x4 x11 x13 false (wrap64 (x16 + 1)))) else (changeforgelaw6_WorkersResultsHaveAQuorum.l0 k x2 x4 x11 x13 false (wrap64 (x16 + 1)))) else (none)) else (none))) else (none)) else (none)))
end
def changeforgelaw6_WorkersResultsHaveAQuorum.f (k : Nat) (a0 : Int) (a1 : Int) (a2 : Int) (l3 : List (S44)) (a4 : Int) : Option (Bool) := (workers_Play.f a0 a1 a2 l3).bind fun bt357 => ((workers_Reports.f a0 a1 a2 l3 a4).bind fun bt363 => ((changeforgelaw6_farms.f k).bind fun t369 => (if t369 = true then (if bt357.2.1 = 0 then (changeforgelaw6_WorkersResultsHaveAQuorum.j0 k a2 a4 bt357.1 bt363.1 (bt363.2.1 != 0) bt357.2.1 bt357.2.2 bt363.2.1 bt363.2.2) else (changeforgelaw6_WorkersResultsHaveAQuorum.j0 k a2 a4 bt357.1 bt363.1 true bt357.2.1 bt357.2.2 bt363.2.1 bt363.2.2)) else (changeforgelaw6_WorkersResultsHaveAQuorum.j0 k a2 a4 bt357.1 bt363.1 true bt357.2.1 bt357.2.2 bt363.2.1 bt363.2.2))))
set_option maxHeartbeats 8000000 in
set_option maxRecDepth 100000 in
theorem changeforgelaw6_WorkersResultsHaveAQuorum.calls (k : Nat) (a0 : Int) (a1 : Int) (a2 : Int) (A3 : Option Addr) (c3 : Nat) (l3 : List (S44)) (a4 : Int) (r : Bool) (w : World) (hr3 : Kd.C k44 w A3 l3.length l3) (hc3 : l3.length ≤ c3) (h : changeforgelaw6_WorkersResultsHaveAQuorum.f k a0 a1 a2 l3 a4 = some r) :
    Calls Try.prog 6 #[.int .i64 a0, .int .i64 a1, .int .i64 a2, .slice A3 l3.length c3, .int .i64 a4] w fun e w' => e = .returned (.bool r) ∧ Below w.heap.size w w' := by
  have hu25 := Try.underlying25
  have HR3 := Aside0.mk hr3
  have HC3 := Aside0.mk hc3
  clear hr3 hc3
  have HB := Aside0.mk (Below.refl w.heap.size w)
  have H : ((workers_Play.f a0 a1 a2 l3).bind fun bt357 => ((workers_Reports.f a0 a1 a2 l3 a4).bind fun bt363 => ((changeforgelaw6_farms.f k).bind fun t369 => (if t369 = true then (if bt357.2.1 = 0 then (changeforgelaw6_WorkersResultsHaveAQuorum.j0 k a2 a4 bt357.1 bt363.1 (bt363.2.1 != 0) bt357.2.1 bt357.2.2 bt363.2.1 bt363.2.2) else (changeforgelaw6_WorkersResultsHaveAQuorum.j0 k a2 a4 bt357.1 bt363.1 true bt357.2.1 bt357.2.2 bt363.2.1 bt363.2.2)) else (changeforgelaw6_WorkersResultsHaveAQuorum.j0 k a2 a4 bt357.1 bt363.1 true bt357.2.1 bt357.2.2 bt363.2.1 bt363.2.2))))) = some r := h
  clear h
  replace H := Option.bind_eq_some_iff.mp H
  obtain ⟨⟨t357, t360, t361⟩, A60, H⟩ := H
  replace H : ((workers_Reports.f a0 a1 a2 l3 a4).bind fun bt363 => ((changeforgelaw6_farms.f k).bind fun t369 => (if t369 = true then (if t360 = 0 then (changeforgelaw6_WorkersResultsHaveAQuorum.j0 k a2 a4 t357 bt363.1 (bt363.2.1 != 0) t360 t361 bt363.2.1 bt363.2.2) else (changeforgelaw6_WorkersResultsHaveAQuorum.j0 k a2 a4 t357 bt363.1 true t360 t361 bt363.2.1 bt363.2.2)) else (changeforgelaw6_WorkersResultsHaveAQuorum.j0 k a2 a4 t357 bt363.1 true t360 t361 bt363.2.1 bt363.2.2)))) = some r := H
  have A6 := Aside0.mk A60
  clear A60
  replace H := Option.bind_eq_some_iff.mp H
  obtain ⟨⟨t363, t366, t367⟩, A70, H⟩ := H
  replace H : ((changeforgelaw6_farms.f k).bind fun t369 => (if t369 = true then (if t360 = 0 then (changeforgelaw6_WorkersResultsHaveAQuorum.j0 k a2 a4 t357 t363 (t366 != 0) t360 t361 t366 t367) else (changeforgelaw6_WorkersResultsHaveAQuorum.j0 k a2 a4 t357 t363 true t360 t361 t366 t367)) else (changeforgelaw6_WorkersResultsHaveAQuorum.j0 k a2 a4 t357 t363 true t360 t361 t366 t367))) = some r := H
  have A7 := Aside0.mk A70
  clear A70
  have HC8 := Aside0.mk H
  clear H
  go_enter Try.func6, Try.ntmps6
  go_upto_region 3 with (first | (go_at_call 11; (with_reducible refine (workers_Play.calls a0 a1 a2 _ _ l3 t357 t360 t361 _ ?side1 ?side2 A6.out).mono ?_); (case side1 => repeat (first | exact HR3.out | (with_reducible refine Kd.C_alloc ?_ _) | (with_reducible refine Kd.C_drewN ?_ _) | (with_reducible refine Kd.C_drew ?_))); (case side2 => exact HC3.out); rintro e w9 ⟨v358, rfl, ho0, hb⟩; have n0_ := Aside0.mk (Kd.R_lower ho0 (below_size (by repeat (first | (with_reducible first | exact HB.out | apply below_alloc | apply pw_below_drewN | apply below_drew1) | exact HB.out)))); have n1_ := Aside0.mk (below_step (by repeat (first | (with_reducible first | exact HB.out | apply below_alloc | apply pw_below_drewN | apply below_drew1) | exact HB.out)) hb); clear HB; have HO359 := n0_; have HB := n1_; clear n0_ n1_; (try clear hb); (try clear hb2); (try clear hk); (try clear hi); (try clear ho0)) | ((with_reducible refine gate_dst (N := 12) rfl ?_); (try (refine gate_guard (by rfl) ?_; dsimp only)); refine box_event ?hg (N := 12) ?hd (cs := #[.int .i64 0, .int .i64 0]) (t := 25) ?hr ?_; (case hd => rfl); (case hg => rfl); (case hr => first | (go_simp; done) | (go_simp; rfl)); intro gb362 hg w10 hbox hb; have n0_ := Aside0.mk (Kd.R_below (by (with_reducible repeat (first | apply Kd.R_alloc | apply Kd.R_drewN | apply Kd.R_drew)); exact HO359.out) hb); have n1_ := Aside0.mk (below_step (by repeat (first | (with_reducible first | exact HB.out | apply below_alloc | apply pw_below_drewN | apply below_drew1) | exact HB.out)) hb); have n2_ := Aside0.mk (hbox); have n3_ := Aside0.mk ((by rw [hg]; exact (below_size (by repeat (first | (with_reducible first | exact HB.out | apply below_alloc | apply pw_below_drewN | apply below_drew1) | exact HB.out))) : w.heap.size ≤ gb362)); have n4_ := Aside0.mk ((by rw [hg]; exact (below_size (by repeat (first | (with_reducible first | exact HB.out | apply below_alloc | apply pw_below_drewN | apply below_drew1) | exact HB.out))) : w.heap.size ≤ gb362)); clear HO359; clear HB; have HO359 := n0_; have HB := n1_; have BK362 := n2_; have GW362 := n3_; have GE362 := n4_; clear n0_ n1_ n2_ n3_ n4_; clear hb hbox hg; have hcz11_0 : w10.cell? ⟨gb362, 0, none⟩ = some (.int .i64 0) := (blk_cell BK362.out 0).trans rfl; have hcz11_1 : w10.cell? ⟨gb362, 1, none⟩ = some (.int .i64 0) := (blk_cell BK362.out 1).trans rfl; have hfz11_0 := blk_frozen BK362.out 0; have hfz11_1 := blk_frozen BK362.out 1) | (go_at_call 15; (with_reducible refine (workers_Reports.calls a0 a1 a2 _ _ l3 a4 t363 t366 t367 _ ?side1 ?side2 A7.out).mono ?_); (case side1 => exact Kd.C_below HR3.out (by repeat (first | (with_reducible first | exact HB.out | apply below_alloc | apply pw_below_drewN | apply below_drew1 | refine below_set ?_ GE362.out) | exact HB.out))); (case side2 => exact HC3.out); rintro e w12 ⟨v364, rfl, ho0, hb⟩; have n0_ := Aside0.mk (Kd.R_elder' (by (with_reducible repeat (first | apply Kd.R_alloc | apply Kd.R_drewN | apply Kd.R_drew)); exact (Kd.R_mono (Kd.R_far (p := ⟨gb362, 1, none⟩) (Kd.R_far (p := ⟨gb362, 0, none⟩) (Kd.R_types HO359.out BK362.out (by decide)) (fun _ hk => hk.2) (.int .i64 t360)) (fun _ hk => hk.2) (.int .i64 t361)) (fun _ h_ => h_.1))) (Kd.R_base ho0) hb); have n1_ := Aside0.mk (Kd.R_lower (Kd.R_new' ho0 (Kd.R_lt (by (with_reducible repeat (first | apply Kd.R_alloc | apply Kd.R_drewN | apply Kd.R_drew)); exact (Kd.R_mono (Kd.R_far (p := ⟨gb362, 1, none⟩) (Kd.R_far (p := ⟨gb362, 0, none⟩) (Kd.R_types HO359.out BK362.out (by decide)) (fun _ hk => hk.2) (.int .i64 t360)) (fun _ hk => hk.2) (.int .i64 t361)) (fun _ h_ => h_.1))))) (below_size (by repeat (first | (with_reducible first | exact HB.out | apply below_alloc | apply pw_below_drewN | apply below_drew1 | refine below_set ?_ GE362.out) | exact HB.out)))); have n2_ := Aside0.mk (blk_below (g := gb362) (o := .cells #[.int .i64 t360, .int .i64 t361] 25 (0, 0)) (by (with_reducible repeat (first | refine blk_drewN ?_ _ | refine blk_drew ?_ | refine blk_alloc ?_ _)); refine blk_put (cs := #[.int .i64 t360, .int .i64 0]) ?_ 1 _ rfl; (with_reducible repeat (first | refine blk_drewN ?_ _ | refine blk_drew ?_ | refine blk_alloc ?_ _)); refine blk_put (cs := #[.int .i64 0, .int .i64 0]) ?_ 0 _ rfl; (with_reducible repeat (first | refine blk_drewN ?_ _ | refine blk_drew ?_ | refine blk_alloc ?_ _)); exact BK362.out) hb); have n3_ := Aside0.mk (below_step (by repeat (first | (with_reducible first | exact HB.out | apply below_alloc | apply pw_below_drewN | apply below_drew1 | refine below_set ?_ GE362.out) | exact HB.out)) hb); clear HO359; clear BK362; clear HB; have HO359 := n0_; have HO365 := n1_; have BK362 := n2_; have HB := n3_; clear n0_ n1_ n2_ n3_; (try clear hb); (try clear hb2); (try clear hk); (try clear hi); (try clear ho0)) | ((with_reducible refine gate_dst (N := 14) rfl ?_); (try (refine gate_guard (by rfl) ?_; dsimp only)); refine box_event ?hg (N := 14) ?hd (cs := #[.int .i64 0, .int .i64 0]) (t := 25) ?hr ?_; (case hd => rfl); (case hg => rfl); (case hr => first | (go_simp; done) | (go_simp; rfl)); intro gb368 hg w13 hbox hb; have n0_ := Aside0.mk (Kd.R_below (by (with_reducible repeat (first | apply Kd.R_alloc | apply Kd.R_drewN | apply Kd.R_drew)); exact HO359.out) hb); have n1_ := Aside0.mk (Kd.R_below (by (with_reducible repeat (first | apply Kd.R_alloc | apply Kd.R_drewN | apply Kd.R_drew)); exact HO365.out) hb); have n2_ := Aside0.mk (blk_below (g := gb362) (o := .cells #[.int .i64 t360, .int .i64 t361] 25 (0, 0)) (by (with_reducible repeat (first | refine blk_drewN ?_ _ | refine blk_drew ?_ | refine blk_alloc ?_ _)); exact BK362.out) hb); have n3_ := Aside0.mk (below_step (by repeat (first | (with_reducible first | exact HB.out | apply below_alloc | apply pw_below_drewN | apply below_drew1 | refine below_set ?_ GE362.out) | exact HB.out)) hb); have n4_ := Aside0.mk (hbox); have n5_ := Aside0.mk ((by rw [hg]; exact (below_size (by repeat (first | (with_reducible first | exact HB.out | apply below_alloc | apply pw_below_drewN | apply below_drew1 | refine below_set ?_ GE362.out) | exact HB.out))) : w.heap.size ≤ gb368)); have n6_ := Aside0.mk ((by rw [hg]; exact (below_size (by repeat (first | (with_reducible first | exact HB.out | apply below_alloc | apply pw_below_drewN | apply below_drew1 | refine below_set ?_ GE362.out) | exact HB.out))) : w.heap.size ≤ gb368)); have n7_ := Aside0.mk ((by rw [hg]; exact Nat.ne_of_lt (blk_lt (g := gb362) (o := .cells #[.int .i64 t360, .int .i64 t361] 25 (0, 0)) (by (with_reducible repeat (first | refine blk_drewN ?_ _ | refine blk_drew ?_ | refine blk_alloc ?_ _)); exact BK362.out)) : gb362 ≠ gb368)); have n8_ := Aside0.mk ((by rw [hg]; exact Nat.ne_of_gt (blk_lt (g := gb362) (o := .cells #[.int .i64 t360, .int .i64 t361] 25 (0, 0)) (by (with_reducible repeat (first | refine blk_drewN ?_ _ | refine blk_drew ?_ | refine blk_alloc ?_ _)); exact BK362.out)) : gb368 ≠ gb362)); clear HO359; clear HO365; clear BK362; clear HB; have HO359 := n0_; have HO365 := n1_; have BK362 := n2_; have HB := n3_; have BK368 := n4_; have GW368 := n5_; have GE368 := n6_; have NB362_368 := n7_; have NB368_362 := n8_; clear n0_ n1_ n2_ n3_ n4_ n5_ n6_ n7_ n8_; clear hb hbox hg; have hnb14 := NB368_362.out; have hnc14 := NB362_368.out; have hcz15_0 : w13.cell? ⟨gb368, 0, none⟩ = some (.int .i64 0) := (blk_cell BK368.out 0).trans rfl; have hcz15_1 : w13.cell? ⟨gb368, 1, none⟩ = some (.int .i64 0) := (blk_cell BK368.out 1).trans rfl; have hfz15_0 := blk_frozen BK368.out 0; have hfz15_1 := blk_frozen BK368.out 1))
  repeat (go_quiet (first | (go_at_call 11; (with_reducible refine (workers_Play.calls a0 a1 a2 _ _ l3 t357 t360 t361 _ ?side1 ?side2 A6.out).mono ?_); (case side1 => repeat (first | exact HR3.out | (with_reducible refine Kd.C_alloc ?_ _) | (with_reducible refine Kd.C_drewN ?_ _) | (with_reducible refine Kd.C_drew ?_))); (case side2 => exact HC3.out); rintro e w9 ⟨v358, rfl, ho0, hb⟩; have n0_ := Aside0.mk (Kd.R_lower ho0 (below_size (by repeat (first | (with_reducible first | exact HB.out | apply below_alloc | apply pw_below_drewN | apply below_drew1) | exact HB.out)))); have n1_ := Aside0.mk (below_step (by repeat (first | (with_reducible first | exact HB.out | apply below_alloc | apply pw_below_drewN | apply below_drew1) | exact HB.out)) hb); clear HB; have HO359 := n0_; have HB := n1_; clear n0_ n1_; (try clear hb); (try clear hb2); (try clear hk); (try clear hi); (try clear ho0)) | ((with_reducible refine gate_dst (N := 12) rfl ?_); (try (refine gate_guard (by rfl) ?_; dsimp only)); refine box_event ?hg (N := 12) ?hd (cs := #[.int .i64 0, .int .i64 0]) (t := 25) ?hr ?_; (case hd => rfl); (case hg => rfl); (case hr => first | (go_simp; done) | (go_simp; rfl)); intro gb362 hg w10 hbox hb; have n0_ := Aside0.mk (Kd.R_below (by (with_reducible repeat (first | apply Kd.R_alloc | apply Kd.R_drewN | apply Kd.R_drew)); exact HO359.out) hb); have n1_ := Aside0.mk (below_step (by repeat (first | (with_reducible first | exact HB.out | apply below_alloc | apply pw_below_drewN | apply below_drew1) | exact HB.out)) hb); have n2_ := Aside0.mk (hbox); have n3_ := Aside0.mk ((by rw [hg]; exact (below_size (by repeat (first | (with_reducible first | exact HB.out | apply below_alloc | apply pw_below_drewN | apply below_drew1) | exact HB.out))) : w.heap.size ≤ gb362)); have n4_ := Aside0.mk ((by rw [hg]; exact (below_size (by repeat (first | (with_reducible first | exact HB.out | apply below_alloc | apply pw_below_drewN | apply below_drew1) | exact HB.out))) : w.heap.size ≤ gb362)); clear HO359; clear HB; have HO359 := n0_; have HB := n1_; have BK362 := n2_; have GW362 := n3_; have GE362 := n4_; clear n0_ n1_ n2_ n3_ n4_; clear hb hbox hg; have hcz11_0 : w10.cell? ⟨gb362, 0, none⟩ = some (.int .i64 0) := (blk_cell BK362.out 0).trans rfl; have hcz11_1 : w10.cell? ⟨gb362, 1, none⟩ = some (.int .i64 0) := (blk_cell BK362.out 1).trans rfl; have hfz11_0 := blk_frozen BK362.out 0; have hfz11_1 := blk_frozen BK362.out 1) | (go_at_call 15; (with_reducible refine (workers_Reports.calls a0 a1 a2 _ _ l3 a4 t363 t366 t367 _ ?side1 ?side2 A7.out).mono ?_); (case side1 => exact Kd.C_below HR3.out (by repeat (first | (with_reducible first | exact HB.out | apply below_alloc | apply pw_below_drewN | apply below_drew1 | refine below_set ?_ GE362.out) | exact HB.out))); (case side2 => exact HC3.out); rintro e w12 ⟨v364, rfl, ho0, hb⟩; have n0_ := Aside0.mk (Kd.R_elder' (by (with_reducible repeat (first | apply Kd.R_alloc | apply Kd.R_drewN | apply Kd.R_drew)); exact (Kd.R_mono (Kd.R_far (p := ⟨gb362, 1, none⟩) (Kd.R_far (p := ⟨gb362, 0, none⟩) (Kd.R_types HO359.out BK362.out (by decide)) (fun _ hk => hk.2) (.int .i64 t360)) (fun _ hk => hk.2) (.int .i64 t361)) (fun _ h_ => h_.1))) (Kd.R_base ho0) hb); have n1_ := Aside0.mk (Kd.R_lower (Kd.R_new' ho0 (Kd.R_lt (by (with_reducible repeat (first | apply Kd.R_alloc | apply Kd.R_drewN | apply Kd.R_drew)); exact (Kd.R_mono (Kd.R_far (p := ⟨gb362, 1, none⟩) (Kd.R_far (p := ⟨gb362, 0, none⟩) (Kd.R_types HO359.out BK362.out (by decide)) (fun _ hk => hk.2) (.int .i64 t360)) (fun _ hk => hk.2) (.int .i64 t361)) (fun _ h_ => h_.1))))) (below_size (by repeat (first | (with_reducible first | exact HB.out | apply below_alloc | apply pw_below_drewN | apply below_drew1 | refine below_set ?_ GE362.out) | exact HB.out)))); have n2_ := Aside0.mk (blk_below (g := gb362) (o := .cells #[.int .i64 t360, .int .i64 t361] 25 (0, 0)) (by (with_reducible repeat (first | refine blk_drewN ?_ _ | refine blk_drew ?_ | refine blk_alloc ?_ _)); refine blk_put (cs := #[.int .i64 t360, .int .i64 0]) ?_ 1 _ rfl; (with_reducible repeat (first | refine blk_drewN ?_ _ | refine blk_drew ?_ | refine blk_alloc ?_ _)); refine blk_put (cs := #[.int .i64 0, .int .i64 0]) ?_ 0 _ rfl; (with_reducible repeat (first | refine blk_drewN ?_ _ | refine blk_drew ?_ | refine blk_alloc ?_ _)); exact BK362.out) hb); have n3_ := Aside0.mk (below_step (by repeat (first | (with_reducible first | exact HB.out | apply below_alloc | apply pw_below_drewN | apply below_drew1 | refine below_set ?_ GE362.out) | exact HB.out)) hb); clear HO359; clear BK362; clear HB; have HO359 := n0_; have HO365 := n1_; have BK362 := n2_; have HB := n3_; clear n0_ n1_ n2_ n3_; (try clear hb); (try clear hb2); (try clear hk); (try clear hi); (try clear ho0)) | ((with_reducible refine gate_dst (N := 14) rfl ?_); (try (refine gate_guard (by rfl) ?_; dsimp only)); refine box_event ?hg (N := 14) ?hd (cs := #[.int .i64 0, .int .i64 0]) (t := 25) ?hr ?_; (case hd => rfl); (case hg => rfl); (case hr => first | (go_simp; done) | (go_simp; rfl)); intro gb368 hg w13 hbox hb; have n0_ := Aside0.mk (Kd.R_below (by (with_reducible repeat (first | apply Kd.R_alloc | apply Kd.R_drewN | apply Kd.R_drew)); exact HO359.out) hb); have n1_ := Aside0.mk (Kd.R_below (by (with_reducible repeat (first | apply Kd.R_alloc | apply Kd.R_drewN | apply Kd.R_drew)); exact HO365.out) hb); have n2_ := Aside0.mk (blk_below (g := gb362) (o := .cells #[.int .i64 t360, .int .i64 t361] 25 (0, 0)) (by (with_reducible repeat (first | refine blk_drewN ?_ _ | refine blk_drew ?_ | refine blk_alloc ?_ _)); exact BK362.out) hb); have n3_ := Aside0.mk (below_step (by repeat (first | (with_reducible first | exact HB.out | apply below_alloc | apply pw_below_drewN | apply below_drew1 | refine below_set ?_ GE362.out) | exact HB.out)) hb); have n4_ := Aside0.mk (hbox); have n5_ := Aside0.mk ((by rw [hg]; exact (below_size (by repeat (first | (with_reducible first | exact HB.out | apply below_alloc | apply pw_below_drewN | apply below_drew1 | refine below_set ?_ GE362.out) | exact HB.out))) : w.heap.size ≤ gb368)); have n6_ := Aside0.mk ((by rw [hg]; exact (below_size (by repeat (first | (with_reducible first | exact HB.out | apply below_alloc | apply pw_below_drewN | apply below_drew1 | refine below_set ?_ GE362.out) | exact HB.out))) : w.heap.size ≤ gb368)); have n7_ := Aside0.mk ((by rw [hg]; exact Nat.ne_of_lt (blk_lt (g := gb362) (o := .cells #[.int .i64 t360, .int .i64 t361] 25 (0, 0)) (by (with_reducible repeat (first | refine blk_drewN ?_ _ | refine blk_drew ?_ | refine blk_alloc ?_ _)); exact BK362.out)) : gb362 ≠ gb368)); have n8_ := Aside0.mk ((by rw [hg]; exact Nat.ne_of_gt (blk_lt (g := gb362) (o := .cells #[.int .i64 t360, .int .i64 t361] 25 (0, 0)) (by (with_reducible repeat (first | refine blk_drewN ?_ _ | refine blk_drew ?_ | refine blk_alloc ?_ _)); exact BK362.out)) : gb368 ≠ gb362)); clear HO359; clear HO365; clear BK362; clear HB; have HO359 := n0_; have HO365 := n1_; have BK362 := n2_; have HB := n3_; have BK368 := n4_; have GW368 := n5_; have GE368 := n6_; have NB362_368 := n7_; have NB368_362 := n8_; clear n0_ n1_ n2_ n3_ n4_ n5_ n6_ n7_ n8_; clear hb hbox hg; have hnb14 := NB368_362.out; have hnc14 := NB362_368.out; have hcz15_0 : w13.cell? ⟨gb368, 0, none⟩ = some (.int .i64 0) := (blk_cell BK368.out 0).trans rfl; have hcz15_1 : w13.cell? ⟨gb368, 1, none⟩ = some (.int .i64 0) := (blk_cell BK368.out 1).trans rfl; have hfz15_0 := blk_frozen BK368.out 0; have hfz15_1 := blk_frozen BK368.out 1)); go_upto_region 3 with (first | (go_at_call 11; (with_reducible refine (workers_Play.calls a0 a1 a2 _ _ l3 t357 t360 t361 _ ?side1 ?side2 A6.out).mono ?_); (case side1 => repeat (first | exact HR3.out | (with_reducible refine Kd.C_alloc ?_ _) | (with_reducible refine Kd.C_drewN ?_ _) | (with_reducible refine Kd.C_drew ?_))); (case side2 => exact HC3.out); rintro e w9 ⟨v358, rfl, ho0, hb⟩; have n0_ := Aside0.mk (Kd.R_lower ho0 (below_size (by repeat (first | (with_reducible first | exact HB.out | apply below_alloc | apply pw_below_drewN | apply below_drew1) | exact HB.out)))); have n1_ := Aside0.mk (below_step (by repeat (first | (with_reducible first | exact HB.out | apply below_alloc | apply pw_below_drewN | apply below_drew1) | exact HB.out)) hb); clear HB; have HO359 := n0_; have HB := n1_; clear n0_ n1_; (try clear hb); (try clear hb2); (try clear hk); (try clear hi); (try clear ho0)) | ((with_reducible refine gate_dst (N := 12) rfl ?_); (try (refine gate_guard (by rfl) ?_; dsimp only)); refine box_event ?hg (N := 12) ?hd (cs := #[.int .i64 0, .int .i64 0]) (t := 25) ?hr ?_; (case hd => rfl); (case hg => rfl); (case hr => first | (go_simp; done) | (go_simp; rfl)); intro gb362 hg w10 hbox hb; have n0_ := Aside0.mk (Kd.R_below (by (with_reducible repeat (first | apply Kd.R_alloc | apply Kd.R_drewN | apply Kd.R_drew)); exact HO359.out) hb); have n1_ := Aside0.mk (below_step (by repeat (first | (with_reducible first | exact HB.out | apply below_alloc | apply pw_below_drewN | apply below_drew1) | exact HB.out)) hb); have n2_ := Aside0.mk (hbox); have n3_ := Aside0.mk ((by rw [hg]; exact (below_size (by repeat (first | (with_reducible first | exact HB.out | apply below_alloc | apply pw_below_drewN | apply below_drew1) | exact HB.out))) : w.heap.size ≤ gb362)); have n4_ := Aside0.mk ((by rw [hg]; exact (below_size (by repeat (first | (with_reducible first | exact HB.out | apply below_alloc | apply pw_below_drewN | apply below_drew1) | exact HB.out))) : w.heap.size ≤ gb362)); clear HO359; clear HB; have HO359 := n0_; have HB := n1_; have BK362 := n2_; have GW362 := n3_; have GE362 := n4_; clear n0_ n1_ n2_ n3_ n4_; clear hb hbox hg; have hcz11_0 : w10.cell? ⟨gb362, 0, none⟩ = some (.int .i64 0) := (blk_cell BK362.out 0).trans rfl; have hcz11_1 : w10.cell? ⟨gb362, 1, none⟩ = some (.int .i64 0) := (blk_cell BK362.out 1).trans rfl; have hfz11_0 := blk_frozen BK362.out 0; have hfz11_1 := blk_frozen BK362.out 1) | (go_at_call 15; (with_reducible refine (workers_Reports.calls a0 a1 a2 _ _ l3 a4 t363 t366 t367 _ ?side1 ?side2 A7.out).mono ?_); (case side1 => exact Kd.C_below HR3.out (by repeat (first | (with_reducible first | exact HB.out | apply below_alloc | apply pw_below_drewN | apply below_drew1 | refine below_set ?_ GE362.out) | exact HB.out))); (case side2 => exact HC3.out); rintro e w12 ⟨v364, rfl, ho0, hb⟩; have n0_ := Aside0.mk (Kd.R_elder' (by (with_reducible repeat (first | apply Kd.R_alloc | apply Kd.R_drewN | apply Kd.R_drew)); exact (Kd.R_mono (Kd.R_far (p := ⟨gb362, 1, none⟩) (Kd.R_far (p := ⟨gb362, 0, none⟩) (Kd.R_types HO359.out BK362.out (by decide)) (fun _ hk => hk.2) (.int .i64 t360)) (fun _ hk => hk.2) (.int .i64 t361)) (fun _ h_ => h_.1))) (Kd.R_base ho0) hb); have n1_ := Aside0.mk (Kd.R_lower (Kd.R_new' ho0 (Kd.R_lt (by (with_reducible repeat (first | apply Kd.R_alloc | apply Kd.R_drewN | apply Kd.R_drew)); exact (Kd.R_mono (Kd.R_far (p := ⟨gb362, 1, none⟩) (Kd.R_far (p := ⟨gb362, 0, none⟩) (Kd.R_types HO359.out BK362.out (by decide)) (fun _ hk => hk.2) (.int .i64 t360)) (fun _ hk => hk.2) (.int .i64 t361)) (fun _ h_ => h_.1))))) (below_size (by repeat (first | (with_reducible first | exact HB.out | apply below_alloc | apply pw_below_drewN | apply below_drew1 | refine below_set ?_ GE362.out) | exact HB.out)))); have n2_ := Aside0.mk (blk_below (g := gb362) (o := .cells #[.int .i64 t360, .int .i64 t361] 25 (0, 0)) (by (with_reducible repeat (first | refine blk_drewN ?_ _ | refine blk_drew ?_ | refine blk_alloc ?_ _)); refine blk_put (cs := #[.int .i64 t360, .int .i64 0]) ?_ 1 _ rfl; (with_reducible repeat (first | refine blk_drewN ?_ _ | refine blk_drew ?_ | refine blk_alloc ?_ _)); refine blk_put (cs := #[.int .i64 0, .int .i64 0]) ?_ 0 _ rfl; (with_reducible repeat (first | refine blk_drewN ?_ _ | refine blk_drew ?_ | refine blk_alloc ?_ _)); exact BK362.out) hb); have n3_ := Aside0.mk (below_step (by repeat (first | (with_reducible first | exact HB.out | apply below_alloc | apply pw_below_drewN | apply below_drew1 | refine below_set ?_ GE362.out) | exact HB.out)) hb); clear HO359; clear BK362; clear HB; have HO359 := n0_; have HO365 := n1_; have BK362 := n2_; have HB := n3_; clear n0_ n1_ n2_ n3_; (try clear hb); (try clear hb2); (try clear hk); (try clear hi); (try clear ho0)) | ((with_reducible refine gate_dst (N := 14) rfl ?_); (try (refine gate_guard (by rfl) ?_; dsimp only)); refine box_event ?hg (N := 14) ?hd (cs := #[.int .i64 0, .int .i64 0]) (t := 25) ?hr ?_; (case hd => rfl); (case hg => rfl); (case hr => first | (go_simp; done) | (go_simp; rfl)); intro gb368 hg w13 hbox hb; have n0_ := Aside0.mk (Kd.R_below (by (with_reducible repeat (first | apply Kd.R_alloc | apply Kd.R_drewN | apply Kd.R_drew)); exact HO359.out) hb); have n1_ := Aside0.mk (Kd.R_below (by (with_reducible repeat (first | apply Kd.R_alloc | apply Kd.R_drewN | apply Kd.R_drew)); exact HO365.out) hb); have n2_ := Aside0.mk (blk_below (g := gb362) (o := .cells #[.int .i64 t360, .int .i64 t361] 25 (0, 0)) (by (with_reducible repeat (first | refine blk_drewN ?_ _ | refine blk_drew ?_ | refine blk_alloc ?_ _)); exact BK362.out) hb); have n3_ := Aside0.mk (below_step (by repeat (first | (with_reducible first | exact HB.out | apply below_alloc | apply pw_below_drewN | apply below_drew1 | refine below_set ?_ GE362.out) | exact HB.out)) hb); have n4_ := Aside0.mk (hbox); have n5_ := Aside0.mk ((by rw [hg]; exact (below_size (by repeat (first | (with_reducible first | exact HB.out | apply below_alloc | apply pw_below_drewN | apply below_drew1 | refine below_set ?_ GE362.out) | exact HB.out))) : w.heap.size ≤ gb368)); have n6_ := Aside0.mk ((by rw [hg]; exact (below_size (by repeat (first | (with_reducible first | exact HB.out | apply below_alloc | apply pw_below_drewN | apply below_drew1 | refine below_set ?_ GE362.out) | exact HB.out))) : w.heap.size ≤ gb368)); have n7_ := Aside0.mk ((by rw [hg]; exact Nat.ne_of_lt (blk_lt (g := gb362) (o := .cells #[.int .i64 t360, .int .i64 t361] 25 (0, 0)) (by (with_reducible repeat (first | refine blk_drewN ?_ _ | refine blk_drew ?_ | refine blk_alloc ?_ _)); exact BK362.out)) : gb362 ≠ gb368)); have n8_ := Aside0.mk ((by rw [hg]; exact Nat.ne_of_gt (blk_lt (g := gb362) (o := .cells #[.int .i64 t360, .int .i64 t361] 25 (0, 0)) (by (with_reducible repeat (first | refine blk_drewN ?_ _ | refine blk_drew ?_ | refine blk_alloc ?_ _)); exact BK362.out)) : gb368 ≠ gb362)); clear HO359; clear HO365; clear BK362; clear HB; have HO359 := n0_; have HO365 := n1_; have BK362 := n2_; have HB := n3_; have BK368 := n4_; have GW368 := n5_; have GE368 := n6_; have NB362_368 := n7_; have NB368_362 := n8_; clear n0_ n1_ n2_ n3_ n4_ n5_ n6_ n7_ n8_; clear hb hbox hg; have hnb14 := NB368_362.out; have hnc14 := NB362_368.out; have hcz15_0 : w13.cell? ⟨gb368, 0, none⟩ = some (.int .i64 0) := (blk_cell BK368.out 0).trans rfl; have hcz15_1 : w13.cell? ⟨gb368, 1, none⟩ = some (.int .i64 0) := (blk_cell BK368.out 1).trans rfl; have hfz15_0 := blk_frozen BK368.out 0; have hfz15_1 := blk_frozen BK368.out 1)))
  (try simp only [Act.put, List.setIfInBounds_toArray, List.set_cons_zero, List.set_cons_succ])
  go_cut [47] (fun v47 wc => ∃ (kq : Nat) (x47_7 : Bool), v47 = .bool x47_7 ∧ Aside0 (changeforgelaw6_WorkersResultsHaveAQuorum.j0 kq a2 a4 t357 t363 x47_7 t360 t361 t366 t367 = some r) ∧ Aside0 (kq ≤ k) ∧ Aside0 (Kd.R (Kd.int .i64) 3 wc w.heap.size (fun k_ => some k_ ≠ (v364 : Value).ownBlock) v358 t357) ∧ Aside0 (Kd.R (Kd.int .i64) 3 wc w.heap.size (fun k_ => some k_ ≠ (v358 : Value).ownBlock) v364 t363) ∧ Aside0 (wc.heap[gb362]? = some (.cells #[.int .i64 t360, .int .i64 t361] 25 (0, 0))) ∧ Aside0 (wc.heap[gb368]? = some (.cells #[.int .i64 t366, .int .i64 t367] 25 (0, 0))) ∧ Aside0 (Below w.heap.size w wc))
  case first =>
    have H := HC8.out
    clear HC8
    replace H := Option.bind_eq_some_iff.mp H
    obtain ⟨t369, A160, H⟩ := H
    replace H : (if t369 = true then (if t360 = 0 then (changeforgelaw6_WorkersResultsHaveAQuorum.j0 k a2 a4 t357 t363 (t366 != 0) t360 t361 t366 t367) else (changeforgelaw6_WorkersResultsHaveAQuorum.j0 k a2 a4 t357 t363 true t360 t361 t366 t367)) else (changeforgelaw6_WorkersResultsHaveAQuorum.j0 k a2 a4 t357 t363 true t360 t361 t366 t367)) = some r := H
    have A16 := Aside0.mk A160
    clear A160
    by_cases c17 : t369 = true
    · subst c17
      have H1 : (if t360 = 0 then (changeforgelaw6_WorkersResultsHaveAQuorum.j0 k a2 a4 t357 t363 (t366 != 0) t360 t361 t366 t367) else (changeforgelaw6_WorkersResultsHaveAQuorum.j0 k a2 a4 t357 t363 true t360 t361 t366 t367)) = some r := by rw [if_pos rfl] at H; exact H
      clear H
      have H := H1
      clear H1
      by_cases c18 : t360 = 0
      · rw [if_pos c18] at H
        have c18b0 : (t360 == 0) = true := beq_iff_eq.mpr c18
        have c18b1 : (t360 != 0) = false := bne_eq_false_iff_eq.mpr c18
        clear c18
        (first | rw [c18b0] | (simp only [i64_w, i32_w]; rw [c18b0]) | skip)
        have H' := Aside0.mk H
        clear H
        go_wp2_with (first | (go_at_call 9; (with_reducible refine (changeforgelaw6_farms.calls k  true _ A16.out).mono ?_); rintro e w19 ⟨rfl, hb⟩; have n0_ := Aside0.mk (Kd.R_below (by (with_reducible repeat (first | apply Kd.R_alloc | apply Kd.R_drewN | apply Kd.R_drew)); exact (Kd.R_mono (Kd.R_far (p := ⟨gb368, 1, none⟩) (Kd.R_far (p := ⟨gb368, 0, none⟩) (Kd.R_types HO359.out BK368.out (by decide)) (fun _ hk => hk.2) (.int .i64 t366)) (fun _ hk => hk.2) (.int .i64 t367)) (fun _ h_ => h_.1))) hb); have n1_ := Aside0.mk (Kd.R_below (by (with_reducible repeat (first | apply Kd.R_alloc | apply Kd.R_drewN | apply Kd.R_drew)); exact (Kd.R_mono (Kd.R_far (p := ⟨gb368, 1, none⟩) (Kd.R_far (p := ⟨gb368, 0, none⟩) (Kd.R_types HO365.out BK368.out (by decide)) (fun _ hk => hk.2) (.int .i64 t366)) (fun _ hk => hk.2) (.int .i64 t367)) (fun _ h_ => h_.1))) hb); have n2_ := Aside0.mk (blk_below (g := gb362) (o := .cells #[.int .i64 t360, .int .i64 t361] 25 (0, 0)) (by (with_reducible repeat (first | refine blk_drewN ?_ _ | refine blk_drew ?_ | refine blk_alloc ?_ _)); refine blk_far ?_ NB362_368.out _; (with_reducible repeat (first | refine blk_drewN ?_ _ | refine blk_drew ?_ | refine blk_alloc ?_ _)); refine blk_far ?_ NB362_368.out _; (with_reducible repeat (first | refine blk_drewN ?_ _ | refine blk_drew ?_ | refine blk_alloc ?_ _)); exact BK362.out) hb); have n3_ := Aside0.mk (blk_below (g := gb368) (o := .cells #[.int .i64 t366, .int .i64 t367] 25 (0, 0)) (by (with_reducible repeat (first | refine blk_drewN ?_ _ | refine blk_drew ?_ | refine blk_alloc ?_ _)); refine blk_put (cs := #[.int .i64 t366, .int .i64 0]) ?_ 1 _ rfl; (with_reducible repeat (first | refine blk_drewN ?_ _ | refine blk_drew ?_ | refine blk_alloc ?_ _)); refine blk_put (cs := #[.int .i64 0, .int .i64 0]) ?_ 0 _ rfl; (with_reducible repeat (first | refine blk_drewN ?_ _ | refine blk_drew ?_ | refine blk_alloc ?_ _)); exact BK368.out) hb); have n4_ := Aside0.mk (below_step (by repeat (first | (with_reducible first | exact HB.out | apply below_alloc | apply pw_below_drewN | apply below_drew1 | refine below_set ?_ GE362.out | refine below_set ?_ GE368.out) | exact HB.out)) hb); clear HO359; clear HO365; clear BK362; clear BK368; clear HB; have HO359 := n0_; have HO365 := n1_; have BK362 := n2_; have BK368 := n3_; have HB := n4_; clear n0_ n1_ n2_ n3_ n4_; (try clear hb); (try clear hb2); (try clear hk); (try clear hi); have hnb20 := NB362_368.out; have hnc20 := NB368_362.out; have hcz21_0 : w19.cell? ⟨gb362, 0, none⟩ = some (.int .i64 t360) := (blk_cell BK362.out 0).trans rfl; have hcz21_1 : w19.cell? ⟨gb362, 1, none⟩ = some (.int .i64 t361) := (blk_cell BK362.out 1).trans rfl; have hfz21_0 := blk_frozen BK362.out 0; have hfz21_1 := blk_frozen BK362.out 1; have hcz22_0 : w19.cell? ⟨gb368, 0, none⟩ = some (.int .i64 t366) := (blk_cell BK368.out 0).trans rfl; have hcz22_1 : w19.cell? ⟨gb368, 1, none⟩ = some (.int .i64 t367) := (blk_cell BK368.out 1).trans rfl; have hfz22_0 := blk_frozen BK368.out 0; have hfz22_1 := blk_frozen BK368.out 1))
        repeat (go_quiet (first | (go_at_call 9; (with_reducible refine (changeforgelaw6_farms.calls k  true _ A16.out).mono ?_); rintro e w19 ⟨rfl, hb⟩; have n0_ := Aside0.mk (Kd.R_below (by (with_reducible repeat (first | apply Kd.R_alloc | apply Kd.R_drewN | apply Kd.R_drew)); exact (Kd.R_mono (Kd.R_far (p := ⟨gb368, 1, none⟩) (Kd.R_far (p := ⟨gb368, 0, none⟩) (Kd.R_types HO359.out BK368.out (by decide)) (fun _ hk => hk.2) (.int .i64 t366)) (fun _ hk => hk.2) (.int .i64 t367)) (fun _ h_ => h_.1))) hb); have n1_ := Aside0.mk (Kd.R_below (by (with_reducible repeat (first | apply Kd.R_alloc | apply Kd.R_drewN | apply Kd.R_drew)); exact (Kd.R_mono (Kd.R_far (p := ⟨gb368, 1, none⟩) (Kd.R_far (p := ⟨gb368, 0, none⟩) (Kd.R_types HO365.out BK368.out (by decide)) (fun _ hk => hk.2) (.int .i64 t366)) (fun _ hk => hk.2) (.int .i64 t367)) (fun _ h_ => h_.1))) hb); have n2_ := Aside0.mk (blk_below (g := gb362) (o := .cells #[.int .i64 t360, .int .i64 t361] 25 (0, 0)) (by (with_reducible repeat (first | refine blk_drewN ?_ _ | refine blk_drew ?_ | refine blk_alloc ?_ _)); refine blk_far ?_ NB362_368.out _; (with_reducible repeat (first | refine blk_drewN ?_ _ | refine blk_drew ?_ | refine blk_alloc ?_ _)); refine blk_far ?_ NB362_368.out _; (with_reducible repeat (first | refine blk_drewN ?_ _ | refine blk_drew ?_ | refine blk_alloc ?_ _)); exact BK362.out) hb); have n3_ := Aside0.mk (blk_below (g := gb368) (o := .cells #[.int .i64 t366, .int .i64 t367] 25 (0, 0)) (by (with_reducible repeat (first | refine blk_drewN ?_ _ | refine blk_drew ?_ | refine blk_alloc ?_ _)); refine blk_put (cs := #[.int .i64 t366, .int .i64 0]) ?_ 1 _ rfl; (with_reducible repeat (first | refine blk_drewN ?_ _ | refine blk_drew ?_ | refine blk_alloc ?_ _)); refine blk_put (cs := #[.int .i64 0, .int .i64 0]) ?_ 0 _ rfl; (with_reducible repeat (first | refine blk_drewN ?_ _ | refine blk_drew ?_ | refine blk_alloc ?_ _)); exact BK368.out) hb); have n4_ := Aside0.mk (below_step (by repeat (first | (with_reducible first | exact HB.out | apply below_alloc | apply pw_below_drewN | apply below_drew1 | refine below_set ?_ GE362.out | refine below_set ?_ GE368.out) | exact HB.out)) hb); clear HO359; clear HO365; clear BK362; clear BK368; clear HB; have HO359 := n0_; have HO365 := n1_; have BK362 := n2_; have BK368 := n3_; have HB := n4_; clear n0_ n1_ n2_ n3_ n4_; (try clear hb); (try clear hb2); (try clear hk); (try clear hi); have hnb20 := NB362_368.out; have hnc20 := NB368_362.out; have hcz21_0 : w19.cell? ⟨gb362, 0, none⟩ = some (.int .i64 t360) := (blk_cell BK362.out 0).trans rfl; have hcz21_1 : w19.cell? ⟨gb362, 1, none⟩ = some (.int .i64 t361) := (blk_cell BK362.out 1).trans rfl; have hfz21_0 := blk_frozen BK362.out 0; have hfz21_1 := blk_frozen BK362.out 1; have hcz22_0 : w19.cell? ⟨gb368, 0, none⟩ = some (.int .i64 t366) := (blk_cell BK368.out 0).trans rfl; have hcz22_1 : w19.cell? ⟨gb368, 1, none⟩ = some (.int .i64 t367) := (blk_cell BK368.out 1).trans rfl; have hfz22_0 := blk_frozen BK368.out 0; have hfz22_1 := blk_frozen BK368.out 1)); try go_wp2_with (first | (go_at_call 9; (with_reducible refine (changeforgelaw6_farms.calls k  true _ A16.out).mono ?_); rintro e w19 ⟨rfl, hb⟩; have n0_ := Aside0.mk (Kd.R_below (by (with_reducible repeat (first | apply Kd.R_alloc | apply Kd.R_drewN | apply Kd.R_drew)); exact (Kd.R_mono (Kd.R_far (p := ⟨gb368, 1, none⟩) (Kd.R_far (p := ⟨gb368, 0, none⟩) (Kd.R_types HO359.out BK368.out (by decide)) (fun _ hk => hk.2) (.int .i64 t366)) (fun _ hk => hk.2) (.int .i64 t367)) (fun _ h_ => h_.1))) hb); have n1_ := Aside0.mk (Kd.R_below (by (with_reducible repeat (first | apply Kd.R_alloc | apply Kd.R_drewN | apply Kd.R_drew)); exact (Kd.R_mono (Kd.R_far (p := ⟨gb368, 1, none⟩) (Kd.R_far (p := ⟨gb368, 0, none⟩) (Kd.R_types HO365.out BK368.out (by decide)) (fun _ hk => hk.2) (.int .i64 t366)) (fun _ hk => hk.2) (.int .i64 t367)) (fun _ h_ => h_.1))) hb); have n2_ := Aside0.mk (blk_below (g := gb362) (o := .cells #[.int .i64 t360, .int .i64 t361] 25 (0, 0)) (by (with_reducible repeat (first | refine blk_drewN ?_ _ | refine blk_drew ?_ | refine blk_alloc ?_ _)); refine blk_far ?_ NB362_368.out _; (with_reducible repeat (first | refine blk_drewN ?_ _ | refine blk_drew ?_ | refine blk_alloc ?_ _)); refine blk_far ?_ NB362_368.out _; (with_reducible repeat (first | refine blk_drewN ?_ _ | refine blk_drew ?_ | refine blk_alloc ?_ _)); exact BK362.out) hb); have n3_ := Aside0.mk (blk_below (g := gb368) (o := .cells #[.int .i64 t366, .int .i64 t367] 25 (0, 0)) (by (with_reducible repeat (first | refine blk_drewN ?_ _ | refine blk_drew ?_ | refine blk_alloc ?_ _)); refine blk_put (cs := #[.int .i64 t366, .int .i64 0]) ?_ 1 _ rfl; (with_reducible repeat (first | refine blk_drewN ?_ _ | refine blk_drew ?_ | refine blk_alloc ?_ _)); refine blk_put (cs := #[.int .i64 0, .int .i64 0]) ?_ 0 _ rfl; (with_reducible repeat (first | refine blk_drewN ?_ _ | refine blk_drew ?_ | refine blk_alloc ?_ _)); exact BK368.out) hb); have n4_ := Aside0.mk (below_step (by repeat (first | (with_reducible first | exact HB.out | apply below_alloc | apply pw_below_drewN | apply below_drew1 | refine below_set ?_ GE362.out | refine below_set ?_ GE368.out) | exact HB.out)) hb); clear HO359; clear HO365; clear BK362; clear BK368; clear HB; have HO359 := n0_; have HO365 := n1_; have BK362 := n2_; have BK368 := n3_; have HB := n4_; clear n0_ n1_ n2_ n3_ n4_; (try clear hb); (try clear hb2); (try clear hk); (try clear hi); have hnb20 := NB362_368.out; have hnc20 := NB368_362.out; have hcz21_0 : w19.cell? ⟨gb362, 0, none⟩ = some (.int .i64 t360) := (blk_cell BK362.out 0).trans rfl; have hcz21_1 : w19.cell? ⟨gb362, 1, none⟩ = some (.int .i64 t361) := (blk_cell BK362.out 1).trans rfl; have hfz21_0 := blk_frozen BK362.out 0; have hfz21_1 := blk_frozen BK362.out 1; have hcz22_0 : w19.cell? ⟨gb368, 0, none⟩ = some (.int .i64 t366) := (blk_cell BK368.out 0).trans rfl; have hcz22_1 : w19.cell? ⟨gb368, 1, none⟩ = some (.int .i64 t367) := (blk_cell BK368.out 1).trans rfl; have hfz22_0 := blk_frozen BK368.out 0; have hfz22_1 := blk_frozen BK368.out 1)))
        go_meet
        case rel => exact ⟨_, ((t366 != 0)), (by first | rfl | (simp; done) | (simp [*]; done)), H', ⟨by first | omega | exact Nat.le_refl _⟩, ⟨by (with_reducible repeat (first | apply Kd.R_alloc | apply Kd.R_drewN | apply Kd.R_drew)); exact Kd.R_mono HO359.out (fun _ hk => hk.2)⟩, ⟨by (with_reducible repeat (first | apply Kd.R_alloc | apply Kd.R_drewN | apply Kd.R_drew)); exact Kd.R_mono HO365.out (fun _ hk => hk.2)⟩, ⟨by (with_reducible repeat (first | refine blk_drewN ?_ _ | refine blk_drew ?_ | refine blk_alloc ?_ _)); exact BK362.out⟩, ⟨by (with_reducible repeat (first | refine blk_drewN ?_ _ | refine blk_drew ?_ | refine blk_alloc ?_ _)); exact BK368.out⟩, ⟨by repeat (first | (with_reducible first | exact HB.out | apply below_alloc | apply pw_below_drewN | apply below_drew1 | refine below_set ?_ GE362.out | refine below_set ?_ GE368.out) | exact HB.out)⟩⟩
      · rw [if_neg c18] at H
        have c18b0 : (t360 == 0) = false := beq_eq_false_iff_ne.mpr c18
        have c18b1 : (t360 != 0) = true := bne_iff_ne.mpr c18
        (first | rw [c18b0] | (simp only [i64_w, i32_w]; rw [c18b0]) | skip)
        have H' := Aside0.mk H
        clear H
        go_wp2_with (first | (go_at_call 9; (with_reducible refine (changeforgelaw6_farms.calls k  true _ A16.out).mono ?_); rintro e w23 ⟨rfl, hb⟩; have n0_ := Aside0.mk (Kd.R_below (by (with_reducible repeat (first | apply Kd.R_alloc | apply Kd.R_drewN | apply Kd.R_drew)); exact (Kd.R_mono (Kd.R_far (p := ⟨gb368, 1, none⟩) (Kd.R_far (p := ⟨gb368, 0, none⟩) (Kd.R_types HO359.out BK368.out (by decide)) (fun _ hk => hk.2) (.int .i64 t366)) (fun _ hk => hk.2) (.int .i64 t367)) (fun _ h_ => h_.1))) hb); have n1_ := Aside0.mk (Kd.R_below (by (with_reducible repeat (first | apply Kd.R_alloc | apply Kd.R_drewN | apply Kd.R_drew)); exact (Kd.R_mono (Kd.R_far (p := ⟨gb368, 1, none⟩) (Kd.R_far (p := ⟨gb368, 0, none⟩) (Kd.R_types HO365.out BK368.out (by decide)) (fun _ hk => hk.2) (.int .i64 t366)) (fun _ hk => hk.2) (.int .i64 t367)) (fun _ h_ => h_.1))) hb); have n2_ := Aside0.mk (blk_below (g := gb362) (o := .cells #[.int .i64 t360, .int .i64 t361] 25 (0, 0)) (by (with_reducible repeat (first | refine blk_drewN ?_ _ | refine blk_drew ?_ | refine blk_alloc ?_ _)); refine blk_far ?_ NB362_368.out _; (with_reducible repeat (first | refine blk_drewN ?_ _ | refine blk_drew ?_ | refine blk_alloc ?_ _)); refine blk_far ?_ NB362_368.out _; (with_reducible repeat (first | refine blk_drewN ?_ _ | refine blk_drew ?_ | refine blk_alloc ?_ _)); exact BK362.out) hb); have n3_ := Aside0.mk (blk_below (g := gb368) (o := .cells #[.int .i64 t366, .int .i64 t367] 25 (0, 0)) (by (with_reducible repeat (first | refine blk_drewN ?_ _ | refine blk_drew ?_ | refine blk_alloc ?_ _)); refine blk_put (cs := #[.int .i64 t366, .int .i64 0]) ?_ 1 _ rfl; (with_reducible repeat (first | refine blk_drewN ?_ _ | refine blk_drew ?_ | refine blk_alloc ?_ _)); refine blk_put (cs := #[.int .i64 0, .int .i64 0]) ?_ 0 _ rfl; (with_reducible repeat (first | refine blk_drewN ?_ _ | refine blk_drew ?_ | refine blk_alloc ?_ _)); exact BK368.out) hb); have n4_ := Aside0.mk (below_step (by repeat (first | (with_reducible first | exact HB.out | apply below_alloc | apply pw_below_drewN | apply below_drew1 | refine below_set ?_ GE362.out | refine below_set ?_ GE368.out) | exact HB.out)) hb); clear HO359; clear HO365; clear BK362; clear BK368; clear HB; have HO359 := n0_; have HO365 := n1_; have BK362 := n2_; have BK368 := n3_; have HB := n4_; clear n0_ n1_ n2_ n3_ n4_; (try clear hb); (try clear hb2); (try clear hk); (try clear hi); have hnb24 := NB362_368.out; have hnc24 := NB368_362.out; have hcz25_0 : w23.cell? ⟨gb362, 0, none⟩ = some (.int .i64 t360) := (blk_cell BK362.out 0).trans rfl; have hcz25_1 : w23.cell? ⟨gb362, 1, none⟩ = some (.int .i64 t361) := (blk_cell BK362.out 1).trans rfl; have hfz25_0 := blk_frozen BK362.out 0; have hfz25_1 := blk_frozen BK362.out 1))
        repeat (go_quiet (first | (go_at_call 9; (with_reducible refine (changeforgelaw6_farms.calls k  true _ A16.out).mono ?_); rintro e w23 ⟨rfl, hb⟩; have n0_ := Aside0.mk (Kd.R_below (by (with_reducible repeat (first | apply Kd.R_alloc | apply Kd.R_drewN | apply Kd.R_drew)); exact (Kd.R_mono (Kd.R_far (p := ⟨gb368, 1, none⟩) (Kd.R_far (p := ⟨gb368, 0, none⟩) (Kd.R_types HO359.out BK368.out (by decide)) (fun _ hk => hk.2) (.int .i64 t366)) (fun _ hk => hk.2) (.int .i64 t367)) (fun _ h_ => h_.1))) hb); have n1_ := Aside0.mk (Kd.R_below (by (with_reducible repeat (first | apply Kd.R_alloc | apply Kd.R_drewN | apply Kd.R_drew)); exact (Kd.R_mono (Kd.R_far (p := ⟨gb368, 1, none⟩) (Kd.R_far (p := ⟨gb368, 0, none⟩) (Kd.R_types HO365.out BK368.out (by decide)) (fun _ hk => hk.2) (.int .i64 t366)) (fun _ hk => hk.2) (.int .i64 t367)) (fun _ h_ => h_.1))) hb); have n2_ := Aside0.mk (blk_below (g := gb362) (o := .cells #[.int .i64 t360, .int .i64 t361] 25 (0, 0)) (by (with_reducible repeat (first | refine blk_drewN ?_ _ | refine blk_drew ?_ | refine blk_alloc ?_ _)); refine blk_far ?_ NB362_368.out _; (with_reducible repeat (first | refine blk_drewN ?_ _ | refine blk_drew ?_ | refine blk_alloc ?_ _)); refine blk_far ?_ NB362_368.out _; (with_reducible repeat (first | refine blk_drewN ?_ _ | refine blk_drew ?_ | refine blk_alloc ?_ _)); exact BK362.out) hb); have n3_ := Aside0.mk (blk_below (g := gb368) (o := .cells #[.int .i64 t366, .int .i64 t367] 25 (0, 0)) (by (with_reducible repeat (first | refine blk_drewN ?_ _ | refine blk_drew ?_ | refine blk_alloc ?_ _)); refine blk_put (cs := #[.int .i64 t366, .int .i64 0]) ?_ 1 _ rfl; (with_reducible repeat (first | refine blk_drewN ?_ _ | refine blk_drew ?_ | refine blk_alloc ?_ _)); refine blk_put (cs := #[.int .i64 0, .int .i64 0]) ?_ 0 _ rfl; (with_reducible repeat (first | refine blk_drewN ?_ _ | refine blk_drew ?_ | refine blk_alloc ?_ _)); exact BK368.out) hb); have n4_ := Aside0.mk (below_step (by repeat (first | (with_reducible first | exact HB.out | apply below_alloc | apply pw_below_drewN | apply below_drew1 | refine below_set ?_ GE362.out | refine below_set ?_ GE368.out) | exact HB.out)) hb); clear HO359; clear HO365; clear BK362; clear BK368; clear HB; have HO359 := n0_; have HO365 := n1_; have BK362 := n2_; have BK368 := n3_; have HB := n4_; clear n0_ n1_ n2_ n3_ n4_; (try clear hb); (try clear hb2); (try clear hk); (try clear hi); have hnb24 := NB362_368.out; have hnc24 := NB368_362.out; have hcz25_0 : w23.cell? ⟨gb362, 0, none⟩ = some (.int .i64 t360) := (blk_cell BK362.out 0).trans rfl; have hcz25_1 : w23.cell? ⟨gb362, 1, none⟩ = some (.int .i64 t361) := (blk_cell BK362.out 1).trans rfl; have hfz25_0 := blk_frozen BK362.out 0; have hfz25_1 := blk_frozen BK362.out 1)); try go_wp2_with (first | (go_at_call 9; (with_reducible refine (changeforgelaw6_farms.calls k  true _ A16.out).mono ?_); rintro e w23 ⟨rfl, hb⟩; have n0_ := Aside0.mk (Kd.R_below (by (with_reducible repeat (first | apply Kd.R_alloc | apply Kd.R_drewN | apply Kd.R_drew)); exact (Kd.R_mono (Kd.R_far (p := ⟨gb368, 1, none⟩) (Kd.R_far (p := ⟨gb368, 0, none⟩) (Kd.R_types HO359.out BK368.out (by decide)) (fun _ hk => hk.2) (.int .i64 t366)) (fun _ hk => hk.2) (.int .i64 t367)) (fun _ h_ => h_.1))) hb); have n1_ := Aside0.mk (Kd.R_below (by (with_reducible repeat (first | apply Kd.R_alloc | apply Kd.R_drewN | apply Kd.R_drew)); exact (Kd.R_mono (Kd.R_far (p := ⟨gb368, 1, none⟩) (Kd.R_far (p := ⟨gb368, 0, none⟩) (Kd.R_types HO365.out BK368.out (by decide)) (fun _ hk => hk.2) (.int .i64 t366)) (fun _ hk => hk.2) (.int .i64 t367)) (fun _ h_ => h_.1))) hb); have n2_ := Aside0.mk (blk_below (g := gb362) (o := .cells #[.int .i64 t360, .int .i64 t361] 25 (0, 0)) (by (with_reducible repeat (first | refine blk_drewN ?_ _ | refine blk_drew ?_ | refine blk_alloc ?_ _)); refine blk_far ?_ NB362_368.out _; (with_reducible repeat (first | refine blk_drewN ?_ _ | refine blk_drew ?_ | refine blk_alloc ?_ _)); refine blk_far ?_ NB362_368.out _; (with_reducible repeat (first | refine blk_drewN ?_ _ | refine blk_drew ?_ | refine blk_alloc ?_ _)); exact BK362.out) hb); have n3_ := Aside0.mk (blk_below (g := gb368) (o := .cells #[.int .i64 t366, .int .i64 t367] 25 (0, 0)) (by (with_reducible repeat (first | refine blk_drewN ?_ _ | refine blk_drew ?_ | refine blk_alloc ?_ _)); refine blk_put (cs := #[.int .i64 t366, .int .i64 0]) ?_ 1 _ rfl; (with_reducible repeat (first | refine blk_drewN ?_ _ | refine blk_drew ?_ | refine blk_alloc ?_ _)); refine blk_put (cs := #[.int .i64 0, .int .i64 0]) ?_ 0 _ rfl; (with_reducible repeat (first | refine blk_drewN ?_ _ | refine blk_drew ?_ | refine blk_alloc ?_ _)); exact BK368.out) hb); have n4_ := Aside0.mk (below_step (by repeat (first | (with_reducible first | exact HB.out | apply below_alloc | apply pw_below_drewN | apply below_drew1 | refine below_set ?_ GE362.out | refine below_set ?_ GE368.out) | exact HB.out)) hb); clear HO359; clear HO365; clear BK362; clear BK368; clear HB; have HO359 := n0_; have HO365 := n1_; have BK362 := n2_; have BK368 := n3_; have HB := n4_; clear n0_ n1_ n2_ n3_ n4_; (try clear hb); (try clear hb2); (try clear hk); (try clear hi); have hnb24 := NB362_368.out; have hnc24 := NB368_362.out; have hcz25_0 : w23.cell? ⟨gb362, 0, none⟩ = some (.int .i64 t360) := (blk_cell BK362.out 0).trans rfl; have hcz25_1 : w23.cell? ⟨gb362, 1, none⟩ = some (.int .i64 t361) := (blk_cell BK362.out 1).trans rfl; have hfz25_0 := blk_frozen BK362.out 0; have hfz25_1 := blk_frozen BK362.out 1)))
        go_meet
        case rel => exact ⟨_, (true), (by first | rfl | (simp; done) | (simp [*]; done)), H', ⟨by first | omega | exact Nat.le_refl _⟩, ⟨by (with_reducible repeat (first | apply Kd.R_alloc | apply Kd.R_drewN | apply Kd.R_drew)); exact Kd.R_mono HO359.out (fun _ hk => hk.2)⟩, ⟨by (with_reducible repeat (first | apply Kd.R_alloc | apply Kd.R_drewN | apply Kd.R_drew)); exact Kd.R_mono HO365.out (fun _ hk => hk.2)⟩, ⟨by (with_reducible repeat (first | refine blk_drewN ?_ _ | refine blk_drew ?_ | refine blk_alloc ?_ _)); exact BK362.out⟩, ⟨by (with_reducible repeat (first | refine blk_drewN ?_ _ | refine blk_drew ?_ | refine blk_alloc ?_ _)); exact BK368.out⟩, ⟨by repeat (first | (with_reducible first | exact HB.out | apply below_alloc | apply pw_below_drewN | apply below_drew1 | refine below_set ?_ GE362.out | refine below_set ?_ GE368.out) | exact HB.out)⟩⟩
    · replace c17 := Bool.eq_false_iff.mpr c17
      subst c17
      have H1 : (changeforgelaw6_WorkersResultsHaveAQuorum.j0 k a2 a4 t357 t363 true t360 t361 t366 t367) = some r := by rw [if_neg (show ¬ (false = true) by decide)] at H; exact H
      clear H
      have H := H1
      clear H1
      have H' := Aside0.mk H
      clear H
      go_wp2_with (first | (go_at_call 9; (with_reducible refine (changeforgelaw6_farms.calls k  false _ A16.out).mono ?_); rintro e w26 ⟨rfl, hb⟩; have n0_ := Aside0.mk (Kd.R_below (by (with_reducible repeat (first | apply Kd.R_alloc | apply Kd.R_drewN | apply Kd.R_drew)); exact (Kd.R_mono (Kd.R_far (p := ⟨gb368, 1, none⟩) (Kd.R_far (p := ⟨gb368, 0, none⟩) (Kd.R_types HO359.out BK368.out (by decide)) (fun _ hk => hk.2) (.int .i64 t366)) (fun _ hk => hk.2) (.int .i64 t367)) (fun _ h_ => h_.1))) hb); have n1_ := Aside0.mk (Kd.R_below (by (with_reducible repeat (first | apply Kd.R_alloc | apply Kd.R_drewN | apply Kd.R_drew)); exact (Kd.R_mono (Kd.R_far (p := ⟨gb368, 1, none⟩) (Kd.R_far (p := ⟨gb368, 0, none⟩) (Kd.R_types HO365.out BK368.out (by decide)) (fun _ hk => hk.2) (.int .i64 t366)) (fun _ hk => hk.2) (.int .i64 t367)) (fun _ h_ => h_.1))) hb); have n2_ := Aside0.mk (blk_below (g := gb362) (o := .cells #[.int .i64 t360, .int .i64 t361] 25 (0, 0)) (by (with_reducible repeat (first | refine blk_drewN ?_ _ | refine blk_drew ?_ | refine blk_alloc ?_ _)); refine blk_far ?_ NB362_368.out _; (with_reducible repeat (first | refine blk_drewN ?_ _ | refine blk_drew ?_ | refine blk_alloc ?_ _)); refine blk_far ?_ NB362_368.out _; (with_reducible repeat (first | refine blk_drewN ?_ _ | refine blk_drew ?_ | refine blk_alloc ?_ _)); exact BK362.out) hb); have n3_ := Aside0.mk (blk_below (g := gb368) (o := .cells #[.int .i64 t366, .int .i64 t367] 25 (0, 0)) (by (with_reducible repeat (first | refine blk_drewN ?_ _ | refine blk_drew ?_ | refine blk_alloc ?_ _)); refine blk_put (cs := #[.int .i64 t366, .int .i64 0]) ?_ 1 _ rfl; (with_reducible repeat (first | refine blk_drewN ?_ _ | refine blk_drew ?_ | refine blk_alloc ?_ _)); refine blk_put (cs := #[.int .i64 0, .int .i64 0]) ?_ 0 _ rfl; (with_reducible repeat (first | refine blk_drewN ?_ _ | refine blk_drew ?_ | refine blk_alloc ?_ _)); exact BK368.out) hb); have n4_ := Aside0.mk (below_step (by repeat (first | (with_reducible first | exact HB.out | apply below_alloc | apply pw_below_drewN | apply below_drew1 | refine below_set ?_ GE362.out | refine below_set ?_ GE368.out) | exact HB.out)) hb); clear HO359; clear HO365; clear BK362; clear BK368; clear HB; have HO359 := n0_; have HO365 := n1_; have BK362 := n2_; have BK368 := n3_; have HB := n4_; clear n0_ n1_ n2_ n3_ n4_; (try clear hb); (try clear hb2); (try clear hk); (try clear hi)))
      repeat (go_quiet (first | (go_at_call 9; (with_reducible refine (changeforgelaw6_farms.calls k  false _ A16.out).mono ?_); rintro e w26 ⟨rfl, hb⟩; have n0_ := Aside0.mk (Kd.R_below (by (with_reducible repeat (first | apply Kd.R_alloc | apply Kd.R_drewN | apply Kd.R_drew)); exact (Kd.R_mono (Kd.R_far (p := ⟨gb368, 1, none⟩) (Kd.R_far (p := ⟨gb368, 0, none⟩) (Kd.R_types HO359.out BK368.out (by decide)) (fun _ hk => hk.2) (.int .i64 t366)) (fun _ hk => hk.2) (.int .i64 t367)) (fun _ h_ => h_.1))) hb); have n1_ := Aside0.mk (Kd.R_below (by (with_reducible repeat (first | apply Kd.R_alloc | apply Kd.R_drewN | apply Kd.R_drew)); exact (Kd.R_mono (Kd.R_far (p := ⟨gb368, 1, none⟩) (Kd.R_far (p := ⟨gb368, 0, none⟩) (Kd.R_types HO365.out BK368.out (by decide)) (fun _ hk => hk.2) (.int .i64 t366)) (fun _ hk => hk.2) (.int .i64 t367)) (fun _ h_ => h_.1))) hb); have n2_ := Aside0.mk (blk_below (g := gb362) (o := .cells #[.int .i64 t360, .int .i64 t361] 25 (0, 0)) (by (with_reducible repeat (first | refine blk_drewN ?_ _ | refine blk_drew ?_ | refine blk_alloc ?_ _)); refine blk_far ?_ NB362_368.out _; (with_reducible repeat (first | refine blk_drewN ?_ _ | refine blk_drew ?_ | refine blk_alloc ?_ _)); refine blk_far ?_ NB362_368.out _; (with_reducible repeat (first | refine blk_drewN ?_ _ | refine blk_drew ?_ | refine blk_alloc ?_ _)); exact BK362.out) hb); have n3_ := Aside0.mk (blk_below (g := gb368) (o := .cells #[.int .i64 t366, .int .i64 t367] 25 (0, 0)) (by (with_reducible repeat (first | refine blk_drewN ?_ _ | refine blk_drew ?_ | refine blk_alloc ?_ _)); refine blk_put (cs := #[.int .i64 t366, .int .i64 0]) ?_ 1 _ rfl; (with_reducible repeat (first | refine blk_drewN ?_ _ | refine blk_drew ?_ | refine blk_alloc ?_ _)); refine blk_put (cs := #[.int .i64 0, .int .i64 0]) ?_ 0 _ rfl; (with_reducible repeat (first | refine blk_drewN ?_ _ | refine blk_drew ?_ | refine blk_alloc ?_ _)); exact BK368.out) hb); have n4_ := Aside0.mk (below_step (by repeat (first | (with_reducible first | exact HB.out | apply below_alloc | apply pw_below_drewN | apply below_drew1 | refine below_set ?_ GE362.out | refine below_set ?_ GE368.out) | exact HB.out)) hb); clear HO359; clear HO365; clear BK362; clear BK368; clear HB; have HO359 := n0_; have HO365 := n1_; have BK362 := n2_; have BK368 := n3_; have HB := n4_; clear n0_ n1_ n2_ n3_ n4_; (try clear hb); (try clear hb2); (try clear hk); (try clear hi))); try go_wp2_with (first | (go_at_call 9; (with_reducible refine (changeforgelaw6_farms.calls k  false _ A16.out).mono ?_); rintro e w26 ⟨rfl, hb⟩; have n0_ := Aside0.mk (Kd.R_below (by (with_reducible repeat (first | apply Kd.R_alloc | apply Kd.R_drewN | apply Kd.R_drew)); exact (Kd.R_mono (Kd.R_far (p := ⟨gb368, 1, none⟩) (Kd.R_far (p := ⟨gb368, 0, none⟩) (Kd.R_types HO359.out BK368.out (by decide)) (fun _ hk => hk.2) (.int .i64 t366)) (fun _ hk => hk.2) (.int .i64 t367)) (fun _ h_ => h_.1))) hb); have n1_ := Aside0.mk (Kd.R_below (by (with_reducible repeat (first | apply Kd.R_alloc | apply Kd.R_drewN | apply Kd.R_drew)); exact (Kd.R_mono (Kd.R_far (p := ⟨gb368, 1, none⟩) (Kd.R_far (p := ⟨gb368, 0, none⟩) (Kd.R_types HO365.out BK368.out (by decide)) (fun _ hk => hk.2) (.int .i64 t366)) (fun _ hk => hk.2) (.int .i64 t367)) (fun _ h_ => h_.1))) hb); have n2_ := Aside0.mk (blk_below (g := gb362) (o := .cells #[.int .i64 t360, .int .i64 t361] 25 (0, 0)) (by (with_reducible repeat (first | refine blk_drewN ?_ _ | refine blk_drew ?_ | refine blk_alloc ?_ _)); refine blk_far ?_ NB362_368.out _; (with_reducible repeat (first | refine blk_drewN ?_ _ | refine blk_drew ?_ | refine blk_alloc ?_ _)); refine blk_far ?_ NB362_368.out _; (with_reducible repeat (first | refine blk_drewN ?_ _ | refine blk_drew ?_ | refine blk_alloc ?_ _)); exact BK362.out) hb); have n3_ := Aside0.mk (blk_below (g := gb368) (o := .cells #[.int .i64 t366, .int .i64 t367] 25 (0, 0)) (by (with_reducible repeat (first | refine blk_drewN ?_ _ | refine blk_drew ?_ | refine blk_alloc ?_ _)); refine blk_put (cs := #[.int .i64 t366, .int .i64 0]) ?_ 1 _ rfl; (with_reducible repeat (first | refine blk_drewN ?_ _ | refine blk_drew ?_ | refine blk_alloc ?_ _)); refine blk_put (cs := #[.int .i64 0, .int .i64 0]) ?_ 0 _ rfl; (with_reducible repeat (first | refine blk_drewN ?_ _ | refine blk_drew ?_ | refine blk_alloc ?_ _)); exact BK368.out) hb); have n4_ := Aside0.mk (below_step (by repeat (first | (with_reducible first | exact HB.out | apply below_alloc | apply pw_below_drewN | apply below_drew1 | refine below_set ?_ GE362.out | refine below_set ?_ GE368.out) | exact HB.out)) hb); clear HO359; clear HO365; clear BK362; clear BK368; clear HB; have HO359 := n0_; have HO365 := n1_; have BK362 := n2_; have BK368 := n3_; have HB := n4_; clear n0_ n1_ n2_ n3_ n4_; (try clear hb); (try clear hb2); (try clear hk); (try clear hi))))
      go_meet
      case rel => exact ⟨_, (true), (by first | rfl | (simp; done) | (simp [*]; done)), H', ⟨by first | omega | exact Nat.le_refl _⟩, ⟨by (with_reducible repeat (first | apply Kd.R_alloc | apply Kd.R_drewN | apply Kd.R_drew)); exact Kd.R_mono HO359.out (fun _ hk => hk.2)⟩, ⟨by (with_reducible repeat (first | apply Kd.R_alloc | apply Kd.R_drewN | apply Kd.R_drew)); exact Kd.R_mono HO365.out (fun _ hk => hk.2)⟩, ⟨by (with_reducible repeat (first | refine blk_drewN ?_ _ | refine blk_drew ?_ | refine blk_alloc ?_ _)); exact BK362.out⟩, ⟨by (with_reducible repeat (first | refine blk_drewN ?_ _ | refine blk_drew ?_ | refine blk_alloc ?_ _)); exact BK368.out⟩, ⟨by repeat (first | (with_reducible first | exact HB.out | apply below_alloc | apply pw_below_drewN | apply below_drew1 | refine below_set ?_ GE362.out | refine below_set ?_ GE368.out) | exact HB.out)⟩⟩
  case rest =>
    clear HC8
    try clear c1
    try clear c2
    try clear p2
    try clear c3
    try clear c6
    try clear c14
    try clear c17
    try clear c18
    try clear c18b0
    try clear c18b1
    try clear c20
    try clear c24
    try clear hcz11_0
    try clear hcz11_1
    try clear hcz15_0
    try clear hcz15_1
    try clear hcz21_0
    try clear hcz21_1
    try clear hcz22_0
    try clear hcz22_1
    try clear hcz25_0
    try clear hcz25_1
    try clear hfz11_0
    try clear hfz11_1
    try clear hfz15_0
    try clear hfz15_1
    try clear hfz21_0
    try clear hfz21_1
    try clear hfz22_0
    try clear hfz22_1
    try clear hfz25_0
    try clear hfz25_1
    obtain ⟨kq, x47_7, rfl, HA, HJ7, HO_11, HO_13, BK362, BK368, HB⟩ := hcut
    cases kq with
    | zero => exact absurd HA.out (by simp [changeforgelaw6_WorkersResultsHaveAQuorum.j0])
    | succ kj7 =>
      have H := HA.out
      clear HA
      simp only [changeforgelaw6_WorkersResultsHaveAQuorum.j0] at H
      by_cases c27 : x47_7 = true
      · subst c27
        have H1 : ((changeforgelaw6_farms.f kj7).bind fun t370 => (if t370 = true then (if t360 = 0 then (if t366 = 0 then (some true) else (some ((t363.length : Int) == 0))) else (if (t357.length : Int) = 0 then (if t366 = 0 then (some true) else (some ((t363.length : Int) == 0))) else (some false))) else (some false))) = some r := by rw [if_pos rfl] at H; exact H
        clear H
        have H := H1
        clear H1
        replace H := Option.bind_eq_some_iff.mp H
        obtain ⟨t370, A280, H⟩ := H
        replace H : (if t370 = true then (if t360 = 0 then (if t366 = 0 then (some true) else (some ((t363.length : Int) == 0))) else (if (t357.length : Int) = 0 then (if t366 = 0 then (some true) else (some ((t363.length : Int) == 0))) else (some false))) else (some false)) = some r := H
        have A28 := Aside0.mk A280
        clear A280
        by_cases c29 : t370 = true
        · subst c29
          have H1 : (if t360 = 0 then (if t366 = 0 then (some true) else (some ((t363.length : Int) == 0))) else (if (t357.length : Int) = 0 then (if t366 = 0 then (some true) else (some ((t363.length : Int) == 0))) else (some false))) = some r := by rw [if_pos rfl] at H; exact H
          clear H
          have H := H1
          clear H1
          by_cases c30 : t360 = 0
          · rw [if_pos c30] at H
            have c30b0 : (t360 == 0) = true := beq_iff_eq.mpr c30
            have c30b1 : (t360 != 0) = false := bne_eq_false_iff_eq.mpr c30
            clear c30
            by_cases c31 : t366 = 0
            · rw [if_pos c31] at H
              have c31b0 : (t366 == 0) = true := beq_iff_eq.mpr c31
              have c31b1 : (t366 != 0) = false := bne_eq_false_iff_eq.mpr c31
              clear c31
              obtain rfl := Option.some.inj H
              go_wp2_with (first | (go_at_call 9; (with_reducible refine (changeforgelaw6_farms.calls kj7  true _ A28.out).mono ?_); rintro e w32 ⟨rfl, hb⟩; have n0_ := Aside0.mk (Kd.R_below (by (with_reducible repeat (first | apply Kd.R_alloc | apply Kd.R_drewN | apply Kd.R_drew)); exact HO_11.out) hb); have n1_ := Aside0.mk (Kd.R_below (by (with_reducible repeat (first | apply Kd.R_alloc | apply Kd.R_drewN | apply Kd.R_drew)); exact HO_13.out) hb); have n2_ := Aside0.mk (blk_below (g := gb362) (o := .cells #[.int .i64 t360, .int .i64 t361] 25 (0, 0)) (by (with_reducible repeat (first | refine blk_drewN ?_ _ | refine blk_drew ?_ | refine blk_alloc ?_ _)); exact BK362.out) hb); have n3_ := Aside0.mk (blk_below (g := gb368) (o := .cells #[.int .i64 t366, .int .i64 t367] 25 (0, 0)) (by (with_reducible repeat (first | refine blk_drewN ?_ _ | refine blk_drew ?_ | refine blk_alloc ?_ _)); exact BK368.out) hb); have n4_ := Aside0.mk (below_step (by repeat (first | (with_reducible first | exact HB.out | apply below_alloc | apply pw_below_drewN | apply below_drew1 | refine below_set ?_ GE362.out | refine below_set ?_ GE368.out) | exact HB.out)) hb); clear HO_11; clear HO_13; clear BK362; clear BK368; clear HB; have HO_11 := n0_; have HO_13 := n1_; have BK362 := n2_; have BK368 := n3_; have HB := n4_; clear n0_ n1_ n2_ n3_ n4_; (try clear hb); (try clear hb2); (try clear hk); (try clear hi); have hnb33 := NB362_368.out; have hnc33 := NB368_362.out; have hcz34_0 : w32.cell? ⟨gb362, 0, none⟩ = some (.int .i64 t360) := (blk_cell BK362.out 0).trans rfl; have hcz34_1 : w32.cell? ⟨gb362, 1, none⟩ = some (.int .i64 t361) := (blk_cell BK362.out 1).trans rfl; have hfz34_0 := blk_frozen BK362.out 0; have hfz34_1 := blk_frozen BK362.out 1; have hcz35_0 : w32.cell? ⟨gb368, 0, none⟩ = some (.int .i64 t366) := (blk_cell BK368.out 0).trans rfl; have hcz35_1 : w32.cell? ⟨gb368, 1, none⟩ = some (.int .i64 t367) := (blk_cell BK368.out 1).trans rfl; have hfz35_0 := blk_frozen BK368.out 0; have hfz35_1 := blk_frozen BK368.out 1))
              repeat (go_quiet (first | (go_at_call 9; (with_reducible refine (changeforgelaw6_farms.calls kj7  true _ A28.out).mono ?_); rintro e w32 ⟨rfl, hb⟩; have n0_ := Aside0.mk (Kd.R_below (by (with_reducible repeat (first | apply Kd.R_alloc | apply Kd.R_drewN | apply Kd.R_drew)); exact HO_11.out) hb); have n1_ := Aside0.mk (Kd.R_below (by (with_reducible repeat (first | apply Kd.R_alloc | apply Kd.R_drewN | apply Kd.R_drew)); exact HO_13.out) hb); have n2_ := Aside0.mk (blk_below (g := gb362) (o := .cells #[.int .i64 t360, .int .i64 t361] 25 (0, 0)) (by (with_reducible repeat (first | refine blk_drewN ?_ _ | refine blk_drew ?_ | refine blk_alloc ?_ _)); exact BK362.out) hb); have n3_ := Aside0.mk (blk_below (g := gb368) (o := .cells #[.int .i64 t366, .int .i64 t367] 25 (0, 0)) (by (with_reducible repeat (first | refine blk_drewN ?_ _ | refine blk_drew ?_ | refine blk_alloc ?_ _)); exact BK368.out) hb); have n4_ := Aside0.mk (below_step (by repeat (first | (with_reducible first | exact HB.out | apply below_alloc | apply pw_below_drewN | apply below_drew1 | refine below_set ?_ GE362.out | refine below_set ?_ GE368.out) | exact HB.out)) hb); clear HO_11; clear HO_13; clear BK362; clear BK368; clear HB; have HO_11 := n0_; have HO_13 := n1_; have BK362 := n2_; have BK368 := n3_; have HB := n4_; clear n0_ n1_ n2_ n3_ n4_; (try clear hb); (try clear hb2); (try clear hk); (try clear hi); have hnb33 := NB362_368.out; have hnc33 := NB368_362.out; have hcz34_0 : w32.cell? ⟨gb362, 0, none⟩ = some (.int .i64 t360) := (blk_cell BK362.out 0).trans rfl; have hcz34_1 : w32.cell? ⟨gb362, 1, none⟩ = some (.int .i64 t361) := (blk_cell BK362.out 1).trans rfl; have hfz34_0 := blk_frozen BK362.out 0; have hfz34_1 := blk_frozen BK362.out 1; have hcz35_0 : w32.cell? ⟨gb368, 0, none⟩ = some (.int .i64 t366) := (blk_cell BK368.out 0).trans rfl; have hcz35_1 : w32.cell? ⟨gb368, 1, none⟩ = some (.int .i64 t367) := (blk_cell BK368.out 1).trans rfl; have hfz35_0 := blk_frozen BK368.out 0; have hfz35_1 := blk_frozen BK368.out 1)); try go_wp2_with (first | (go_at_call 9; (with_reducible refine (changeforgelaw6_farms.calls kj7  true _ A28.out).mono ?_); rintro e w32 ⟨rfl, hb⟩; have n0_ := Aside0.mk (Kd.R_below (by (with_reducible repeat (first | apply Kd.R_alloc | apply Kd.R_drewN | apply Kd.R_drew)); exact HO_11.out) hb); have n1_ := Aside0.mk (Kd.R_below (by (with_reducible repeat (first | apply Kd.R_alloc | apply Kd.R_drewN | apply Kd.R_drew)); exact HO_13.out) hb); have n2_ := Aside0.mk (blk_below (g := gb362) (o := .cells #[.int .i64 t360, .int .i64 t361] 25 (0, 0)) (by (with_reducible repeat (first | refine blk_drewN ?_ _ | refine blk_drew ?_ | refine blk_alloc ?_ _)); exact BK362.out) hb); have n3_ := Aside0.mk (blk_below (g := gb368) (o := .cells #[.int .i64 t366, .int .i64 t367] 25 (0, 0)) (by (with_reducible repeat (first | refine blk_drewN ?_ _ | refine blk_drew ?_ | refine blk_alloc ?_ _)); exact BK368.out) hb); have n4_ := Aside0.mk (below_step (by repeat (first | (with_reducible first | exact HB.out | apply below_alloc | apply pw_below_drewN | apply below_drew1 | refine below_set ?_ GE362.out | refine below_set ?_ GE368.out) | exact HB.out)) hb); clear HO_11; clear HO_13; clear BK362; clear BK368; clear HB; have HO_11 := n0_; have HO_13 := n1_; have BK362 := n2_; have BK368 := n3_; have HB := n4_; clear n0_ n1_ n2_ n3_ n4_; (try clear hb); (try clear hb2); (try clear hk); (try clear hi); have hnb33 := NB362_368.out; have hnc33 := NB368_362.out; have hcz34_0 : w32.cell? ⟨gb362, 0, none⟩ = some (.int .i64 t360) := (blk_cell BK362.out 0).trans rfl; have hcz34_1 : w32.cell? ⟨gb362, 1, none⟩ = some (.int .i64 t361) := (blk_cell BK362.out 1).trans rfl; have hfz34_0 := blk_frozen BK362.out 0; have hfz34_1 := blk_frozen BK362.out 1; have hcz35_0 : w32.cell? ⟨gb368, 0, none⟩ = some (.int .i64 t366) := (blk_cell BK368.out 0).trans rfl; have hcz35_1 : w32.cell? ⟨gb368, 1, none⟩ = some (.int .i64 t367) := (blk_cell BK368.out 1).trans rfl; have hfz35_0 := blk_frozen BK368.out 0; have hfz35_1 := blk_frozen BK368.out 1)))
              go_ret
              exact ⟨by first | rfl | (simp [errW_none, errW_some] <;> rfl) | (simp [*, errW_none, errW_some] <;> rfl), by repeat (first | (with_reducible first | exact HB.out | apply below_alloc | apply pw_below_drewN | apply below_drew1 | refine below_set ?_ GE362.out | refine below_set ?_ GE368.out) | exact HB.out)⟩
            · rw [if_neg c31] at H
              have c31b0 : (t366 == 0) = false := beq_eq_false_iff_ne.mpr c31
              have c31b1 : (t366 != 0) = true := bne_iff_ne.mpr c31
              obtain rfl := Option.some.inj H
              go_wp2_with (first | (go_at_call 9; (with_reducible refine (changeforgelaw6_farms.calls kj7  true _ A28.out).mono ?_); rintro e w36 ⟨rfl, hb⟩; have n0_ := Aside0.mk (Kd.R_below (by (with_reducible repeat (first | apply Kd.R_alloc | apply Kd.R_drewN | apply Kd.R_drew)); exact HO_11.out) hb); have n1_ := Aside0.mk (Kd.R_below (by (with_reducible repeat (first | apply Kd.R_alloc | apply Kd.R_drewN | apply Kd.R_drew)); exact HO_13.out) hb); have n2_ := Aside0.mk (blk_below (g := gb362) (o := .cells #[.int .i64 t360, .int .i64 t361] 25 (0, 0)) (by (with_reducible repeat (first | refine blk_drewN ?_ _ | refine blk_drew ?_ | refine blk_alloc ?_ _)); exact BK362.out) hb); have n3_ := Aside0.mk (blk_below (g := gb368) (o := .cells #[.int .i64 t366, .int .i64 t367] 25 (0, 0)) (by (with_reducible repeat (first | refine blk_drewN ?_ _ | refine blk_drew ?_ | refine blk_alloc ?_ _)); exact BK368.out) hb); have n4_ := Aside0.mk (below_step (by repeat (first | (with_reducible first | exact HB.out | apply below_alloc | apply pw_below_drewN | apply below_drew1 | refine below_set ?_ GE362.out | refine below_set ?_ GE368.out) | exact HB.out)) hb); clear HO_11; clear HO_13; clear BK362; clear BK368; clear HB; have HO_11 := n0_; have HO_13 := n1_; have BK362 := n2_; have BK368 := n3_; have HB := n4_; clear n0_ n1_ n2_ n3_ n4_; (try clear hb); (try clear hb2); (try clear hk); (try clear hi); have hnb37 := NB362_368.out; have hnc37 := NB368_362.out; have hcz38_0 : w36.cell? ⟨gb362, 0, none⟩ = some (.int .i64 t360) := (blk_cell BK362.out 0).trans rfl; have hcz38_1 : w36.cell? ⟨gb362, 1, none⟩ = some (.int .i64 t361) := (blk_cell BK362.out 1).trans rfl; have hfz38_0 := blk_frozen BK362.out 0; have hfz38_1 := blk_frozen BK362.out 1; have hcz39_0 : w36.cell? ⟨gb368, 0, none⟩ = some (.int .i64 t366) := (blk_cell BK368.out 0).trans rfl; have hcz39_1 : w36.cell? ⟨gb368, 1, none⟩ = some (.int .i64 t367) := (blk_cell BK368.out 1).trans rfl; have hfz39_0 := blk_frozen BK368.out 0; have hfz39_1 := blk_frozen BK368.out 1; obtain ⟨Ao40, co40, eo40⟩ := Kd.R_slice HO_13.out; subst eo40))
              repeat (go_quiet (first | (go_at_call 9; (with_reducible refine (changeforgelaw6_farms.calls kj7  true _ A28.out).mono ?_); rintro e w36 ⟨rfl, hb⟩; have n0_ := Aside0.mk (Kd.R_below (by (with_reducible repeat (first | apply Kd.R_alloc | apply Kd.R_drewN | apply Kd.R_drew)); exact HO_11.out) hb); have n1_ := Aside0.mk (Kd.R_below (by (with_reducible repeat (first | apply Kd.R_alloc | apply Kd.R_drewN | apply Kd.R_drew)); exact HO_13.out) hb); have n2_ := Aside0.mk (blk_below (g := gb362) (o := .cells #[.int .i64 t360, .int .i64 t361] 25 (0, 0)) (by (with_reducible repeat (first | refine blk_drewN ?_ _ | refine blk_drew ?_ | refine blk_alloc ?_ _)); exact BK362.out) hb); have n3_ := Aside0.mk (blk_below (g := gb368) (o := .cells #[.int .i64 t366, .int .i64 t367] 25 (0, 0)) (by (with_reducible repeat (first | refine blk_drewN ?_ _ | refine blk_drew ?_ | refine blk_alloc ?_ _)); exact BK368.out) hb); have n4_ := Aside0.mk (below_step (by repeat (first | (with_reducible first | exact HB.out | apply below_alloc | apply pw_below_drewN | apply below_drew1 | refine below_set ?_ GE362.out | refine below_set ?_ GE368.out) | exact HB.out)) hb); clear HO_11; clear HO_13; clear BK362; clear BK368; clear HB; have HO_11 := n0_; have HO_13 := n1_; have BK362 := n2_; have BK368 := n3_; have HB := n4_; clear n0_ n1_ n2_ n3_ n4_; (try clear hb); (try clear hb2); (try clear hk); (try clear hi); have hnb37 := NB362_368.out; have hnc37 := NB368_362.out; have hcz38_0 : w36.cell? ⟨gb362, 0, none⟩ = some (.int .i64 t360) := (blk_cell BK362.out 0).trans rfl; have hcz38_1 : w36.cell? ⟨gb362, 1, none⟩ = some (.int .i64 t361) := (blk_cell BK362.out 1).trans rfl; have hfz38_0 := blk_frozen BK362.out 0; have hfz38_1 := blk_frozen BK362.out 1; have hcz39_0 : w36.cell? ⟨gb368, 0, none⟩ = some (.int .i64 t366) := (blk_cell BK368.out 0).trans rfl; have hcz39_1 : w36.cell? ⟨gb368, 1, none⟩ = some (.int .i64 t367) := (blk_cell BK368.out 1).trans rfl; have hfz39_0 := blk_frozen BK368.out 0; have hfz39_1 := blk_frozen BK368.out 1; obtain ⟨Ao40, co40, eo40⟩ := Kd.R_slice HO_13.out; subst eo40)); try go_wp2_with (first | (go_at_call 9; (with_reducible refine (changeforgelaw6_farms.calls kj7  true _ A28.out).mono ?_); rintro e w36 ⟨rfl, hb⟩; have n0_ := Aside0.mk (Kd.R_below (by (with_reducible repeat (first | apply Kd.R_alloc | apply Kd.R_drewN | apply Kd.R_drew)); exact HO_11.out) hb); have n1_ := Aside0.mk (Kd.R_below (by (with_reducible repeat (first | apply Kd.R_alloc | apply Kd.R_drewN | apply Kd.R_drew)); exact HO_13.out) hb); have n2_ := Aside0.mk (blk_below (g := gb362) (o := .cells #[.int .i64 t360, .int .i64 t361] 25 (0, 0)) (by (with_reducible repeat (first | refine blk_drewN ?_ _ | refine blk_drew ?_ | refine blk_alloc ?_ _)); exact BK362.out) hb); have n3_ := Aside0.mk (blk_below (g := gb368) (o := .cells #[.int .i64 t366, .int .i64 t367] 25 (0, 0)) (by (with_reducible repeat (first | refine blk_drewN ?_ _ | refine blk_drew ?_ | refine blk_alloc ?_ _)); exact BK368.out) hb); have n4_ := Aside0.mk (below_step (by repeat (first | (with_reducible first | exact HB.out | apply below_alloc | apply pw_below_drewN | apply below_drew1 | refine below_set ?_ GE362.out | refine below_set ?_ GE368.out) | exact HB.out)) hb); clear HO_11; clear HO_13; clear BK362; clear BK368; clear HB; have HO_11 := n0_; have HO_13 := n1_; have BK362 := n2_; have BK368 := n3_; have HB := n4_; clear n0_ n1_ n2_ n3_ n4_; (try clear hb); (try clear hb2); (try clear hk); (try clear hi); have hnb37 := NB362_368.out; have hnc37 := NB368_362.out; have hcz38_0 : w36.cell? ⟨gb362, 0, none⟩ = some (.int .i64 t360) := (blk_cell BK362.out 0).trans rfl; have hcz38_1 : w36.cell? ⟨gb362, 1, none⟩ = some (.int .i64 t361) := (blk_cell BK362.out 1).trans rfl; have hfz38_0 := blk_frozen BK362.out 0; have hfz38_1 := blk_frozen BK362.out 1; have hcz39_0 : w36.cell? ⟨gb368, 0, none⟩ = some (.int .i64 t366) := (blk_cell BK368.out 0).trans rfl; have hcz39_1 : w36.cell? ⟨gb368, 1, none⟩ = some (.int .i64 t367) := (blk_cell BK368.out 1).trans rfl; have hfz39_0 := blk_frozen BK368.out 0; have hfz39_1 := blk_frozen BK368.out 1; obtain ⟨Ao40, co40, eo40⟩ := Kd.R_slice HO_13.out; subst eo40)))
              go_ret
              exact ⟨by first | rfl | (simp [errW_none, errW_some] <;> rfl) | (simp [*, errW_none, errW_some] <;> rfl), by repeat (first | (with_reducible first | exact HB.out | apply below_alloc | apply pw_below_drewN | apply below_drew1 | refine below_set ?_ GE362.out | refine below_set ?_ GE368.out) | exact HB.out)⟩
          · rw [if_neg c30] at H
            have c30b0 : (t360 == 0) = false := beq_eq_false_iff_ne.mpr c30
            have c30b1 : (t360 != 0) = true := bne_iff_ne.mpr c30
            by_cases c41 : (t357.length : Int) = 0
            · rw [if_pos c41] at H
              have c41b0 : ((t357.length : Int) == 0) = true := beq_iff_eq.mpr c41
              have c41b1 : ((t357.length : Int) != 0) = false := bne_eq_false_iff_eq.mpr c41
              clear c41
              by_cases c42 : t366 = 0
              · rw [if_pos c42] at H
                have c42b0 : (t366 == 0) = true := beq_iff_eq.mpr c42
                have c42b1 : (t366 != 0) = false := bne_eq_false_iff_eq.mpr c42
                clear c42
                obtain rfl := Option.some.inj H
                go_wp2_with (first | (go_at_call 9; (with_reducible refine (changeforgelaw6_farms.calls kj7  true _ A28.out).mono ?_); rintro e w43 ⟨rfl, hb⟩; have n0_ := Aside0.mk (Kd.R_below (by (with_reducible repeat (first | apply Kd.R_alloc | apply Kd.R_drewN | apply Kd.R_drew)); exact HO_11.out) hb); have n1_ := Aside0.mk (Kd.R_below (by (with_reducible repeat (first | apply Kd.R_alloc | apply Kd.R_drewN | apply Kd.R_drew)); exact HO_13.out) hb); have n2_ := Aside0.mk (blk_below (g := gb362) (o := .cells #[.int .i64 t360, .int .i64 t361] 25 (0, 0)) (by (with_reducible repeat (first | refine blk_drewN ?_ _ | refine blk_drew ?_ | refine blk_alloc ?_ _)); exact BK362.out) hb); have n3_ := Aside0.mk (blk_below (g := gb368) (o := .cells #[.int .i64 t366, .int .i64 t367] 25 (0, 0)) (by (with_reducible repeat (first | refine blk_drewN ?_ _ | refine blk_drew ?_ | refine blk_alloc ?_ _)); exact BK368.out) hb); have n4_ := Aside0.mk (below_step (by repeat (first | (with_reducible first | exact HB.out | apply below_alloc | apply pw_below_drewN | apply below_drew1 | refine below_set ?_ GE362.out | refine below_set ?_ GE368.out) | exact HB.out)) hb); clear HO_11; clear HO_13; clear BK362; clear BK368; clear HB; have HO_11 := n0_; have HO_13 := n1_; have BK362 := n2_; have BK368 := n3_; have HB := n4_; clear n0_ n1_ n2_ n3_ n4_; (try clear hb); (try clear hb2); (try clear hk); (try clear hi); have hnb44 := NB362_368.out; have hnc44 := NB368_362.out; have hcz45_0 : w43.cell? ⟨gb362, 0, none⟩ = some (.int .i64 t360) := (blk_cell BK362.out 0).trans rfl; have hcz45_1 : w43.cell? ⟨gb362, 1, none⟩ = some (.int .i64 t361) := (blk_cell BK362.out 1).trans rfl; have hfz45_0 := blk_frozen BK362.out 0; have hfz45_1 := blk_frozen BK362.out 1; obtain ⟨Ao46, co46, eo46⟩ := Kd.R_slice HO_11.out; subst eo46; have hcz47_0 : w43.cell? ⟨gb368, 0, none⟩ = some (.int .i64 t366) := (blk_cell BK368.out 0).trans rfl; have hcz47_1 : w43.cell? ⟨gb368, 1, none⟩ = some (.int .i64 t367) := (blk_cell BK368.out 1).trans rfl; have hfz47_0 := blk_frozen BK368.out 0; have hfz47_1 := blk_frozen BK368.out 1))
                repeat (go_quiet (first | (go_at_call 9; (with_reducible refine (changeforgelaw6_farms.calls kj7  true _ A28.out).mono ?_); rintro e w43 ⟨rfl, hb⟩; have n0_ := Aside0.mk (Kd.R_below (by (with_reducible repeat (first | apply Kd.R_alloc | apply Kd.R_drewN | apply Kd.R_drew)); exact HO_11.out) hb); have n1_ := Aside0.mk (Kd.R_below (by (with_reducible repeat (first | apply Kd.R_alloc | apply Kd.R_drewN | apply Kd.R_drew)); exact HO_13.out) hb); have n2_ := Aside0.mk (blk_below (g := gb362) (o := .cells #[.int .i64 t360, .int .i64 t361] 25 (0, 0)) (by (with_reducible repeat (first | refine blk_drewN ?_ _ | refine blk_drew ?_ | refine blk_alloc ?_ _)); exact BK362.out) hb); have n3_ := Aside0.mk (blk_below (g := gb368) (o := .cells #[.int .i64 t366, .int .i64 t367] 25 (0, 0)) (by (with_reducible repeat (first | refine blk_drewN ?_ _ | refine blk_drew ?_ | refine blk_alloc ?_ _)); exact BK368.out) hb); have n4_ := Aside0.mk (below_step (by repeat (first | (with_reducible first | exact HB.out | apply below_alloc | apply pw_below_drewN | apply below_drew1 | refine below_set ?_ GE362.out | refine below_set ?_ GE368.out) | exact HB.out)) hb); clear HO_11; clear HO_13; clear BK362; clear BK368; clear HB; have HO_11 := n0_; have HO_13 := n1_; have BK362 := n2_; have BK368 := n3_; have HB := n4_; clear n0_ n1_ n2_ n3_ n4_; (try clear hb); (try clear hb2); (try clear hk); (try clear hi); have hnb44 := NB362_368.out; have hnc44 := NB368_362.out; have hcz45_0 : w43.cell? ⟨gb362, 0, none⟩ = some (.int .i64 t360) := (blk_cell BK362.out 0).trans rfl; have hcz45_1 : w43.cell? ⟨gb362, 1, none⟩ = some (.int .i64 t361) := (blk_cell BK362.out 1).trans rfl; have hfz45_0 := blk_frozen BK362.out 0; have hfz45_1 := blk_frozen BK362.out 1; obtain ⟨Ao46, co46, eo46⟩ := Kd.R_slice HO_11.out; subst eo46; have hcz47_0 : w43.cell? ⟨gb368, 0, none⟩ = some (.int .i64 t366) := (blk_cell BK368.out 0).trans rfl; have hcz47_1 : w43.cell? ⟨gb368, 1, none⟩ = some (.int .i64 t367) := (blk_cell BK368.out 1).trans rfl; have hfz47_0 := blk_frozen BK368.out 0; have hfz47_1 := blk_frozen BK368.out 1)); try go_wp2_with (first | (go_at_call 9; (with_reducible refine (changeforgelaw6_farms.calls kj7  true _ A28.out).mono ?_); rintro e w43 ⟨rfl, hb⟩; have n0_ := Aside0.mk (Kd.R_below (by (with_reducible repeat (first | apply Kd.R_alloc | apply Kd.R_drewN | apply Kd.R_drew)); exact HO_11.out) hb); have n1_ := Aside0.mk (Kd.R_below (by (with_reducible repeat (first | apply Kd.R_alloc | apply Kd.R_drewN | apply Kd.R_drew)); exact HO_13.out) hb); have n2_ := Aside0.mk (blk_below (g := gb362) (o := .cells #[.int .i64 t360, .int .i64 t361] 25 (0, 0)) (by (with_reducible repeat (first | refine blk_drewN ?_ _ | refine blk_drew ?_ | refine blk_alloc ?_ _)); exact BK362.out) hb); have n3_ := Aside0.mk (blk_below (g := gb368) (o := .cells #[.int .i64 t366, .int .i64 t367] 25 (0, 0)) (by (with_reducible repeat (first | refine blk_drewN ?_ _ | refine blk_drew ?_ | refine blk_alloc ?_ _)); exact BK368.out) hb); have n4_ := Aside0.mk (below_step (by repeat (first | (with_reducible first | exact HB.out | apply below_alloc | apply pw_below_drewN | apply below_drew1 | refine below_set ?_ GE362.out | refine below_set ?_ GE368.out) | exact HB.out)) hb); clear HO_11; clear HO_13; clear BK362; clear BK368; clear HB; have HO_11 := n0_; have HO_13 := n1_; have BK362 := n2_; have BK368 := n3_; have HB := n4_; clear n0_ n1_ n2_ n3_ n4_; (try clear hb); (try clear hb2); (try clear hk); (try clear hi); have hnb44 := NB362_368.out; have hnc44 := NB368_362.out; have hcz45_0 : w43.cell? ⟨gb362, 0, none⟩ = some (.int .i64 t360) := (blk_cell BK362.out 0).trans rfl; have hcz45_1 : w43.cell? ⟨gb362, 1, none⟩ = some (.int .i64 t361) := (blk_cell BK362.out 1).trans rfl; have hfz45_0 := blk_frozen BK362.out 0; have hfz45_1 := blk_frozen BK362.out 1; obtain ⟨Ao46, co46, eo46⟩ := Kd.R_slice HO_11.out; subst eo46; have hcz47_0 : w43.cell? ⟨gb368, 0, none⟩ = some (.int .i64 t366) := (blk_cell BK368.out 0).trans rfl; have hcz47_1 : w43.cell? ⟨gb368, 1, none⟩ = some (.int .i64 t367) := (blk_cell BK368.out 1).trans rfl; have hfz47_0 := blk_frozen BK368.out 0; have hfz47_1 := blk_frozen BK368.out 1)))
                go_ret
                exact ⟨by first | rfl | (simp [errW_none, errW_some] <;> rfl) | (simp [*, errW_none, errW_some] <;> rfl), by repeat (first | (with_reducible first | exact HB.out | apply below_alloc | apply pw_below_drewN | apply below_drew1 | refine below_set ?_ GE362.out | refine below_set ?_ GE368.out) | exact HB.out)⟩
              · rw [if_neg c42] at H
                have c42b0 : (t366 == 0) = false := beq_eq_false_iff_ne.mpr c42
                have c42b1 : (t366 != 0) = true := bne_iff_ne.mpr c42
                obtain rfl := Option.some.inj H
                go_wp2_with (first | (go_at_call 9; (with_reducible refine (changeforgelaw6_farms.calls kj7  true _ A28.out).mono ?_); rintro e w48 ⟨rfl, hb⟩; have n0_ := Aside0.mk (Kd.R_below (by (with_reducible repeat (first | apply Kd.R_alloc | apply Kd.R_drewN | apply Kd.R_drew)); exact HO_11.out) hb); have n1_ := Aside0.mk (Kd.R_below (by (with_reducible repeat (first | apply Kd.R_alloc | apply Kd.R_drewN | apply Kd.R_drew)); exact HO_13.out) hb); have n2_ := Aside0.mk (blk_below (g := gb362) (o := .cells #[.int .i64 t360, .int .i64 t361] 25 (0, 0)) (by (with_reducible repeat (first | refine blk_drewN ?_ _ | refine blk_drew ?_ | refine blk_alloc ?_ _)); exact BK362.out) hb); have n3_ := Aside0.mk (blk_below (g := gb368) (o := .cells #[.int .i64 t366, .int .i64 t367] 25 (0, 0)) (by (with_reducible repeat (first | refine blk_drewN ?_ _ | refine blk_drew ?_ | refine blk_alloc ?_ _)); exact BK368.out) hb); have n4_ := Aside0.mk (below_step (by repeat (first | (with_reducible first | exact HB.out | apply below_alloc | apply pw_below_drewN | apply below_drew1 | refine below_set ?_ GE362.out | refine below_set ?_ GE368.out) | exact HB.out)) hb); clear HO_11; clear HO_13; clear BK362; clear BK368; clear HB; have HO_11 := n0_; have HO_13 := n1_; have BK362 := n2_; have BK368 := n3_; have HB := n4_; clear n0_ n1_ n2_ n3_ n4_; (try clear hb); (try clear hb2); (try clear hk); (try clear hi); have hnb49 := NB362_368.out; have hnc49 := NB368_362.out; have hcz50_0 : w48.cell? ⟨gb362, 0, none⟩ = some (.int .i64 t360) := (blk_cell BK362.out 0).trans rfl; have hcz50_1 : w48.cell? ⟨gb362, 1, none⟩ = some (.int .i64 t361) := (blk_cell BK362.out 1).trans rfl; have hfz50_0 := blk_frozen BK362.out 0; have hfz50_1 := blk_frozen BK362.out 1; obtain ⟨Ao51, co51, eo51⟩ := Kd.R_slice HO_11.out; subst eo51; have hcz52_0 : w48.cell? ⟨gb368, 0, none⟩ = some (.int .i64 t366) := (blk_cell BK368.out 0).trans rfl; have hcz52_1 : w48.cell? ⟨gb368, 1, none⟩ = some (.int .i64 t367) := (blk_cell BK368.out 1).trans rfl; have hfz52_0 := blk_frozen BK368.out 0; have hfz52_1 := blk_frozen BK368.out 1; obtain ⟨Ao53, co53, eo53⟩ := Kd.R_slice HO_13.out; subst eo53))
                repeat (go_quiet (first | (go_at_call 9; (with_reducible refine (changeforgelaw6_farms.calls kj7  true _ A28.out).mono ?_); rintro e w48 ⟨rfl, hb⟩; have n0_ := Aside0.mk (Kd.R_below (by (with_reducible repeat (first | apply Kd.R_alloc | apply Kd.R_drewN | apply Kd.R_drew)); exact HO_11.out) hb); have n1_ := Aside0.mk (Kd.R_below (by (with_reducible repeat (first | apply Kd.R_alloc | apply Kd.R_drewN | apply Kd.R_drew)); exact HO_13.out) hb); have n2_ := Aside0.mk (blk_below (g := gb362) (o := .cells #[.int .i64 t360, .int .i64 t361] 25 (0, 0)) (by (with_reducible repeat (first | refine blk_drewN ?_ _ | refine blk_drew ?_ | refine blk_alloc ?_ _)); exact BK362.out) hb); have n3_ := Aside0.mk (blk_below (g := gb368) (o := .cells #[.int .i64 t366, .int .i64 t367] 25 (0, 0)) (by (with_reducible repeat (first | refine blk_drewN ?_ _ | refine blk_drew ?_ | refine blk_alloc ?_ _)); exact BK368.out) hb); have n4_ := Aside0.mk (below_step (by repeat (first | (with_reducible first | exact HB.out | apply below_alloc | apply pw_below_drewN | apply below_drew1 | refine below_set ?_ GE362.out | refine below_set ?_ GE368.out) | exact HB.out)) hb); clear HO_11; clear HO_13; clear BK362; clear BK368; clear HB; have HO_11 := n0_; have HO_13 := n1_; have BK362 := n2_; have BK368 := n3_; have HB := n4_; clear n0_ n1_ n2_ n3_ n4_; (try clear hb); (try clear hb2); (try clear hk); (try clear hi); have hnb49 := NB362_368.out; have hnc49 := NB368_362.out; have hcz50_0 : w48.cell? ⟨gb362, 0, none⟩ = some (.int .i64 t360) := (blk_cell BK362.out 0).trans rfl; have hcz50_1 : w48.cell? ⟨gb362, 1, none⟩ = some (.int .i64 t361) := (blk_cell BK362.out 1).trans rfl; have hfz50_0 := blk_frozen BK362.out 0; have hfz50_1 := blk_frozen BK362.out 1; obtain ⟨Ao51, co51, eo51⟩ := Kd.R_slice HO_11.out; subst eo51; have hcz52_0 : w48.cell? ⟨gb368, 0, none⟩ = some (.int .i64 t366) := (blk_cell BK368.out 0).trans rfl; have hcz52_1 : w48.cell? ⟨gb368, 1, none⟩ = some (.int .i64 t367) := (blk_cell BK368.out 1).trans rfl; have hfz52_0 := blk_frozen BK368.out 0; have hfz52_1 := blk_frozen BK368.out 1; obtain ⟨Ao53, co53, eo53⟩ := Kd.R_slice HO_13.out; subst eo53)); try go_wp2_with (first | (go_at_call 9; (with_reducible refine (changeforgelaw6_farms.calls kj7  true _ A28.out).mono ?_); rintro e w48 ⟨rfl, hb⟩; have n0_ := Aside0.mk (Kd.R_below (by (with_reducible repeat (first | apply Kd.R_alloc | apply Kd.R_drewN | apply Kd.R_drew)); exact HO_11.out) hb); have n1_ := Aside0.mk (Kd.R_below (by (with_reducible repeat (first | apply Kd.R_alloc | apply Kd.R_drewN | apply Kd.R_drew)); exact HO_13.out) hb); have n2_ := Aside0.mk (blk_below (g := gb362) (o := .cells #[.int .i64 t360, .int .i64 t361] 25 (0, 0)) (by (with_reducible repeat (first | refine blk_drewN ?_ _ | refine blk_drew ?_ | refine blk_alloc ?_ _)); exact BK362.out) hb); have n3_ := Aside0.mk (blk_below (g := gb368) (o := .cells #[.int .i64 t366, .int .i64 t367] 25 (0, 0)) (by (with_reducible repeat (first | refine blk_drewN ?_ _ | refine blk_drew ?_ | refine blk_alloc ?_ _)); exact BK368.out) hb); have n4_ := Aside0.mk (below_step (by repeat (first | (with_reducible first | exact HB.out | apply below_alloc | apply pw_below_drewN | apply below_drew1 | refine below_set ?_ GE362.out | refine below_set ?_ GE368.out) | exact HB.out)) hb); clear HO_11; clear HO_13; clear BK362; clear BK368; clear HB; have HO_11 := n0_; have HO_13 := n1_; have BK362 := n2_; have BK368 := n3_; have HB := n4_; clear n0_ n1_ n2_ n3_ n4_; (try clear hb); (try clear hb2); (try clear hk); (try clear hi); have hnb49 := NB362_368.out; have hnc49 := NB368_362.out; have hcz50_0 : w48.cell? ⟨gb362, 0, none⟩ = some (.int .i64 t360) := (blk_cell BK362.out 0).trans rfl; have hcz50_1 : w48.cell? ⟨gb362, 1, none⟩ = some (.int .i64 t361) := (blk_cell BK362.out 1).trans rfl; have hfz50_0 := blk_frozen BK362.out 0; have hfz50_1 := blk_frozen BK362.out 1; obtain ⟨Ao51, co51, eo51⟩ := Kd.R_slice HO_11.out; subst eo51; have hcz52_0 : w48.cell? ⟨gb368, 0, none⟩ = some (.int .i64 t366) := (blk_cell BK368.out 0).trans rfl; have hcz52_1 : w48.cell? ⟨gb368, 1, none⟩ = some (.int .i64 t367) := (blk_cell BK368.out 1).trans rfl; have hfz52_0 := blk_frozen BK368.out 0; have hfz52_1 := blk_frozen BK368.out 1; obtain ⟨Ao53, co53, eo53⟩ := Kd.R_slice HO_13.out; subst eo53)))
                go_ret
                exact ⟨by first | rfl | (simp [errW_none, errW_some] <;> rfl) | (simp [*, errW_none, errW_some] <;> rfl), by repeat (first | (with_reducible first | exact HB.out | apply below_alloc | apply pw_below_drewN | apply below_drew1 | refine below_set ?_ GE362.out | refine below_set ?_ GE368.out) | exact HB.out)⟩
            · rw [if_neg c41] at H
              have c41b0 : ((t357.length : Int) == 0) = false := beq_eq_false_iff_ne.mpr c41
              have c41b1 : ((t357.length : Int) != 0) = true := bne_iff_ne.mpr c41
              have c41b2 : ¬ (t357 = []) := fun h_ => c41 (by rw [h_]; rfl)
              obtain rfl := Option.some.inj H
              go_wp2_with (first | (go_at_call 9; (with_reducible refine (changeforgelaw6_farms.calls kj7  true _ A28.out).mono ?_); rintro e w54 ⟨rfl, hb⟩; have n0_ := Aside0.mk (Kd.R_below (by (with_reducible repeat (first | apply Kd.R_alloc | apply Kd.R_drewN | apply Kd.R_drew)); exact HO_11.out) hb); have n1_ := Aside0.mk (Kd.R_below (by (with_reducible repeat (first | apply Kd.R_alloc | apply Kd.R_drewN | apply Kd.R_drew)); exact HO_13.out) hb); have n2_ := Aside0.mk (blk_below (g := gb362) (o := .cells #[.int .i64 t360, .int .i64 t361] 25 (0, 0)) (by (with_reducible repeat (first | refine blk_drewN ?_ _ | refine blk_drew ?_ | refine blk_alloc ?_ _)); exact BK362.out) hb); have n3_ := Aside0.mk (blk_below (g := gb368) (o := .cells #[.int .i64 t366, .int .i64 t367] 25 (0, 0)) (by (with_reducible repeat (first | refine blk_drewN ?_ _ | refine blk_drew ?_ | refine blk_alloc ?_ _)); exact BK368.out) hb); have n4_ := Aside0.mk (below_step (by repeat (first | (with_reducible first | exact HB.out | apply below_alloc | apply pw_below_drewN | apply below_drew1 | refine below_set ?_ GE362.out | refine below_set ?_ GE368.out) | exact HB.out)) hb); clear HO_11; clear HO_13; clear BK362; clear BK368; clear HB; have HO_11 := n0_; have HO_13 := n1_; have BK362 := n2_; have BK368 := n3_; have HB := n4_; clear n0_ n1_ n2_ n3_ n4_; (try clear hb); (try clear hb2); (try clear hk); (try clear hi); have hnb55 := NB362_368.out; have hnc55 := NB368_362.out; have hcz56_0 : w54.cell? ⟨gb362, 0, none⟩ = some (.int .i64 t360) := (blk_cell BK362.out 0).trans rfl; have hcz56_1 : w54.cell? ⟨gb362, 1, none⟩ = some (.int .i64 t361) := (blk_cell BK362.out 1).trans rfl; have hfz56_0 := blk_frozen BK362.out 0; have hfz56_1 := blk_frozen BK362.out 1; obtain ⟨Ao57, co57, eo57⟩ := Kd.R_slice HO_11.out; subst eo57))
              repeat (go_quiet (first | (go_at_call 9; (with_reducible refine (changeforgelaw6_farms.calls kj7  true _ A28.out).mono ?_); rintro e w54 ⟨rfl, hb⟩; have n0_ := Aside0.mk (Kd.R_below (by (with_reducible repeat (first | apply Kd.R_alloc | apply Kd.R_drewN | apply Kd.R_drew)); exact HO_11.out) hb); have n1_ := Aside0.mk (Kd.R_below (by (with_reducible repeat (first | apply Kd.R_alloc | apply Kd.R_drewN | apply Kd.R_drew)); exact HO_13.out) hb); have n2_ := Aside0.mk (blk_below (g := gb362) (o := .cells #[.int .i64 t360, .int .i64 t361] 25 (0, 0)) (by (with_reducible repeat (first | refine blk_drewN ?_ _ | refine blk_drew ?_ | refine blk_alloc ?_ _)); exact BK362.out) hb); have n3_ := Aside0.mk (blk_below (g := gb368) (o := .cells #[.int .i64 t366, .int .i64 t367] 25 (0, 0)) (by (with_reducible repeat (first | refine blk_drewN ?_ _ | refine blk_drew ?_ | refine blk_alloc ?_ _)); exact BK368.out) hb); have n4_ := Aside0.mk (below_step (by repeat (first | (with_reducible first | exact HB.out | apply below_alloc | apply pw_below_drewN | apply below_drew1 | refine below_set ?_ GE362.out | refine below_set ?_ GE368.out) | exact HB.out)) hb); clear HO_11; clear HO_13; clear BK362; clear BK368; clear HB; have HO_11 := n0_; have HO_13 := n1_; have BK362 := n2_; have BK368 := n3_; have HB := n4_; clear n0_ n1_ n2_ n3_ n4_; (try clear hb); (try clear hb2); (try clear hk); (try clear hi); have hnb55 := NB362_368.out; have hnc55 := NB368_362.out; have hcz56_0 : w54.cell? ⟨gb362, 0, none⟩ = some (.int .i64 t360) := (blk_cell BK362.out 0).trans rfl; have hcz56_1 : w54.cell? ⟨gb362, 1, none⟩ = some (.int .i64 t361) := (blk_cell BK362.out 1).trans rfl; have hfz56_0 := blk_frozen BK362.out 0; have hfz56_1 := blk_frozen BK362.out 1; obtain ⟨Ao57, co57, eo57⟩ := Kd.R_slice HO_11.out; subst eo57)); try go_wp2_with (first | (go_at_call 9; (with_reducible refine (changeforgelaw6_farms.calls kj7  true _ A28.out).mono ?_); rintro e w54 ⟨rfl, hb⟩; have n0_ := Aside0.mk (Kd.R_below (by (with_reducible repeat (first | apply Kd.R_alloc | apply Kd.R_drewN | apply Kd.R_drew)); exact HO_11.out) hb); have n1_ := Aside0.mk (Kd.R_below (by (with_reducible repeat (first | apply Kd.R_alloc | apply Kd.R_drewN | apply Kd.R_drew)); exact HO_13.out) hb); have n2_ := Aside0.mk (blk_below (g := gb362) (o := .cells #[.int .i64 t360, .int .i64 t361] 25 (0, 0)) (by (with_reducible repeat (first | refine blk_drewN ?_ _ | refine blk_drew ?_ | refine blk_alloc ?_ _)); exact BK362.out) hb); have n3_ := Aside0.mk (blk_below (g := gb368) (o := .cells #[.int .i64 t366, .int .i64 t367] 25 (0, 0)) (by (with_reducible repeat (first | refine blk_drewN ?_ _ | refine blk_drew ?_ | refine blk_alloc ?_ _)); exact BK368.out) hb); have n4_ := Aside0.mk (below_step (by repeat (first | (with_reducible first | exact HB.out | apply below_alloc | apply pw_below_drewN | apply below_drew1 | refine below_set ?_ GE362.out | refine below_set ?_ GE368.out) | exact HB.out)) hb); clear HO_11; clear HO_13; clear BK362; clear BK368; clear HB; have HO_11 := n0_; have HO_13 := n1_; have BK362 := n2_; have BK368 := n3_; have HB := n4_; clear n0_ n1_ n2_ n3_ n4_; (try clear hb); (try clear hb2); (try clear hk); (try clear hi); have hnb55 := NB362_368.out; have hnc55 := NB368_362.out; have hcz56_0 : w54.cell? ⟨gb362, 0, none⟩ = some (.int .i64 t360) := (blk_cell BK362.out 0).trans rfl; have hcz56_1 : w54.cell? ⟨gb362, 1, none⟩ = some (.int .i64 t361) := (blk_cell BK362.out 1).trans rfl; have hfz56_0 := blk_frozen BK362.out 0; have hfz56_1 := blk_frozen BK362.out 1; obtain ⟨Ao57, co57, eo57⟩ := Kd.R_slice HO_11.out; subst eo57)))
              go_ret
              exact ⟨by first | rfl | (simp [errW_none, errW_some] <;> rfl) | (simp [*, errW_none, errW_some] <;> rfl), by repeat (first | (with_reducible first | exact HB.out | apply below_alloc | apply pw_below_drewN | apply below_drew1 | refine below_set ?_ GE362.out | refine below_set ?_ GE368.out) | exact HB.out)⟩
        · replace c29 := Bool.eq_false_iff.mpr c29
          subst c29
          have H1 : (some false) = some r := by rw [if_neg (show ¬ (false = true) by decide)] at H; exact H
          clear H
          have H := H1
          clear H1
          obtain rfl := Option.some.inj H
          go_wp2_with (first | (go_at_call 9; (with_reducible refine (changeforgelaw6_farms.calls kj7  false _ A28.out).mono ?_); rintro e w58 ⟨rfl, hb⟩; have n0_ := Aside0.mk (Kd.R_below (by (with_reducible repeat (first | apply Kd.R_alloc | apply Kd.R_drewN | apply Kd.R_drew)); exact HO_11.out) hb); have n1_ := Aside0.mk (Kd.R_below (by (with_reducible repeat (first | apply Kd.R_alloc | apply Kd.R_drewN | apply Kd.R_drew)); exact HO_13.out) hb); have n2_ := Aside0.mk (blk_below (g := gb362) (o := .cells #[.int .i64 t360, .int .i64 t361] 25 (0, 0)) (by (with_reducible repeat (first | refine blk_drewN ?_ _ | refine blk_drew ?_ | refine blk_alloc ?_ _)); exact BK362.out) hb); have n3_ := Aside0.mk (blk_below (g := gb368) (o := .cells #[.int .i64 t366, .int .i64 t367] 25 (0, 0)) (by (with_reducible repeat (first | refine blk_drewN ?_ _ | refine blk_drew ?_ | refine blk_alloc ?_ _)); exact BK368.out) hb); have n4_ := Aside0.mk (below_step (by repeat (first | (with_reducible first | exact HB.out | apply below_alloc | apply pw_below_drewN | apply below_drew1 | refine below_set ?_ GE362.out | refine below_set ?_ GE368.out) | exact HB.out)) hb); clear HO_11; clear HO_13; clear BK362; clear BK368; clear HB; have HO_11 := n0_; have HO_13 := n1_; have BK362 := n2_; have BK368 := n3_; have HB := n4_; clear n0_ n1_ n2_ n3_ n4_; (try clear hb); (try clear hb2); (try clear hk); (try clear hi)))
          repeat (go_quiet (first | (go_at_call 9; (with_reducible refine (changeforgelaw6_farms.calls kj7  false _ A28.out).mono ?_); rintro e w58 ⟨rfl, hb⟩; have n0_ := Aside0.mk (Kd.R_below (by (with_reducible repeat (first | apply Kd.R_alloc | apply Kd.R_drewN | apply Kd.R_drew)); exact HO_11.out) hb); have n1_ := Aside0.mk (Kd.R_below (by (with_reducible repeat (first | apply Kd.R_alloc | apply Kd.R_drewN | apply Kd.R_drew)); exact HO_13.out) hb); have n2_ := Aside0.mk (blk_below (g := gb362) (o := .cells #[.int .i64 t360, .int .i64 t361] 25 (0, 0)) (by (with_reducible repeat (first | refine blk_drewN ?_ _ | refine blk_drew ?_ | refine blk_alloc ?_ _)); exact BK362.out) hb); have n3_ := Aside0.mk (blk_below (g := gb368) (o := .cells #[.int .i64 t366, .int .i64 t367] 25 (0, 0)) (by (with_reducible repeat (first | refine blk_drewN ?_ _ | refine blk_drew ?_ | refine blk_alloc ?_ _)); exact BK368.out) hb); have n4_ := Aside0.mk (below_step (by repeat (first | (with_reducible first | exact HB.out | apply below_alloc | apply pw_below_drewN | apply below_drew1 | refine below_set ?_ GE362.out | refine below_set ?_ GE368.out) | exact HB.out)) hb); clear HO_11; clear HO_13; clear BK362; clear BK368; clear HB; have HO_11 := n0_; have HO_13 := n1_; have BK362 := n2_; have BK368 := n3_; have HB := n4_; clear n0_ n1_ n2_ n3_ n4_; (try clear hb); (try clear hb2); (try clear hk); (try clear hi))); try go_wp2_with (first | (go_at_call 9; (with_reducible refine (changeforgelaw6_farms.calls kj7  false _ A28.out).mono ?_); rintro e w58 ⟨rfl, hb⟩; have n0_ := Aside0.mk (Kd.R_below (by (with_reducible repeat (first | apply Kd.R_alloc | apply Kd.R_drewN | apply Kd.R_drew)); exact HO_11.out) hb); have n1_ := Aside0.mk (Kd.R_below (by (with_reducible repeat (first | apply Kd.R_alloc | apply Kd.R_drewN | apply Kd.R_drew)); exact HO_13.out) hb); have n2_ := Aside0.mk (blk_below (g := gb362) (o := .cells #[.int .i64 t360, .int .i64 t361] 25 (0, 0)) (by (with_reducible repeat (first | refine blk_drewN ?_ _ | refine blk_drew ?_ | refine blk_alloc ?_ _)); exact BK362.out) hb); have n3_ := Aside0.mk (blk_below (g := gb368) (o := .cells #[.int .i64 t366, .int .i64 t367] 25 (0, 0)) (by (with_reducible repeat (first | refine blk_drewN ?_ _ | refine blk_drew ?_ | refine blk_alloc ?_ _)); exact BK368.out) hb); have n4_ := Aside0.mk (below_step (by repeat (first | (with_reducible first | exact HB.out | apply below_alloc | apply pw_below_drewN | apply below_drew1 | refine below_set ?_ GE362.out | refine below_set ?_ GE368.out) | exact HB.out)) hb); clear HO_11; clear HO_13; clear BK362; clear BK368; clear HB; have HO_11 := n0_; have HO_13 := n1_; have BK362 := n2_; have BK368 := n3_; have HB := n4_; clear n0_ n1_ n2_ n3_ n4_; (try clear hb); (try clear hb2); (try clear hk); (try clear hi))))
          go_ret
          exact ⟨by first | rfl | (simp [errW_none, errW_some] <;> rfl) | (simp [*, errW_none, errW_some] <;> rfl), by repeat (first | (with_reducible first | exact HB.out | apply below_alloc | apply pw_below_drewN | apply below_drew1 | refine below_set ?_ GE362.out | refine below_set ?_ GE368.out) | exact HB.out)⟩
      · replace c27 := Bool.eq_false_iff.mpr c27
        subst c27
        have H1 : ((changeforgelaw6_in.f a4 0 (wrap64 ((t357.length : Int) - 1))).bind fun t371 => (if t371 = true then (changeforgelaw6_WorkersResultsHaveAQuorum.l0 kj7 a2 a4 t357 t363 false 0) else (some false))) = some r := by rw [if_neg (show ¬ (false = true) by decide)] at H; exact H
        clear H
        have H := H1
        clear H1
        replace H := Option.bind_eq_some_iff.mp H
        obtain ⟨t371, A590, H⟩ := H
        replace H : (if t371 = true then (changeforgelaw6_WorkersResultsHaveAQuorum.l0 kj7 a2 a4 t357 t363 false 0) else (some false)) = some r := H
        have A59 := Aside0.mk A590
        clear A590
        by_cases c60 : t371 = true
        · subst c60
          have H1 : (changeforgelaw6_WorkersResultsHaveAQuorum.l0 kj7 a2 a4 t357 t363 false 0) = some r := by rw [if_pos rfl] at H; exact H
          clear H
          have H := H1
          clear H1
          have H' := Aside0.mk H
          clear H
          obtain ⟨Ao61, co61, eo61⟩ := Kd.R_slice HO_11.out
          subst eo61
          go_wp2_with (first | (go_at_call 13; (with_reducible refine (changeforgelaw6_in.calls a4 0 (wrap64 ((t357.length : Int) - 1)) true _ A59.out).mono ?_); rintro e w' ⟨rfl, ⟨nd, rfl⟩⟩; (try first | exact ⟨rfl, _, World.drewN_drewN _ _ _⟩ | exact ⟨rfl, _, Eq.trans (World.drewN_drewN _ _ _) (congrArg (World.drewN _) (Nat.add_assoc _ _ _))⟩)))
          repeat (go_quiet (first | (go_at_call 13; (with_reducible refine (changeforgelaw6_in.calls a4 0 (wrap64 ((t357.length : Int) - 1)) true _ A59.out).mono ?_); rintro e w' ⟨rfl, ⟨nd, rfl⟩⟩; (try first | exact ⟨rfl, _, World.drewN_drewN _ _ _⟩ | exact ⟨rfl, _, Eq.trans (World.drewN_drewN _ _ _) (congrArg (World.drewN _) (Nat.add_assoc _ _ _))⟩))); try go_wp2_with (first | (go_at_call 13; (with_reducible refine (changeforgelaw6_in.calls a4 0 (wrap64 ((t357.length : Int) - 1)) true _ A59.out).mono ?_); rintro e w' ⟨rfl, ⟨nd, rfl⟩⟩; (try first | exact ⟨rfl, _, World.drewN_drewN _ _ _⟩ | exact ⟨rfl, _, Eq.trans (World.drewN_drewN _ _ _) (congrArg (World.drewN _) (Nat.add_assoc _ _ _))⟩))))
          go_loopg [15, 16] kj7 (fun kq v15 v16 w' => ∃ (x15_2 : Bool) (x16_2 : Int), v15 = .bool x15_2 ∧ v16 = .int .i64 x16_2 ∧ Aside0 (changeforgelaw6_WorkersResultsHaveAQuorum.l0 kq a2 a4 t357 t363 x15_2 x16_2 = some r) ∧ Aside0 (kq ≤ kj7) ∧ Aside0 (Kd.R (Kd.int .i64) 3 w' w.heap.size (fun k_ => some k_ ≠ (v364 : Value).ownBlock) (.slice Ao61 t357.length co61) t357) ∧ Aside0 (Kd.R (Kd.int .i64) 3 w' w.heap.size (fun k_ => some k_ ≠ ((.slice Ao61 t357.length co61) : Value).ownBlock) v364 t363) ∧ Aside0 (w'.heap[gb362]? = some (.cells #[.int .i64 t360, .int .i64 t361] 25 (0, 0))) ∧ Aside0 (w'.heap[gb368]? = some (.cells #[.int .i64 t366, .int .i64 t367] 25 (0, 0))) ∧ Aside0 (Below w.heap.size w w'))
          case atStart => exact ⟨(false), (0), (by first | rfl | (simp; done) | (simp [*]; done)), (by first | rfl | (simp; done) | (simp [*]; done)), H', ⟨Nat.le_refl _⟩, ⟨by (with_reducible repeat (first | apply Kd.R_alloc | apply Kd.R_drewN | apply Kd.R_drew)); exact HO_11.out⟩, ⟨by (with_reducible repeat (first | apply Kd.R_alloc | apply Kd.R_drewN | apply Kd.R_drew)); exact HO_13.out⟩, ⟨by (with_reducible repeat (first | refine blk_drewN ?_ _ | refine blk_drew ?_ | refine blk_alloc ?_ _)); exact BK362.out⟩, ⟨by (with_reducible repeat (first | refine blk_drewN ?_ _ | refine blk_drew ?_ | refine blk_alloc ?_ _)); exact BK368.out⟩, ⟨by repeat (first | (with_reducible first | exact HB.out | apply below_alloc | apply pw_below_drewN | apply below_drew1 | refine below_set ?_ GE362.out | refine below_set ?_ GE368.out) | exact HB.out)⟩⟩
          case round =>
            clear H'
            try clear c1
            try clear c2
            try clear p2
            try clear c3
            try clear c4
            try clear c5
            try clear c6
            try clear p6
            try clear c14
            try clear c17
            try clear c18
            try clear c18b0
            try clear c18b1
            try clear c20
            try clear c24
            try clear c27
            try clear c29
            try clear c30
            try clear c30b0
            try clear c30b1
            try clear c31
            try clear c31b0
            try clear c31b1
            try clear c33
            try clear c37
            try clear c41
            try clear c41b0
            try clear c41b1
            try clear c41b2
            try clear c42
            try clear c42b0
            try clear c42b1
            try clear c44
            try clear c49
            try clear c55
            try clear c60
            try clear hcz11_0
            try clear hcz11_1
            try clear hcz15_0
            try clear hcz15_1
            try clear hcz21_0
            try clear hcz21_1
            try clear hcz22_0
            try clear hcz22_1
            try clear hcz25_0
            try clear hcz25_1
            try clear hcz34_0
            try clear hcz34_1
            try clear hcz35_0
            try clear hcz35_1
            try clear hcz38_0
            try clear hcz38_1
            try clear hcz39_0
            try clear hcz39_1
            try clear hcz45_0
            try clear hcz45_1
            try clear hcz47_0
            try clear hcz47_1
            try clear hcz50_0
            try clear hcz50_1
            try clear hcz52_0
            try clear hcz52_1
            try clear hcz56_0
            try clear hcz56_1
            try clear hfz11_0
            try clear hfz11_1
            try clear hfz15_0
            try clear hfz15_1
            try clear hfz21_0
            try clear hfz21_1
            try clear hfz22_0
            try clear hfz22_1
            try clear hfz25_0
            try clear hfz25_1
            try clear hfz34_0
            try clear hfz34_1
            try clear hfz35_0
            try clear hfz35_1
            try clear hfz38_0
            try clear hfz38_1
            try clear hfz39_0
            try clear hfz39_1
            try clear hfz45_0
            try clear hfz45_1
            try clear hfz47_0
            try clear hfz47_1
            try clear hfz50_0
            try clear hfz50_1
            try clear hfz52_0
            try clear hfz52_1
            try clear hfz56_0
            try clear hfz56_1
            try clear p2
            obtain ⟨x15_2, x16_2, rfl, rfl, HA, HK2, HO_11, HO_13, BK362, BK368, HB⟩ := hrel
            cases gk with
            | zero => exact absurd HA.out (by simp [changeforgelaw6_WorkersResultsHaveAQuorum.l0])
            | succ k2 =>
              have H := HA.out
              clear HA
              simp only [changeforgelaw6_WorkersResultsHaveAQuorum.l0] at H
              by_cases c62 : x16_2 < (t363.length : Int)
              · rw [if_pos c62] at H
                have c62b0 : decide (x16_2 < (t363.length : Int)) = true := decide_eq_true c62
                clear c62
                have H' := Aside0.mk H
                clear H
                obtain ⟨Ao63, co63, eo63⟩ := Kd.R_slice HO_13.out
                subst eo63
                go_wp2
                repeat (go_quiet (fail); try go_wp2)
                go_loopg [17, 18] k2 (fun kq v17 v18 w' => ∃ (x17_3 : Int) (x18_3 : Int), v17 = .int .i64 x17_3 ∧ v18 = .int .i64 x18_3 ∧ Aside0 (changeforgelaw6_WorkersResultsHaveAQuorum.l1 kq a2 a4 t357 t363 x15_2 x16_2 x17_3 x18_3 = some r) ∧ Aside0 (kq ≤ k2) ∧ Aside0 (Kd.R (Kd.int .i64) 3 w' w.heap.size (fun k_ => some k_ ≠ ((.slice Ao63 t363.length co63) : Value).ownBlock) (.slice Ao61 t357.length co61) t357) ∧ Aside0 (Kd.R (Kd.int .i64) 3 w' w.heap.size (fun k_ => some k_ ≠ ((.slice Ao61 t357.length co61) : Value).ownBlock) (.slice Ao63 t363.length co63) t363) ∧ Aside0 (w'.heap[gb362]? = some (.cells #[.int .i64 t360, .int .i64 t361] 25 (0, 0))) ∧ Aside0 (w'.heap[gb368]? = some (.cells #[.int .i64 t366, .int .i64 t367] 25 (0, 0))) ∧ Aside0 (Below w.heap.size w w'))
                case atStart => exact ⟨(0), (0), (by first | rfl | (simp; done) | (simp [*]; done)), (by first | rfl | (simp; done) | (simp [*]; done)), H', ⟨Nat.le_refl _⟩, ⟨by (with_reducible repeat (first | apply Kd.R_alloc | apply Kd.R_drewN | apply Kd.R_drew)); exact HO_11.out⟩, ⟨by (with_reducible repeat (first | apply Kd.R_alloc | apply Kd.R_drewN | apply Kd.R_drew)); exact HO_13.out⟩, ⟨by (with_reducible repeat (first | refine blk_drewN ?_ _ | refine blk_drew ?_ | refine blk_alloc ?_ _)); exact BK362.out⟩, ⟨by (with_reducible repeat (first | refine blk_drewN ?_ _ | refine blk_drew ?_ | refine blk_alloc ?_ _)); exact BK368.out⟩, ⟨by repeat (first | (with_reducible first | exact HB.out | apply below_alloc | apply pw_below_drewN | apply below_drew1 | refine below_set ?_ GE362.out | refine below_set ?_ GE368.out) | exact HB.out)⟩⟩
                case round =>
                  clear H'
                  try clear c1
                  try clear c2
                  try clear p2
                  try clear c3
                  try clear c4
                  try clear c5
                  try clear c6
                  try clear p6
                  try clear c14
                  try clear c17
                  try clear c18
                  try clear c18b0
                  try clear c18b1
                  try clear c20
                  try clear c24
                  try clear c27
                  try clear c29
                  try clear c30
                  try clear c30b0
                  try clear c30b1
                  try clear c31
                  try clear c31b0
                  try clear c31b1
                  try clear c33
                  try clear c37
                  try clear c41
                  try clear c41b0
                  try clear c41b1
                  try clear c41b2
                  try clear c42
                  try clear c42b0
                  try clear c42b1
                  try clear c44
                  try clear c49
                  try clear c55
                  try clear c60
                  try clear c62
                  try clear c62b0
                  try clear hcz11_0
                  try clear hcz11_1
                  try clear hcz15_0
                  try clear hcz15_1
                  try clear hcz21_0
                  try clear hcz21_1
                  try clear hcz22_0
                  try clear hcz22_1
                  try clear hcz25_0
                  try clear hcz25_1
                  try clear hcz34_0
                  try clear hcz34_1
                  try clear hcz35_0
                  try clear hcz35_1
                  try clear hcz38_0
                  try clear hcz38_1
                  try clear hcz39_0
                  try clear hcz39_1
                  try clear hcz45_0
                  try clear hcz45_1
                  try clear hcz47_0
                  try clear hcz47_1
                  try clear hcz50_0
                  try clear hcz50_1
                  try clear hcz52_0
                  try clear hcz52_1
                  try clear hcz56_0
                  try clear hcz56_1
                  try clear hfz11_0
                  try clear hfz11_1
                  try clear hfz15_0
                  try clear hfz15_1
                  try clear hfz21_0
                  try clear hfz21_1
                  try clear hfz22_0
                  try clear hfz22_1
                  try clear hfz25_0
                  try clear hfz25_1
                  try clear hfz34_0
                  try clear hfz34_1
                  try clear hfz35_0
                  try clear hfz35_1
                  try clear hfz38_0
                  try clear hfz38_1
                  try clear hfz39_0
                  try clear hfz39_1
                  try clear hfz45_0
                  try clear hfz45_1
                  try clear hfz47_0
                  try clear hfz47_1
                  try clear hfz50_0
                  try clear hfz50_1
                  try clear hfz52_0
                  try clear hfz52_1
                  try clear hfz56_0
                  try clear hfz56_1
                  try clear p2
                  try clear p6
                  obtain ⟨x17_3, x18_3, rfl, rfl, HA, HK3, HO_11, HO_13, BK362, BK368, HB⟩ := hrel
                  cases gk with
                  | zero => exact absurd HA.out (by simp [changeforgelaw6_WorkersResultsHaveAQuorum.l1])
                  | succ k3 =>
                    have H := HA.out
                    clear HA
                    simp only [changeforgelaw6_WorkersResultsHaveAQuorum.l1] at H
                    by_cases c64 : x18_3 < (t363.length : Int)
                    · rw [if_pos c64] at H
                      have c64b0 : decide (x18_3 < (t363.length : Int)) = true := decide_eq_true c64
                      clear c64
                      by_cases c65 : 0 ≤ x18_3
                      · rw [if_pos c65] at H
                        have c65b0 : decide (0 ≤ x18_3) = true := decide_eq_true c65
                        clear c65
                        by_cases c66 : 0 ≤ x16_2
                        · rw [if_pos c66] at H
                          have c66b0 : decide (0 ≤ x16_2) = true := decide_eq_true c66
                          clear c66
                          by_cases c67 : x16_2 < (t363.length : Int)
                          · rw [if_pos c67] at H
                            have c67b0 : decide (x16_2 < (t363.length : Int)) = true := decide_eq_true c67
                            clear c67
                            by_cases c68 : (rd t363 x18_3) = (rd t363 x16_2)
                            · rw [if_pos c68] at H
                              have c68b0 : ((rd t363 x18_3) == (rd t363 x16_2)) = true := beq_iff_eq.mpr c68
                              have c68b1 : ((rd t363 x18_3) != (rd t363 x16_2)) = false := bne_eq_false_iff_eq.mpr c68
                              clear c68
                              have H' := Aside0.mk H
                              clear H
                              have p376 : 0 ≤ (x18_3 : Int) := of_decide_eq_true (by first | (with_reducible assumption) | assumption)
                              have q376 : x18_3 < (t363.length : Int) := of_decide_eq_true (by first | (with_reducible assumption) | assumption)
                              obtain ⟨ad376, e376, hx376_0⟩ := Kd.at_int (Kd.R_reads' HO_13.out).2.2 x18_3 p376 q376
                              cases e376
                              replace p376 := eq_true p376
                              replace q376 := eq_true q376
                              have p377 : 0 ≤ (x16_2 : Int) := of_decide_eq_true (by first | (with_reducible assumption) | assumption)
                              have q377 : x16_2 < (t363.length : Int) := of_decide_eq_true (by first | (with_reducible assumption) | assumption)
                              obtain ⟨ad377, e377, hx377_0⟩ := Kd.at_int (Kd.R_reads' HO_13.out).2.2 x16_2 p377 q377
                              obtain rfl : ad376 = ad377 := (by injection e377)
                              replace p377 := eq_true p377
                              replace q377 := eq_true q377
                              go_wp2
                              repeat (go_quiet (fail); try go_wp2)
                              go_roundg k3
                              case measure => have := HJ7.out; have := HK2.out; have := HK3.out; omega
                              case rel => exact ⟨(wrap64 (x17_3 + 1)), (wrap64 (x18_3 + 1)), (by first | rfl | (simp; done) | (simp [*]; done)), (by first | rfl | (simp; done) | (simp [*]; done)), H', ⟨by have := HJ7.out; have := HK2.out; have := HK3.out; omega⟩, ⟨by (with_reducible repeat (first | apply Kd.R_alloc | apply Kd.R_drewN | apply Kd.R_drew)); exact HO_11.out⟩, ⟨by (with_reducible repeat (first | apply Kd.R_alloc | apply Kd.R_drewN | apply Kd.R_drew)); exact HO_13.out⟩, ⟨by (with_reducible repeat (first | refine blk_drewN ?_ _ | refine blk_drew ?_ | refine blk_alloc ?_ _)); exact BK362.out⟩, ⟨by (with_reducible repeat (first | refine blk_drewN ?_ _ | refine blk_drew ?_ | refine blk_alloc ?_ _)); exact BK368.out⟩, ⟨by repeat (first | (with_reducible first | exact HB.out | apply below_alloc | apply pw_below_drewN | apply below_drew1 | refine below_set ?_ GE362.out | refine below_set ?_ GE368.out) | exact HB.out)⟩⟩
                            · rw [if_neg c68] at H
                              have c68b0 : ((rd t363 x18_3) == (rd t363 x16_2)) = false := beq_eq_false_iff_ne.mpr c68
                              have c68b1 : ((rd t363 x18_3) != (rd t363 x16_2)) = true := bne_iff_ne.mpr c68
                              have H' := Aside0.mk H
                              clear H
                              have p376 : 0 ≤ (x18_3 : Int) := of_decide_eq_true (by first | (with_reducible assumption) | assumption)
                              have q376 : x18_3 < (t363.length : Int) := of_decide_eq_true (by first | (with_reducible assumption) | assumption)
                              obtain ⟨ad376, e376, hx376_0⟩ := Kd.at_int (Kd.R_reads' HO_13.out).2.2 x18_3 p376 q376
                              cases e376
                              replace p376 := eq_true p376
                              replace q376 := eq_true q376
                              have p377 : 0 ≤ (x16_2 : Int) := of_decide_eq_true (by first | (with_reducible assumption) | assumption)
                              have q377 : x16_2 < (t363.length : Int) := of_decide_eq_true (by first | (with_reducible assumption) | assumption)
                              obtain ⟨ad377, e377, hx377_0⟩ := Kd.at_int (Kd.R_reads' HO_13.out).2.2 x16_2 p377 q377
                              obtain rfl : ad376 = ad377 := (by injection e377)
                              replace p377 := eq_true p377
                              replace q377 := eq_true q377
                              go_wp2
                              repeat (go_quiet (fail); try go_wp2)
                              go_roundg k3
                              case measure => have := HJ7.out; have := HK2.out; have := HK3.out; omega
                              case rel => exact ⟨(x17_3), (wrap64 (x18_3 + 1)), (by first | rfl | (simp; done) | (simp [*]; done)), (by first | rfl | (simp; done) | (simp [*]; done)), H', ⟨by have := HJ7.out; have := HK2.out; have := HK3.out; omega⟩, ⟨by (with_reducible repeat (first | apply Kd.R_alloc | apply Kd.R_drewN | apply Kd.R_drew)); exact HO_11.out⟩, ⟨by (with_reducible repeat (first | apply Kd.R_alloc | apply Kd.R_drewN | apply Kd.R_drew)); exact HO_13.out⟩, ⟨by (with_reducible repeat (first | refine blk_drewN ?_ _ | refine blk_drew ?_ | refine blk_alloc ?_ _)); exact BK362.out⟩, ⟨by (with_reducible repeat (first | refine blk_drewN ?_ _ | refine blk_drew ?_ | refine blk_alloc ?_ _)); exact BK368.out⟩, ⟨by repeat (first | (with_reducible first | exact HB.out | apply below_alloc | apply pw_below_drewN | apply below_drew1 | refine below_set ?_ GE362.out | refine below_set ?_ GE368.out) | exact HB.out)⟩⟩
                          · rw [if_neg c67] at H
                            exact absurd H (by simp)
                        · rw [if_neg c66] at H
                          exact absurd H (by simp)
                      · rw [if_neg c65] at H
                        exact absurd H (by simp)
                    · rw [if_neg c64] at H
                      have c64b0 : decide (x18_3 < (t363.length : Int)) = false := decide_eq_false c64
                      clear c64
                      by_cases c69 : x15_2 = true
                      · subst c69
                        have H1 : (if 0 ≤ a4 then (if a4 < (t357.length : Int) then (if (rd t357 a4) ≥ 0 then (if 0 ≤ x16_2 then (if x16_2 < (t363.length : Int) then (if (rd t363 x16_2) = (rd t357 a4) then (if x17_3 < a2 then (some false) else (changeforgelaw6_WorkersResultsHaveAQuorum.l0 k3 a2 a4 t357 t363 true (wrap64 (x16_2 + 1)))) else (changeforgelaw6_WorkersResultsHaveAQuorum.l0 k3 a2 a4 t357 t363 true (wrap64 (x16_2 + 1)))) else (none)) else (none)) else (changeforgelaw6_WorkersResultsHaveAQuorum.l0 k3 a2 a4 t357 t363 true (wrap64 (x16_2 + 1)))) else (none)) else (none)) = some r := by rw [if_pos rfl] at H; exact H
                        clear H
                        have H := H1
                        clear H1
                        by_cases c70 : 0 ≤ a4
                        · rw [if_pos c70] at H
                          have c70b0 : decide (0 ≤ a4) = true := decide_eq_true c70
                          clear c70
                          by_cases c71 : a4 < (t357.length : Int)
                          · rw [if_pos c71] at H
                            have c71b0 : decide (a4 < (t357.length : Int)) = true := decide_eq_true c71
                            clear c71
                            by_cases c72 : (rd t357 a4) ≥ 0
                            · rw [if_pos c72] at H
                              have c72b0 : decide (0 ≤ (rd t357 a4)) = true := decide_eq_true c72
                              clear c72
                              by_cases c73 : 0 ≤ x16_2
                              · rw [if_pos c73] at H
                                have c73b0 : decide (0 ≤ x16_2) = true := decide_eq_true c73
                                clear c73
                                by_cases c74 : x16_2 < (t363.length : Int)
                                · rw [if_pos c74] at H
                                  have c74b0 : decide (x16_2 < (t363.length : Int)) = true := decide_eq_true c74
                                  clear c74
                                  by_cases c75 : (rd t363 x16_2) = (rd t357 a4)
                                  · rw [if_pos c75] at H
                                    have c75b0 : ((rd t363 x16_2) == (rd t357 a4)) = true := beq_iff_eq.mpr c75
                                    have c75b1 : ((rd t363 x16_2) != (rd t357 a4)) = false := bne_eq_false_iff_eq.mpr c75
                                    clear c75
                                    by_cases c76 : x17_3 < a2
                                    · rw [if_pos c76] at H
                                      have c76b0 : decide (x17_3 < a2) = true := decide_eq_true c76
                                      clear c76
                                      obtain rfl := Option.some.inj H
                                      have p378 : 0 ≤ (a4 : Int) := of_decide_eq_true (by first | (with_reducible assumption) | assumption)
                                      have q378 : a4 < (t357.length : Int) := of_decide_eq_true (by first | (with_reducible assumption) | assumption)
                                      obtain ⟨ad378, e378, hx378_0⟩ := Kd.at_int (Kd.R_reads' HO_11.out).2.2 a4 p378 q378
                                      cases e378
                                      replace p378 := eq_true p378
                                      replace q378 := eq_true q378
                                      have p379 : 0 ≤ (x16_2 : Int) := of_decide_eq_true (by first | (with_reducible assumption) | assumption)
                                      have q379 : x16_2 < (t363.length : Int) := of_decide_eq_true (by first | (with_reducible assumption) | assumption)
                                      obtain ⟨ad379, e379, hx379_0⟩ := Kd.at_int (Kd.R_reads' HO_13.out).2.2 x16_2 p379 q379
                                      cases e379
                                      replace p379 := eq_true p379
                                      replace q379 := eq_true q379
                                      have p380 : 0 ≤ (a4 : Int) := of_decide_eq_true (by first | (with_reducible assumption) | assumption)
                                      have q380 : a4 < (t357.length : Int) := of_decide_eq_true (by first | (with_reducible assumption) | assumption)
                                      obtain ⟨ad380, e380, hx380_0⟩ := Kd.at_int (Kd.R_reads' HO_11.out).2.2 a4 p380 q380
                                      obtain rfl : ad378 = ad380 := (by injection e380)
                                      replace p380 := eq_true p380
                                      replace q380 := eq_true q380
                                      go_wp2
                                      repeat (go_quiet (fail); try go_wp2)
                                      go_ret
                                      exact ⟨by first | rfl | (simp [errW_none, errW_some] <;> rfl) | (simp [*, errW_none, errW_some] <;> rfl), by repeat (first | (with_reducible first | exact HB.out | apply below_alloc | apply pw_below_drewN | apply below_drew1 | refine below_set ?_ GE362.out | refine below_set ?_ GE368.out) | exact HB.out)⟩
                                    · rw [if_neg c76] at H
                                      have c76b0 : decide (x17_3 < a2) = false := decide_eq_false c76
                                      clear c76
                                      have H' := Aside0.mk H
                                      clear H
                                      have p378 : 0 ≤ (a4 : Int) := of_decide_eq_true (by first | (with_reducible assumption) | assumption)
                                      have q378 : a4 < (t357.length : Int) := of_decide_eq_true (by first | (with_reducible assumption) | assumption)
                                      obtain ⟨ad378, e378, hx378_0⟩ := Kd.at_int (Kd.R_reads' HO_11.out).2.2 a4 p378 q378
                                      cases e378
                                      replace p378 := eq_true p378
                                      replace q378 := eq_true q378
                                      have p379 : 0 ≤ (x16_2 : Int) := of_decide_eq_true (by first | (with_reducible assumption) | assumption)
                                      have q379 : x16_2 < (t363.length : Int) := of_decide_eq_true (by first | (with_reducible assumption) | assumption)
                                      obtain ⟨ad379, e379, hx379_0⟩ := Kd.at_int (Kd.R_reads' HO_13.out).2.2 x16_2 p379 q379
                                      cases e379
                                      replace p379 := eq_true p379
                                      replace q379 := eq_true q379
                                      have p380 : 0 ≤ (a4 : Int) := of_decide_eq_true (by first | (with_reducible assumption) | assumption)
                                      have q380 : a4 < (t357.length : Int) := of_decide_eq_true (by first | (with_reducible assumption) | assumption)
                                      obtain ⟨ad380, e380, hx380_0⟩ := Kd.at_int (Kd.R_reads' HO_11.out).2.2 a4 p380 q380
                                      obtain rfl : ad378 = ad380 := (by injection e380)
                                      replace p380 := eq_true p380
                                      replace q380 := eq_true q380
                                      go_wp2
                                      repeat (go_quiet (fail); try go_wp2)
                                      go_roundg k3
                                      case measure => have := HJ7.out; have := HK2.out; have := HK3.out; omega
                                      case rel => exact ⟨(true), (wrap64 (x16_2 + 1)), (by first | rfl | (simp; done) | (simp [*]; done)), (by first | rfl | (simp; done) | (simp [*]; done)), H', ⟨by have := HJ7.out; have := HK2.out; have := HK3.out; omega⟩, ⟨by (with_reducible repeat (first | apply Kd.R_alloc | apply Kd.R_drewN | apply Kd.R_drew)); exact HO_11.out⟩, ⟨by (with_reducible repeat (first | apply Kd.R_alloc | apply Kd.R_drewN | apply Kd.R_drew)); exact HO_13.out⟩, ⟨by (with_reducible repeat (first | refine blk_drewN ?_ _ | refine blk_drew ?_ | refine blk_alloc ?_ _)); exact BK362.out⟩, ⟨by (with_reducible repeat (first | refine blk_drewN ?_ _ | refine blk_drew ?_ | refine blk_alloc ?_ _)); exact BK368.out⟩, ⟨by repeat (first | (with_reducible first | exact HB.out | apply below_alloc | apply pw_below_drewN | apply below_drew1 | refine below_set ?_ GE362.out | refine below_set ?_ GE368.out) | exact HB.out)⟩⟩
                                  · rw [if_neg c75] at H
                                    have c75b0 : ((rd t363 x16_2) == (rd t357 a4)) = false := beq_eq_false_iff_ne.mpr c75
                                    have c75b1 : ((rd t363 x16_2) != (rd t357 a4)) = true := bne_iff_ne.mpr c75
                                    have H' := Aside0.mk H
                                    clear H
                                    have p378 : 0 ≤ (a4 : Int) := of_decide_eq_true (by first | (with_reducible assumption) | assumption)
                                    have q378 : a4 < (t357.length : Int) := of_decide_eq_true (by first | (with_reducible assumption) | assumption)
                                    obtain ⟨ad378, e378, hx378_0⟩ := Kd.at_int (Kd.R_reads' HO_11.out).2.2 a4 p378 q378
                                    cases e378
                                    replace p378 := eq_true p378
                                    replace q378 := eq_true q378
                                    have p379 : 0 ≤ (x16_2 : Int) := of_decide_eq_true (by first | (with_reducible assumption) | assumption)
                                    have q379 : x16_2 < (t363.length : Int) := of_decide_eq_true (by first | (with_reducible assumption) | assumption)
                                    obtain ⟨ad379, e379, hx379_0⟩ := Kd.at_int (Kd.R_reads' HO_13.out).2.2 x16_2 p379 q379
                                    cases e379
                                    replace p379 := eq_true p379
                                    replace q379 := eq_true q379
                                    have p380 : 0 ≤ (a4 : Int) := of_decide_eq_true (by first | (with_reducible assumption) | assumption)
                                    have q380 : a4 < (t357.length : Int) := of_decide_eq_true (by first | (with_reducible assumption) | assumption)
                                    obtain ⟨ad380, e380, hx380_0⟩ := Kd.at_int (Kd.R_reads' HO_11.out).2.2 a4 p380 q380
                                    obtain rfl : ad378 = ad380 := (by injection e380)
                                    replace p380 := eq_true p380
                                    replace q380 := eq_true q380
                                    go_wp2
                                    repeat (go_quiet (fail); try go_wp2)
                                    go_roundg k3
                                    case measure => have := HJ7.out; have := HK2.out; have := HK3.out; omega
                                    case rel => exact ⟨(true), (wrap64 (x16_2 + 1)), (by first | rfl | (simp; done) | (simp [*]; done)), (by first | rfl | (simp; done) | (simp [*]; done)), H', ⟨by have := HJ7.out; have := HK2.out; have := HK3.out; omega⟩, ⟨by (with_reducible repeat (first | apply Kd.R_alloc | apply Kd.R_drewN | apply Kd.R_drew)); exact HO_11.out⟩, ⟨by (with_reducible repeat (first | apply Kd.R_alloc | apply Kd.R_drewN | apply Kd.R_drew)); exact HO_13.out⟩, ⟨by (with_reducible repeat (first | refine blk_drewN ?_ _ | refine blk_drew ?_ | refine blk_alloc ?_ _)); exact BK362.out⟩, ⟨by (with_reducible repeat (first | refine blk_drewN ?_ _ | refine blk_drew ?_ | refine blk_alloc ?_ _)); exact BK368.out⟩, ⟨by repeat (first | (with_reducible first | exact HB.out | apply below_alloc | apply pw_below_drewN | apply below_drew1 | refine below_set ?_ GE362.out | refine below_set ?_ GE368.out) | exact HB.out)⟩⟩
                                · rw [if_neg c74] at H
                                  exact absurd H (by simp)
                              · rw [if_neg c73] at H
                                exact absurd H (by simp)
                            · rw [if_neg c72] at H
                              have c72b0 : decide (0 ≤ (rd t357 a4)) = false := decide_eq_false c72
                              clear c72
                              have H' := Aside0.mk H
                              clear H
                              have p378 : 0 ≤ (a4 : Int) := of_decide_eq_true (by first | (with_reducible assumption) | assumption)
                              have q378 : a4 < (t357.length : Int) := of_decide_eq_true (by first | (with_reducible assumption) | assumption)
                              obtain ⟨ad378, e378, hx378_0⟩ := Kd.at_int (Kd.R_reads' HO_11.out).2.2 a4 p378 q378
                              cases e378
                              replace p378 := eq_true p378
                              replace q378 := eq_true q378
                              go_wp2
                              repeat (go_quiet (fail); try go_wp2)
                              go_roundg k3
                              case measure => have := HJ7.out; have := HK2.out; have := HK3.out; omega
                              case rel => exact ⟨(true), (wrap64 (x16_2 + 1)), (by first | rfl | (simp; done) | (simp [*]; done)), (by first | rfl | (simp; done) | (simp [*]; done)), H', ⟨by have := HJ7.out; have := HK2.out; have := HK3.out; omega⟩, ⟨by (with_reducible repeat (first | apply Kd.R_alloc | apply Kd.R_drewN | apply Kd.R_drew)); exact HO_11.out⟩, ⟨by (with_reducible repeat (first | apply Kd.R_alloc | apply Kd.R_drewN | apply Kd.R_drew)); exact HO_13.out⟩, ⟨by (with_reducible repeat (first | refine blk_drewN ?_ _ | refine blk_drew ?_ | refine blk_alloc ?_ _)); exact BK362.out⟩, ⟨by (with_reducible repeat (first | refine blk_drewN ?_ _ | refine blk_drew ?_ | refine blk_alloc ?_ _)); exact BK368.out⟩, ⟨by repeat (first | (with_reducible first | exact HB.out | apply below_alloc | apply pw_below_drewN | apply below_drew1 | refine below_set ?_ GE362.out | refine below_set ?_ GE368.out) | exact HB.out)⟩⟩
                          · rw [if_neg c71] at H
                            exact absurd H (by simp)
                        · rw [if_neg c70] at H
                          exact absurd H (by simp)
                      · replace c69 := Bool.eq_false_iff.mpr c69
                        subst c69
                        have H1 : (if 0 ≤ x16_2 then (if x16_2 < (t363.length : Int) then (if (rd t363 x16_2) ≥ 0 then (if 0 ≤ a4 then (if a4 < (t357.length : Int) then (if (rd t357 a4) ≥ 0 then (if (rd t363 x16_2) = (rd t357 a4) then (if x17_3 < a2 then (some false) else (changeforgelaw6_WorkersResultsHaveAQuorum.l0 k3 a2 a4 t357 t363 (decide (x17_3 ≥ a2)) (wrap64 (x16_2 + 1)))) else (changeforgelaw6_WorkersResultsHaveAQuorum.l0 k3 a2 a4 t357 t363 (decide (x17_3 ≥ a2)) (wrap64 (x16_2 + 1)))) else (changeforgelaw6_WorkersResultsHaveAQuorum.l0 k3 a2 a4 t357 t363 (decide (x17_3 ≥ a2)) (wrap64 (x16_2 + 1)))) else (none)) else (none)) else (if 0 ≤ a4 then (if a4 < (t357.length : Int) then (if (rd t357 a4) ≥ 0 then (if (rd t363 x16_2) = (rd t357 a4) then (if x17_3 < a2 then (some false) else (changeforgelaw6_WorkersResultsHaveAQuorum.l0 k3 a2 a4 t357 t363 false (wrap64 (x16_2 + 1)))) else (changeforgelaw6_WorkersResultsHaveAQuorum.l0 k3 a2 a4 t357 t363 false (wrap64 (x16_2 + 1)))) else (changeforgelaw6_WorkersResultsHaveAQuorum.l0 k3 a2 a4 t357 t363 false (wrap64 (x16_2 + 1)))) else (none)) else (none))) else (none)) else (none)) = some r := by rw [if_neg (show ¬ (false = true) by decide)] at H; exact H
                        clear H
                        have H := H1
                        clear H1
                        by_cases c77 : 0 ≤ x16_2
                        · rw [if_pos c77] at H
                          have c77b0 : decide (0 ≤ x16_2) = true := decide_eq_true c77
                          clear c77
                          by_cases c78 : x16_2 < (t363.length : Int)
                          · rw [if_pos c78] at H
                            have c78b0 : decide (x16_2 < (t363.length : Int)) = true := decide_eq_true c78
                            clear c78
                            by_cases c79 : (rd t363 x16_2) ≥ 0
                            · rw [if_pos c79] at H
                              have c79b0 : decide (0 ≤ (rd t363 x16_2)) = true := decide_eq_true c79
                              clear c79
                              by_cases c80 : 0 ≤ a4
                              · rw [if_pos c80] at H
                                have c80b0 : decide (0 ≤ a4) = true := decide_eq_true c80
                                clear c80
                                by_cases c81 : a4 < (t357.length : Int)
                                · rw [if_pos c81] at H
                                  have c81b0 : decide (a4 < (t357.length : Int)) = true := decide_eq_true c81
                                  clear c81
                                  by_cases c82 : (rd t357 a4) ≥ 0
                                  · rw [if_pos c82] at H
                                    have c82b0 : decide (0 ≤ (rd t357 a4)) = true := decide_eq_true c82
                                    clear c82
                                    by_cases c83 : (rd t363 x16_2) = (rd t357 a4)
                                    · rw [if_pos c83] at H
                                      have c83b0 : ((rd t363 x16_2) == (rd t357 a4)) = true := beq_iff_eq.mpr c83
                                      have c83b1 : ((rd t363 x16_2) != (rd t357 a4)) = false := bne_eq_false_iff_eq.mpr c83
                                      clear c83
                                      by_cases c84 : x17_3 < a2
                                      · rw [if_pos c84] at H
                                        have c84b0 : decide (x17_3 < a2) = true := decide_eq_true c84
                                        clear c84
                                        obtain rfl := Option.some.inj H
                                        have p381 : 0 ≤ (x16_2 : Int) := of_decide_eq_true (by first | (with_reducible assumption) | assumption)
                                        have q381 : x16_2 < (t363.length : Int) := of_decide_eq_true (by first | (with_reducible assumption) | assumption)
                                        obtain ⟨ad381, e381, hx381_0⟩ := Kd.at_int (Kd.R_reads' HO_13.out).2.2 x16_2 p381 q381
                                        cases e381
                                        replace p381 := eq_true p381
                                        replace q381 := eq_true q381
                                        have p382 : 0 ≤ (a4 : Int) := of_decide_eq_true (by first | (with_reducible assumption) | assumption)
                                        have q382 : a4 < (t357.length : Int) := of_decide_eq_true (by first | (with_reducible assumption) | assumption)
                                        obtain ⟨ad382, e382, hx382_0⟩ := Kd.at_int (Kd.R_reads' HO_11.out).2.2 a4 p382 q382
                                        cases e382
                                        replace p382 := eq_true p382
                                        replace q382 := eq_true q382
                                        have p383 : 0 ≤ (x16_2 : Int) := of_decide_eq_true (by first | (with_reducible assumption) | assumption)
                                        have q383 : x16_2 < (t363.length : Int) := of_decide_eq_true (by first | (with_reducible assumption) | assumption)
                                        obtain ⟨ad383, e383, hx383_0⟩ := Kd.at_int (Kd.R_reads' HO_13.out).2.2 x16_2 p383 q383
                                        obtain rfl : ad381 = ad383 := (by injection e383)
                                        replace p383 := eq_true p383
                                        replace q383 := eq_true q383
                                        have p384 : 0 ≤ (a4 : Int) := of_decide_eq_true (by first | (with_reducible assumption) | assumption)
                                        have q384 : a4 < (t357.length : Int) := of_decide_eq_true (by first | (with_reducible assumption) | assumption)
                                        obtain ⟨ad384, e384, hx384_0⟩ := Kd.at_int (Kd.R_reads' HO_11.out).2.2 a4 p384 q384
                                        obtain rfl : ad382 = ad384 := (by injection e384)
                                        replace p384 := eq_true p384
                                        replace q384 := eq_true q384
                                        go_wp2
                                        repeat (go_quiet (fail); try go_wp2)
                                        go_ret
                                        exact ⟨by first | rfl | (simp [errW_none, errW_some] <;> rfl) | (simp [*, errW_none, errW_some] <;> rfl), by repeat (first | (with_reducible first | exact HB.out | apply below_alloc | apply pw_below_drewN | apply below_drew1 | refine below_set ?_ GE362.out | refine below_set ?_ GE368.out) | exact HB.out)⟩
                                      · rw [if_neg c84] at H
                                        have c84b0 : decide (x17_3 < a2) = false := decide_eq_false c84
                                        clear c84
                                        have H' := Aside0.mk H
                                        clear H
                                        have p381 : 0 ≤ (x16_2 : Int) := of_decide_eq_true (by first | (with_reducible assumption) | assumption)
                                        have q381 : x16_2 < (t363.length : Int) := of_decide_eq_true (by first | (with_reducible assumption) | assumption)
                                        obtain ⟨ad381, e381, hx381_0⟩ := Kd.at_int (Kd.R_reads' HO_13.out).2.2 x16_2 p381 q381
                                        cases e381
                                        replace p381 := eq_true p381
                                        replace q381 := eq_true q381
                                        have p382 : 0 ≤ (a4 : Int) := of_decide_eq_true (by first | (with_reducible assumption) | assumption)
                                        have q382 : a4 < (t357.length : Int) := of_decide_eq_true (by first | (with_reducible assumption) | assumption)
                                        obtain ⟨ad382, e382, hx382_0⟩ := Kd.at_int (Kd.R_reads' HO_11.out).2.2 a4 p382 q382
                                        cases e382
                                        replace p382 := eq_true p382
                                        replace q382 := eq_true q382
                                        have p383 : 0 ≤ (x16_2 : Int) := of_decide_eq_true (by first | (with_reducible assumption) | assumption)
                                        have q383 : x16_2 < (t363.length : Int) := of_decide_eq_true (by first | (with_reducible assumption) | assumption)
                                        obtain ⟨ad383, e383, hx383_0⟩ := Kd.at_int (Kd.R_reads' HO_13.out).2.2 x16_2 p383 q383
                                        obtain rfl : ad381 = ad383 := (by injection e383)
                                        replace p383 := eq_true p383
                                        replace q383 := eq_true q383
                                        have p384 : 0 ≤ (a4 : Int) := of_decide_eq_true (by first | (with_reducible assumption) | assumption)
                                        have q384 : a4 < (t357.length : Int) := of_decide_eq_true (by first | (with_reducible assumption) | assumption)
                                        obtain ⟨ad384, e384, hx384_0⟩ := Kd.at_int (Kd.R_reads' HO_11.out).2.2 a4 p384 q384
                                        obtain rfl : ad382 = ad384 := (by injection e384)
                                        replace p384 := eq_true p384
                                        replace q384 := eq_true q384
                                        go_wp2
                                        repeat (go_quiet (fail); try go_wp2)
                                        go_roundg k3
                                        case measure => have := HJ7.out; have := HK2.out; have := HK3.out; omega
                                        case rel => exact ⟨(decide (x17_3 ≥ a2)), (wrap64 (x16_2 + 1)), (by first | rfl | (simp; done) | (simp [*]; done)), (by first | rfl | (simp; done) | (simp [*]; done)), H', ⟨by have := HJ7.out; have := HK2.out; have := HK3.out; omega⟩, ⟨by (with_reducible repeat (first | apply Kd.R_alloc | apply Kd.R_drewN | apply Kd.R_drew)); exact HO_11.out⟩, ⟨by (with_reducible repeat (first | apply Kd.R_alloc | apply Kd.R_drewN | apply Kd.R_drew)); exact HO_13.out⟩, ⟨by (with_reducible repeat (first | refine blk_drewN ?_ _ | refine blk_drew ?_ | refine blk_alloc ?_ _)); exact BK362.out⟩, ⟨by (with_reducible repeat (first | refine blk_drewN ?_ _ | refine blk_drew ?_ | refine blk_alloc ?_ _)); exact BK368.out⟩, ⟨by repeat (first | (with_reducible first | exact HB.out | apply below_alloc | apply pw_below_drewN | apply below_drew1 | refine below_set ?_ GE362.out | refine below_set ?_ GE368.out) | exact HB.out)⟩⟩
                                    · rw [if_neg c83] at H
                                      have c83b0 : ((rd t363 x16_2) == (rd t357 a4)) = false := beq_eq_false_iff_ne.mpr c83
                                      have c83b1 : ((rd t363 x16_2) != (rd t357 a4)) = true := bne_iff_ne.mpr c83
                                      have H' := Aside0.mk H
                                      clear H
                                      have p381 : 0 ≤ (x16_2 : Int) := of_decide_eq_true (by first | (with_reducible assumption) | assumption)
                                      have q381 : x16_2 < (t363.length : Int) := of_decide_eq_true (by first | (with_reducible assumption) | assumption)
                                      obtain ⟨ad381, e381, hx381_0⟩ := Kd.at_int (Kd.R_reads' HO_13.out).2.2 x16_2 p381 q381
                                      cases e381
                                      replace p381 := eq_true p381
                                      replace q381 := eq_true q381
                                      have p382 : 0 ≤ (a4 : Int) := of_decide_eq_true (by first | (with_reducible assumption) | assumption)
                                      have q382 : a4 < (t357.length : Int) := of_decide_eq_true (by first | (with_reducible assumption) | assumption)
                                      obtain ⟨ad382, e382, hx382_0⟩ := Kd.at_int (Kd.R_reads' HO_11.out).2.2 a4 p382 q382
                                      cases e382
                                      replace p382 := eq_true p382
                                      replace q382 := eq_true q382
                                      have p383 : 0 ≤ (x16_2 : Int) := of_decide_eq_true (by first | (with_reducible assumption) | assumption)
                                      have q383 : x16_2 < (t363.length : Int) := of_decide_eq_true (by first | (with_reducible assumption) | assumption)
                                      obtain ⟨ad383, e383, hx383_0⟩ := Kd.at_int (Kd.R_reads' HO_13.out).2.2 x16_2 p383 q383
                                      obtain rfl : ad381 = ad383 := (by injection e383)
                                      replace p383 := eq_true p383
                                      replace q383 := eq_true q383
                                      have p384 : 0 ≤ (a4 : Int) := of_decide_eq_true (by first | (with_reducible assumption) | assumption)
                                      have q384 : a4 < (t357.length : Int) := of_decide_eq_true (by first | (with_reducible assumption) | assumption)
                                      obtain ⟨ad384, e384, hx384_0⟩ := Kd.at_int (Kd.R_reads' HO_11.out).2.2 a4 p384 q384
                                      obtain rfl : ad382 = ad384 := (by injection e384)
                                      replace p384 := eq_true p384
                                      replace q384 := eq_true q384
                                      go_wp2
                                      repeat (go_quiet (fail); try go_wp2)
                                      go_roundg k3
                                      case measure => have := HJ7.out; have := HK2.out; have := HK3.out; omega
                                      case rel => exact ⟨(decide (x17_3 ≥ a2)), (wrap64 (x16_2 + 1)), (by first | rfl | (simp; done) | (simp [*]; done)), (by first | rfl | (simp; done) | (simp [*]; done)), H', ⟨by have := HJ7.out; have := HK2.out; have := HK3.out; omega⟩, ⟨by (with_reducible repeat (first | apply Kd.R_alloc | apply Kd.R_drewN | apply Kd.R_drew)); exact HO_11.out⟩, ⟨by (with_reducible repeat (first | apply Kd.R_alloc | apply Kd.R_drewN | apply Kd.R_drew)); exact HO_13.out⟩, ⟨by (with_reducible repeat (first | refine blk_drewN ?_ _ | refine blk_drew ?_ | refine blk_alloc ?_ _)); exact BK362.out⟩, ⟨by (with_reducible repeat (first | refine blk_drewN ?_ _ | refine blk_drew ?_ | refine blk_alloc ?_ _)); exact BK368.out⟩, ⟨by repeat (first | (with_reducible first | exact HB.out | apply below_alloc | apply pw_below_drewN | apply below_drew1 | refine below_set ?_ GE362.out | refine below_set ?_ GE368.out) | exact HB.out)⟩⟩
                                  · rw [if_neg c82] at H
                                    have c82b0 : decide (0 ≤ (rd t357 a4)) = false := decide_eq_false c82
                                    clear c82
                                    have H' := Aside0.mk H
                                    clear H
                                    have p381 : 0 ≤ (x16_2 : Int) := of_decide_eq_true (by first | (with_reducible assumption) | assumption)
                                    have q381 : x16_2 < (t363.length : Int) := of_decide_eq_true (by first | (with_reducible assumption) | assumption)
                                    obtain ⟨ad381, e381, hx381_0⟩ := Kd.at_int (Kd.R_reads' HO_13.out).2.2 x16_2 p381 q381
                                    cases e381
                                    replace p381 := eq_true p381
                                    replace q381 := eq_true q381
                                    have p382 : 0 ≤ (a4 : Int) := of_decide_eq_true (by first | (with_reducible assumption) | assumption)
                                    have q382 : a4 < (t357.length : Int) := of_decide_eq_true (by first | (with_reducible assumption) | assumption)
                                    obtain ⟨ad382, e382, hx382_0⟩ := Kd.at_int (Kd.R_reads' HO_11.out).2.2 a4 p382 q382
                                    cases e382
                                    replace p382 := eq_true p382
                                    replace q382 := eq_true q382
                                    go_wp2
                                    repeat (go_quiet (fail); try go_wp2)
                                    go_roundg k3
                                    case measure => have := HJ7.out; have := HK2.out; have := HK3.out; omega
                                    case rel => exact ⟨(decide (x17_3 ≥ a2)), (wrap64 (x16_2 + 1)), (by first | rfl | (simp; done) | (simp [*]; done)), (by first | rfl | (simp; done) | (simp [*]; done)), H', ⟨by have := HJ7.out; have := HK2.out; have := HK3.out; omega⟩, ⟨by (with_reducible repeat (first | apply Kd.R_alloc | apply Kd.R_drewN | apply Kd.R_drew)); exact HO_11.out⟩, ⟨by (with_reducible repeat (first | apply Kd.R_alloc | apply Kd.R_drewN | apply Kd.R_drew)); exact HO_13.out⟩, ⟨by (with_reducible repeat (first | refine blk_drewN ?_ _ | refine blk_drew ?_ | refine blk_alloc ?_ _)); exact BK362.out⟩, ⟨by (with_reducible repeat (first | refine blk_drewN ?_ _ | refine blk_drew ?_ | refine blk_alloc ?_ _)); exact BK368.out⟩, ⟨by repeat (first | (with_reducible first | exact HB.out | apply below_alloc | apply pw_below_drewN | apply below_drew1 | refine below_set ?_ GE362.out | refine below_set ?_ GE368.out) | exact HB.out)⟩⟩
                                · rw [if_neg c81] at H
                                  exact absurd H (by simp)
                              · rw [if_neg c80] at H
                                exact absurd H (by simp)
                            · rw [if_neg c79] at H
                              have c79b0 : decide (0 ≤ (rd t363 x16_2)) = false := decide_eq_false c79
                              clear c79
                              by_cases c85 : 0 ≤ a4
                              · rw [if_pos c85] at H
                                have c85b0 : decide (0 ≤ a4) = true := decide_eq_true c85
                                clear c85
                                by_cases c86 : a4 < (t357.length : Int)
                                · rw [if_pos c86] at H
                                  have c86b0 : decide (a4 < (t357.length : Int)) = true := decide_eq_true c86
                                  clear c86
                                  by_cases c87 : (rd t357 a4) ≥ 0
                                  · rw [if_pos c87] at H
                                    have c87b0 : decide (0 ≤ (rd t357 a4)) = true := decide_eq_true c87
                                    clear c87
                                    by_cases c88 : (rd t363 x16_2) = (rd t357 a4)
                                    · rw [if_pos c88] at H
                                      have c88b0 : ((rd t363 x16_2) == (rd t357 a4)) = true := beq_iff_eq.mpr c88
                                      have c88b1 : ((rd t363 x16_2) != (rd t357 a4)) = false := bne_eq_false_iff_eq.mpr c88
                                      clear c88
                                      by_cases c89 : x17_3 < a2
                                      · rw [if_pos c89] at H
                                        have c89b0 : decide (x17_3 < a2) = true := decide_eq_true c89
                                        clear c89
                                        obtain rfl := Option.some.inj H
                                        have p381 : 0 ≤ (x16_2 : Int) := of_decide_eq_true (by first | (with_reducible assumption) | assumption)
                                        have q381 : x16_2 < (t363.length : Int) := of_decide_eq_true (by first | (with_reducible assumption) | assumption)
                                        obtain ⟨ad381, e381, hx381_0⟩ := Kd.at_int (Kd.R_reads' HO_13.out).2.2 x16_2 p381 q381
                                        cases e381
                                        replace p381 := eq_true p381
                                        replace q381 := eq_true q381
                                        have p385 : 0 ≤ (a4 : Int) := of_decide_eq_true (by first | (with_reducible assumption) | assumption)
                                        have q385 : a4 < (t357.length : Int) := of_decide_eq_true (by first | (with_reducible assumption) | assumption)
                                        obtain ⟨ad385, e385, hx385_0⟩ := Kd.at_int (Kd.R_reads' HO_11.out).2.2 a4 p385 q385
                                        cases e385
                                        replace p385 := eq_true p385
                                        replace q385 := eq_true q385
                                        have p386 : 0 ≤ (x16_2 : Int) := of_decide_eq_true (by first | (with_reducible assumption) | assumption)
                                        have q386 : x16_2 < (t363.length : Int) := of_decide_eq_true (by first | (with_reducible assumption) | assumption)
                                        obtain ⟨ad386, e386, hx386_0⟩ := Kd.at_int (Kd.R_reads' HO_13.out).2.2 x16_2 p386 q386
                                        obtain rfl : ad381 = ad386 := (by injection e386)
                                        replace p386 := eq_true p386
                                        replace q386 := eq_true q386
                                        have p387 : 0 ≤ (a4 : Int) := of_decide_eq_true (by first | (with_reducible assumption) | assumption)
                                        have q387 : a4 < (t357.length : Int) := of_decide_eq_true (by first | (with_reducible assumption) | assumption)
                                        obtain ⟨ad387, e387, hx387_0⟩ := Kd.at_int (Kd.R_reads' HO_11.out).2.2 a4 p387 q387
                                        obtain rfl : ad385 = ad387 := (by injection e387)
                                        replace p387 := eq_true p387
                                        replace q387 := eq_true q387
                                        go_wp2
                                        repeat (go_quiet (fail); try go_wp2)
                                        go_ret
                                        exact ⟨by first | rfl | (simp [errW_none, errW_some] <;> rfl) | (simp [*, errW_none, errW_some] <;> rfl), by repeat (first | (with_reducible first | exact HB.out | apply below_alloc | apply pw_below_drewN | apply below_drew1 | refine below_set ?_ GE362.out | refine below_set ?_ GE368.out) | exact HB.out)⟩
                                      · rw [if_neg c89] at H
                                        have c89b0 : decide (x17_3 < a2) = false := decide_eq_false c89
                                        clear c89
                                        have H' := Aside0.mk H
                                        clear H
                                        have p381 : 0 ≤ (x16_2 : Int) := of_decide_eq_true (by first | (with_reducible assumption) | assumption)
                                        have q381 : x16_2 < (t363.length : Int) := of_decide_eq_true (by first | (with_reducible assumption) | assumption)
                                        obtain ⟨ad381, e381, hx381_0⟩ := Kd.at_int (Kd.R_reads' HO_13.out).2.2 x16_2 p381 q381
                                        cases e381
                                        replace p381 := eq_true p381
                                        replace q381 := eq_true q381
                                        have p385 : 0 ≤ (a4 : Int) := of_decide_eq_true (by first | (with_reducible assumption) | assumption)
                                        have q385 : a4 < (t357.length : Int) := of_decide_eq_true (by first | (with_reducible assumption) | assumption)
                                        obtain ⟨ad385, e385, hx385_0⟩ := Kd.at_int (Kd.R_reads' HO_11.out).2.2 a4 p385 q385
                                        cases e385
                                        replace p385 := eq_true p385
                                        replace q385 := eq_true q385
                                        have p386 : 0 ≤ (x16_2 : Int) := of_decide_eq_true (by first | (with_reducible assumption) | assumption)
                                        have q386 : x16_2 < (t363.length : Int) := of_decide_eq_true (by first | (with_reducible assumption) | assumption)
                                        obtain ⟨ad386, e386, hx386_0⟩ := Kd.at_int (Kd.R_reads' HO_13.out).2.2 x16_2 p386 q386
                                        obtain rfl : ad381 = ad386 := (by injection e386)
                                        replace p386 := eq_true p386
                                        replace q386 := eq_true q386
                                        have p387 : 0 ≤ (a4 : Int) := of_decide_eq_true (by first | (with_reducible assumption) | assumption)
                                        have q387 : a4 < (t357.length : Int) := of_decide_eq_true (by first | (with_reducible assumption) | assumption)
                                        obtain ⟨ad387, e387, hx387_0⟩ := Kd.at_int (Kd.R_reads' HO_11.out).2.2 a4 p387 q387
                                        obtain rfl : ad385 = ad387 := (by injection e387)
                                        replace p387 := eq_true p387
                                        replace q387 := eq_true q387
                                        go_wp2
                                        repeat (go_quiet (fail); try go_wp2)
                                        go_roundg k3
                                        case measure => have := HJ7.out; have := HK2.out; have := HK3.out; omega
                                        case rel => exact ⟨(false), (wrap64 (x16_2 + 1)), (by first | rfl | (simp; done) | (simp [*]; done)), (by first | rfl | (simp; done) | (simp [*]; done)), H', ⟨by have := HJ7.out; have := HK2.out; have := HK3.out; omega⟩, ⟨by (with_reducible repeat (first | apply Kd.R_alloc | apply Kd.R_drewN | apply Kd.R_drew)); exact HO_11.out⟩, ⟨by (with_reducible repeat (first | apply Kd.R_alloc | apply Kd.R_drewN | apply Kd.R_drew)); exact HO_13.out⟩, ⟨by (with_reducible repeat (first | refine blk_drewN ?_ _ | refine blk_drew ?_ | refine blk_alloc ?_ _)); exact BK362.out⟩, ⟨by (with_reducible repeat (first | refine blk_drewN ?_ _ | refine blk_drew ?_ | refine blk_alloc ?_ _)); exact BK368.out⟩, ⟨by repeat (first | (with_reducible first | exact HB.out | apply below_alloc | apply pw_below_drewN | apply below_drew1 | refine below_set ?_ GE362.out | refine below_set ?_ GE368.out) | exact HB.out)⟩⟩
                                    · rw [if_neg c88] at H
                                      have c88b0 : ((rd t363 x16_2) == (rd t357 a4)) = false := beq_eq_false_iff_ne.mpr c88
                                      have c88b1 : ((rd t363 x16_2) != (rd t357 a4)) = true := bne_iff_ne.mpr c88
                                      have H' := Aside0.mk H
                                      clear H
                                      have p381 : 0 ≤ (x16_2 : Int) := of_decide_eq_true (by first | (with_reducible assumption) | assumption)
                                      have q381 : x16_2 < (t363.length : Int) := of_decide_eq_true (by first | (with_reducible assumption) | assumption)
                                      obtain ⟨ad381, e381, hx381_0⟩ := Kd.at_int (Kd.R_reads' HO_13.out).2.2 x16_2 p381 q381
                                      cases e381
                                      replace p381 := eq_true p381
                                      replace q381 := eq_true q381
                                      have p385 : 0 ≤ (a4 : Int) := of_decide_eq_true (by first | (with_reducible assumption) | assumption)
                                      have q385 : a4 < (t357.length : Int) := of_decide_eq_true (by first | (with_reducible assumption) | assumption)
                                      obtain ⟨ad385, e385, hx385_0⟩ := Kd.at_int (Kd.R_reads' HO_11.out).2.2 a4 p385 q385
                                      cases e385
                                      replace p385 := eq_true p385
                                      replace q385 := eq_true q385
                                      have p386 : 0 ≤ (x16_2 : Int) := of_decide_eq_true (by first | (with_reducible assumption) | assumption)
                                      have q386 : x16_2 < (t363.length : Int) := of_decide_eq_true (by first | (with_reducible assumption) | assumption)
                                      obtain ⟨ad386, e386, hx386_0⟩ := Kd.at_int (Kd.R_reads' HO_13.out).2.2 x16_2 p386 q386
                                      obtain rfl : ad381 = ad386 := (by injection e386)
                                      replace p386 := eq_true p386
                                      replace q386 := eq_true q386
                                      have p387 : 0 ≤ (a4 : Int) := of_decide_eq_true (by first | (with_reducible assumption) | assumption)
                                      have q387 : a4 < (t357.length : Int) := of_decide_eq_true (by first | (with_reducible assumption) | assumption)
                                      obtain ⟨ad387, e387, hx387_0⟩ := Kd.at_int (Kd.R_reads' HO_11.out).2.2 a4 p387 q387
                                      obtain rfl : ad385 = ad387 := (by injection e387)
                                      replace p387 := eq_true p387
                                      replace q387 := eq_true q387
                                      go_wp2
                                      repeat (go_quiet (fail); try go_wp2)
                                      go_roundg k3
                                      case measure => have := HJ7.out; have := HK2.out; have := HK3.out; omega
                                      case rel => exact ⟨(false), (wrap64 (x16_2 + 1)), (by first | rfl | (simp; done) | (simp [*]; done)), (by first | rfl | (simp; done) | (simp [*]; done)), H', ⟨by have := HJ7.out; have := HK2.out; have := HK3.out; omega⟩, ⟨by (with_reducible repeat (first | apply Kd.R_alloc | apply Kd.R_drewN | apply Kd.R_drew)); exact HO_11.out⟩, ⟨by (with_reducible repeat (first | apply Kd.R_alloc | apply Kd.R_drewN | apply Kd.R_drew)); exact HO_13.out⟩, ⟨by (with_reducible repeat (first | refine blk_drewN ?_ _ | refine blk_drew ?_ | refine blk_alloc ?_ _)); exact BK362.out⟩, ⟨by (with_reducible repeat (first | refine blk_drewN ?_ _ | refine blk_drew ?_ | refine blk_alloc ?_ _)); exact BK368.out⟩, ⟨by repeat (first | (with_reducible first | exact HB.out | apply below_alloc | apply pw_below_drewN | apply below_drew1 | refine below_set ?_ GE362.out | refine below_set ?_ GE368.out) | exact HB.out)⟩⟩
                                  · rw [if_neg c87] at H
                                    have c87b0 : decide (0 ≤ (rd t357 a4)) = false := decide_eq_false c87
                                    clear c87
                                    have H' := Aside0.mk H
                                    clear H
                                    have p381 : 0 ≤ (x16_2 : Int) := of_decide_eq_true (by first | (with_reducible assumption) | assumption)
                                    have q381 : x16_2 < (t363.length : Int) := of_decide_eq_true (by first | (with_reducible assumption) | assumption)
                                    obtain ⟨ad381, e381, hx381_0⟩ := Kd.at_int (Kd.R_reads' HO_13.out).2.2 x16_2 p381 q381
                                    cases e381
                                    replace p381 := eq_true p381
                                    replace q381 := eq_true q381
                                    have p385 : 0 ≤ (a4 : Int) := of_decide_eq_true (by first | (with_reducible assumption) | assumption)
                                    have q385 : a4 < (t357.length : Int) := of_decide_eq_true (by first | (with_reducible assumption) | assumption)
                                    obtain ⟨ad385, e385, hx385_0⟩ := Kd.at_int (Kd.R_reads' HO_11.out).2.2 a4 p385 q385
                                    cases e385
                                    replace p385 := eq_true p385
                                    replace q385 := eq_true q385
                                    go_wp2
                                    repeat (go_quiet (fail); try go_wp2)
                                    go_roundg k3
                                    case measure => have := HJ7.out; have := HK2.out; have := HK3.out; omega
                                    case rel => exact ⟨(false), (wrap64 (x16_2 + 1)), (by first | rfl | (simp; done) | (simp [*]; done)), (by first | rfl | (simp; done) | (simp [*]; done)), H', ⟨by have := HJ7.out; have := HK2.out; have := HK3.out; omega⟩, ⟨by (with_reducible repeat (first | apply Kd.R_alloc | apply Kd.R_drewN | apply Kd.R_drew)); exact HO_11.out⟩, ⟨by (with_reducible repeat (first | apply Kd.R_alloc | apply Kd.R_drewN | apply Kd.R_drew)); exact HO_13.out⟩, ⟨by (with_reducible repeat (first | refine blk_drewN ?_ _ | refine blk_drew ?_ | refine blk_alloc ?_ _)); exact BK362.out⟩, ⟨by (with_reducible repeat (first | refine blk_drewN ?_ _ | refine blk_drew ?_ | refine blk_alloc ?_ _)); exact BK368.out⟩, ⟨by repeat (first | (with_reducible first | exact HB.out | apply below_alloc | apply pw_below_drewN | apply below_drew1 | refine below_set ?_ GE362.out | refine below_set ?_ GE368.out) | exact HB.out)⟩⟩
                                · rw [if_neg c86] at H
                                  exact absurd H (by simp)
                              · rw [if_neg c85] at H
                                exact absurd H (by simp)
                          · rw [if_neg c78] at H
                            exact absurd H (by simp)
                        · rw [if_neg c77] at H
                          exact absurd H (by simp)
              · rw [if_neg c62] at H
                have c62b0 : decide (x16_2 < (t363.length : Int)) = false := decide_eq_false c62
                clear c62
                by_cases c90 : 0 ≤ a4
                · rw [if_pos c90] at H
                  have c90b0 : decide (0 ≤ a4) = true := decide_eq_true c90
                  clear c90
                  by_cases c91 : a4 < (t357.length : Int)
                  · rw [if_pos c91] at H
                    have c91b0 : decide (a4 < (t357.length : Int)) = true := decide_eq_true c91
                    clear c91
                    by_cases c92 : (x15_2 == (decide ((rd t357 a4) ≥ 0))) = true
                    · rw [if_pos c92] at H
                      have c92b0 : (x15_2 == (decide ((rd t357 a4) ≥ 0))) = true := c92
                      (try (have c92b1 : decide (x15_2 = (decide ((rd t357 a4) ≥ 0))) = true := by simpa using c92))
                      (try (have c92b2 : (x15_2 == (decide ((rd t357 a4) ≥ 0))) = true := by simpa using c92))
                      clear c92
                      by_cases c93 : (rd t357 a4) < 0
                      · rw [if_pos c93] at H
                        have c93b0 : decide ((rd t357 a4) < 0) = true := decide_eq_true c93
                        clear c93
                        obtain rfl := Option.some.inj H
                        obtain ⟨Ao94, co94, eo94⟩ := Kd.R_slice HO_13.out
                        subst eo94
                        have p372 : 0 ≤ (a4 : Int) := of_decide_eq_true (by first | (with_reducible assumption) | assumption)
                        have q372 : a4 < (t357.length : Int) := of_decide_eq_true (by first | (with_reducible assumption) | assumption)
                        obtain ⟨ad372, e372, hx372_0⟩ := Kd.at_int (Kd.R_reads' HO_11.out).2.2 a4 p372 q372
                        cases e372
                        replace p372 := eq_true p372
                        replace q372 := eq_true q372
                        have p373 : 0 ≤ (a4 : Int) := of_decide_eq_true (by first | (with_reducible assumption) | assumption)
                        have q373 : a4 < (t357.length : Int) := of_decide_eq_true (by first | (with_reducible assumption) | assumption)
                        obtain ⟨ad373, e373, hx373_0⟩ := Kd.at_int (Kd.R_reads' HO_11.out).2.2 a4 p373 q373
                        obtain rfl : ad372 = ad373 := (by injection e373)
                        replace p373 := eq_true p373
                        replace q373 := eq_true q373
                        go_wp2
                        repeat (go_quiet (fail); try go_wp2)
                        go_ret
                        exact ⟨by first | rfl | (simp [errW_none, errW_some] <;> rfl) | (simp [*, errW_none, errW_some] <;> rfl), by repeat (first | (with_reducible first | exact HB.out | apply below_alloc | apply pw_below_drewN | apply below_drew1 | refine below_set ?_ GE362.out | refine below_set ?_ GE368.out) | exact HB.out)⟩
                      · rw [if_neg c93] at H
                        have c93b0 : decide ((rd t357 a4) < 0) = false := decide_eq_false c93
                        clear c93
                        replace H := Option.bind_eq_some_iff.mp H
                        obtain ⟨t375, A950, H⟩ := H
                        replace H : (some t375) = some r := H
                        have A95 := Aside0.mk A950
                        clear A950
                        obtain rfl := Option.some.inj H
                        obtain ⟨Ao96, co96, eo96⟩ := Kd.R_slice HO_13.out
                        subst eo96
                        have p372 : 0 ≤ (a4 : Int) := of_decide_eq_true (by first | (with_reducible assumption) | assumption)
                        have q372 : a4 < (t357.length : Int) := of_decide_eq_true (by first | (with_reducible assumption) | assumption)
                        obtain ⟨ad372, e372, hx372_0⟩ := Kd.at_int (Kd.R_reads' HO_11.out).2.2 a4 p372 q372
                        cases e372
                        replace p372 := eq_true p372
                        replace q372 := eq_true q372
                        have p373 : 0 ≤ (a4 : Int) := of_decide_eq_true (by first | (with_reducible assumption) | assumption)
                        have q373 : a4 < (t357.length : Int) := of_decide_eq_true (by first | (with_reducible assumption) | assumption)
                        obtain ⟨ad373, e373, hx373_0⟩ := Kd.at_int (Kd.R_reads' HO_11.out).2.2 a4 p373 q373
                        obtain rfl : ad372 = ad373 := (by injection e373)
                        replace p373 := eq_true p373
                        replace q373 := eq_true q373
                        have p374 : 0 ≤ (a4 : Int) := of_decide_eq_true (by first | (with_reducible assumption) | assumption)
                        have q374 : a4 < (t357.length : Int) := of_decide_eq_true (by first | (with_reducible assumption) | assumption)
                        obtain ⟨ad374, e374, hx374_0⟩ := Kd.at_int (Kd.R_reads' HO_11.out).2.2 a4 p374 q374
                        obtain rfl : ad372 = ad374 := (by injection e374)
                        replace p374 := eq_true p374
                        replace q374 := eq_true q374
                        go_wp2_with (first | (go_at_call 19; (with_reducible refine (changeforgeref5_Has.calls k2 _ _ t363 (rd t357 a4) t375 _ ?side1 ?side2 A95.out).mono ?_); (case side1 => repeat (first | exact (Kd.R_reads' HO_13.out).2.2 | (with_reducible refine Kd.C_alloc ?_ _) | (with_reducible refine Kd.C_drewN ?_ _) | (with_reducible refine Kd.C_drew ?_))); (case side2 => exact (Kd.R_reads' HO_13.out).2.1); rintro e w' ⟨rfl, ⟨nd, rfl⟩⟩; (try first | exact ⟨rfl, _, World.drewN_drewN _ _ _⟩ | exact ⟨rfl, _, Eq.trans (World.drewN_drewN _ _ _) (congrArg (World.drewN _) (Nat.add_assoc _ _ _))⟩)))
                        repeat (go_quiet (first | (go_at_call 19; (with_reducible refine (changeforgeref5_Has.calls k2 _ _ t363 (rd t357 a4) t375 _ ?side1 ?side2 A95.out).mono ?_); (case side1 => repeat (first | exact (Kd.R_reads' HO_13.out).2.2 | (with_reducible refine Kd.C_alloc ?_ _) | (with_reducible refine Kd.C_drewN ?_ _) | (with_reducible refine Kd.C_drew ?_))); (case side2 => exact (Kd.R_reads' HO_13.out).2.1); rintro e w' ⟨rfl, ⟨nd, rfl⟩⟩; (try first | exact ⟨rfl, _, World.drewN_drewN _ _ _⟩ | exact ⟨rfl, _, Eq.trans (World.drewN_drewN _ _ _) (congrArg (World.drewN _) (Nat.add_assoc _ _ _))⟩))); try go_wp2_with (first | (go_at_call 19; (with_reducible refine (changeforgeref5_Has.calls k2 _ _ t363 (rd t357 a4) t375 _ ?side1 ?side2 A95.out).mono ?_); (case side1 => repeat (first | exact (Kd.R_reads' HO_13.out).2.2 | (with_reducible refine Kd.C_alloc ?_ _) | (with_reducible refine Kd.C_drewN ?_ _) | (with_reducible refine Kd.C_drew ?_))); (case side2 => exact (Kd.R_reads' HO_13.out).2.1); rintro e w' ⟨rfl, ⟨nd, rfl⟩⟩; (try first | exact ⟨rfl, _, World.drewN_drewN _ _ _⟩ | exact ⟨rfl, _, Eq.trans (World.drewN_drewN _ _ _) (congrArg (World.drewN _) (Nat.add_assoc _ _ _))⟩))))
                        go_ret
                        exact ⟨by first | rfl | (simp [errW_none, errW_some] <;> rfl) | (simp [*, errW_none, errW_some] <;> rfl), by repeat (first | (with_reducible first | exact HB.out | apply below_alloc | apply pw_below_drewN | apply below_drew1 | refine below_set ?_ GE362.out | refine below_set ?_ GE368.out) | exact HB.out)⟩
                    · rw [if_neg c92] at H
                      have c92b0 : (x15_2 == (decide ((rd t357 a4) ≥ 0))) = false := by simpa using c92
                      (try (have c92b1 : decide (x15_2 = (decide ((rd t357 a4) ≥ 0))) = false := by simpa using c92))
                      (try (have c92b2 : (x15_2 == (decide ((rd t357 a4) ≥ 0))) = false := by simpa using c92))
                      (try (have c92b3 : ¬ (x15_2 = (decide ((rd t357 a4) ≥ 0))) := by simpa using c92))
                      clear c92
                      obtain rfl := Option.some.inj H
                      obtain ⟨Ao97, co97, eo97⟩ := Kd.R_slice HO_13.out
                      subst eo97
                      have p372 : 0 ≤ (a4 : Int) := of_decide_eq_true (by first | (with_reducible assumption) | assumption)
                      have q372 : a4 < (t357.length : Int) := of_decide_eq_true (by first | (with_reducible assumption) | assumption)
                      obtain ⟨ad372, e372, hx372_0⟩ := Kd.at_int (Kd.R_reads' HO_11.out).2.2 a4 p372 q372
                      cases e372
                      replace p372 := eq_true p372
                      replace q372 := eq_true q372
                      go_wp2
                      repeat (go_quiet (fail); try go_wp2)
                      go_ret
                      exact ⟨by first | rfl | (simp [errW_none, errW_some] <;> rfl) | (simp [*, errW_none, errW_some] <;> rfl), by repeat (first | (with_reducible first | exact HB.out | apply below_alloc | apply pw_below_drewN | apply below_drew1 | refine below_set ?_ GE362.out | refine below_set ?_ GE368.out) | exact HB.out)⟩
                  · rw [if_neg c91] at H
                    exact absurd H (by simp)
                · rw [if_neg c90] at H
                  exact absurd H (by simp)
        · replace c60 := Bool.eq_false_iff.mpr c60
          subst c60
          have H1 : (some false) = some r := by rw [if_neg (show ¬ (false = true) by decide)] at H; exact H
          clear H
          have H := H1
          clear H1
          obtain rfl := Option.some.inj H
          obtain ⟨Ao98, co98, eo98⟩ := Kd.R_slice HO_11.out
          subst eo98
          go_wp2_with (first | (go_at_call 13; (with_reducible refine (changeforgelaw6_in.calls a4 0 (wrap64 ((t357.length : Int) - 1)) false _ A59.out).mono ?_); rintro e w' ⟨rfl, ⟨nd, rfl⟩⟩; (try first | exact ⟨rfl, _, World.drewN_drewN _ _ _⟩ | exact ⟨rfl, _, Eq.trans (World.drewN_drewN _ _ _) (congrArg (World.drewN _) (Nat.add_assoc _ _ _))⟩)))
          repeat (go_quiet (first | (go_at_call 13; (with_reducible refine (changeforgelaw6_in.calls a4 0 (wrap64 ((t357.length : Int) - 1)) false _ A59.out).mono ?_); rintro e w' ⟨rfl, ⟨nd, rfl⟩⟩; (try first | exact ⟨rfl, _, World.drewN_drewN _ _ _⟩ | exact ⟨rfl, _, Eq.trans (World.drewN_drewN _ _ _) (congrArg (World.drewN _) (Nat.add_assoc _ _ _))⟩))); try go_wp2_with (first | (go_at_call 13; (with_reducible refine (changeforgelaw6_in.calls a4 0 (wrap64 ((t357.length : Int) - 1)) false _ A59.out).mono ?_); rintro e w' ⟨rfl, ⟨nd, rfl⟩⟩; (try first | exact ⟨rfl, _, World.drewN_drewN _ _ _⟩ | exact ⟨rfl, _, Eq.trans (World.drewN_drewN _ _ _) (congrArg (World.drewN _) (Nat.add_assoc _ _ _))⟩))))
          go_ret
          exact ⟨by first | rfl | (simp [errW_none, errW_some] <;> rfl) | (simp [*, errW_none, errW_some] <;> rfl), by repeat (first | (with_reducible first | exact HB.out | apply below_alloc | apply pw_below_drewN | apply below_drew1 | refine below_set ?_ GE362.out | refine below_set ?_ GE368.out) | exact HB.out)⟩

end Go.Proofs.Ytepflpmngegdiaa.H
end
