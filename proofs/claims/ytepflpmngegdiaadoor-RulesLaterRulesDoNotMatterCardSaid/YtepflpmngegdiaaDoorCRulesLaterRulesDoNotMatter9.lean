/- Texts that the law RulesLaterRulesDoNotMatter comes to, printed and by hand, what is not used left out. -/
import Derived.Test.YtepflpmngegdiaaDoorCRulesLaterRulesDoNotMatter8
section
namespace Go.Proofs.YtepflpmngegdiaaDoor.H
open Go.RowKit Go.Proofs.YtepflpmngegdiaaDoorW.PrintWords Go.Proofs.YtepflpmngegdiaaDoorW.PrintLast Go.Proofs.YtepflpmngegdiaaDoorW.PrintMore
set_option linter.unusedVariables false
set_option linter.unusedSimpArgs false

def changeforgelaw6_in.f (a0 : Int) (a1 : Int) (a2 : Int) : Option (Bool) := if a0 ≥ a1 then (some (decide (a0 ≤ a2))) else (some false)
set_option maxHeartbeats 8000000 in
set_option maxRecDepth 100000 in
theorem changeforgelaw6_in.calls (a0 : Int) (a1 : Int) (a2 : Int) (r : Bool) (w : World) (h : changeforgelaw6_in.f a0 a1 a2 = some r) :
    Calls Tryd.prog 12 #[.int .i64 a0, .int .i64 a1, .int .i64 a2] w fun e w' => e = .returned (.bool r) ∧ Drawn0 w w' := by
  have H : (if a0 ≥ a1 then (some (decide (a0 ≤ a2))) else (some false)) = some r := h
  clear h
  by_cases c4 : a0 ≥ a1
  · rw [if_pos c4] at H
    have c4b0 : decide (a1 ≤ a0) = true := decide_eq_true c4
    clear c4
    obtain rfl := Option.some.inj H
    go_enter Tryd.func12, Tryd.ntmps12
    go_wp2
    go_ret
    exact ⟨by first | rfl | (simp; done) | (simp [*]; done), by repeat (first | exact Drawn0.refl _ | apply Drawn0.step)⟩
  · rw [if_neg c4] at H
    have c4b0 : decide (a1 ≤ a0) = false := decide_eq_false c4
    clear c4
    obtain rfl := Option.some.inj H
    go_enter Tryd.func12, Tryd.ntmps12
    go_wp2
    go_ret
    exact ⟨by first | rfl | (simp; done) | (simp [*]; done), by repeat (first | exact Drawn0.refl _ | apply Drawn0.step)⟩

mutual
def changeforgelaw6_RulesLaterRulesDoNotMatter.j0 : Nat → List (S33) → Int → List (S44) → Bool → Int → Int → Option (Bool)
  | 0, _, _, _, _, _, _ => none
  | k + 1, x0, x1, x5, x25, x381000, x381001 => if x25 = true then (some false) else (if x381000 = 0 then ((changeforgelaw6_in.f x1 0 (x0.length : Int)).bind fun t382 => (changeforgelaw6_RulesLaterRulesDoNotMatter.j1 k x0 x1 x5 (!t382))) else (changeforgelaw6_RulesLaterRulesDoNotMatter.j1 k x0 x1 x5 true))
def changeforgelaw6_RulesLaterRulesDoNotMatter.j1 : Nat → List (S33) → Int → List (S44) → Bool → Option (Bool)
  | 0, _, _, _, _ => none
  | k + 1, x0, x1, x5, x35 => if x35 = true then (some true) else (if 0 ≤ x1 then (if x1 ≤ (x0.length : Int) then ((rules_Expand.f k (x0.take (x1 : Int).toNat)).bind fun bt387 => (if bt387.2.1 = 0 then (if (bt387.1.length : Int) ≤ (x5.length : Int) then (if 0 ≤ (bt387.1.length : Int) then ((changeforgeref6_SameSteps.f k bt387.1 (x5.take ((bt387.1.length : Int) : Int).toNat)).bind fun t397 => (some t397)) else (none)) else (some false)) else (some false))) else (none)) else (none))
end
def changeforgelaw6_RulesLaterRulesDoNotMatter.f (k : Nat) (l0 : List (S33)) (a1 : Int) : Option (Bool) := (rules_Expand.f k l0).bind fun bt375 => ((changeforgelaw6_expands.f k).bind fun t381 => (if t381 = true then (if bt375.2.1 = 0 then (changeforgelaw6_RulesLaterRulesDoNotMatter.j0 k l0 a1 bt375.1 false bt375.2.1 bt375.2.2) else (changeforgelaw6_RulesLaterRulesDoNotMatter.j0 k l0 a1 bt375.1 (decide ((bt375.1.length : Int) > 0)) bt375.2.1 bt375.2.2)) else (changeforgelaw6_RulesLaterRulesDoNotMatter.j0 k l0 a1 bt375.1 true bt375.2.1 bt375.2.2)))
theorem changeforgelaw6_RulesLaterRulesDoNotMatter.mono_l : ∀ k, (∀ y0 y1 y2 y3 y4 y5, LeO (changeforgelaw6_RulesLaterRulesDoNotMatter.j0 k y0 y1 y2 y3 y4 y5) (changeforgelaw6_RulesLaterRulesDoNotMatter.j0 (k + 1) y0 y1 y2 y3 y4 y5)) ∧ (∀ y0 y1 y2 y3, LeO (changeforgelaw6_RulesLaterRulesDoNotMatter.j1 k y0 y1 y2 y3) (changeforgelaw6_RulesLaterRulesDoNotMatter.j1 (k + 1) y0 y1 y2 y3))
  | 0 => ⟨fun _ _ _ _ _ _ r h => by simp [changeforgelaw6_RulesLaterRulesDoNotMatter.j0] at h, fun _ _ _ _ r h => by simp [changeforgelaw6_RulesLaterRulesDoNotMatter.j1] at h⟩
  | k + 1 => by
    obtain ⟨ih0, ih1⟩ := changeforgelaw6_RulesLaterRulesDoNotMatter.mono_l k
    refine ⟨?_, ?_⟩
    · intro y0 y1 y2 y3 y4 y5
      unfold changeforgelaw6_RulesLaterRulesDoNotMatter.j0
      repeat' first
      | (with_reducible exact ih0 _ _ _ _ _ _)
      | (with_reducible exact ih1 _ _ _ _)
      | (with_reducible exact changeforgelaw6_expands.mono _)
      | (with_reducible exact changeforgeref6_SameSteps.mono _ _ _)
      | (with_reducible exact rules_Expand.mono _ _)
      | (with_reducible exact LeO.refl _)
      | (with_reducible exact LeO.none _)
      | (with_reducible refine LeO.ite ?_ ?_)
      | (with_reducible refine LeO.bind ?_ (fun _ => ?_))
      | exact ih0 _ _ _ _ _ _
      | exact ih1 _ _ _ _
      | exact changeforgelaw6_expands.mono _
      | exact changeforgeref6_SameSteps.mono _ _ _
      | exact rules_Expand.mono _ _
      | exact LeO.none _
      | refine LeO.ite ?_ ?_
      | refine LeO.bind ?_ (fun _ => ?_)
    · intro y0 y1 y2 y3
      unfold changeforgelaw6_RulesLaterRulesDoNotMatter.j1
      repeat' first
      | (with_reducible exact ih0 _ _ _ _ _ _)
      | (with_reducible exact ih1 _ _ _ _)
      | (with_reducible exact changeforgelaw6_expands.mono _)
      | (with_reducible exact changeforgeref6_SameSteps.mono _ _ _)
      | (with_reducible exact rules_Expand.mono _ _)
      | (with_reducible exact LeO.refl _)
      | (with_reducible exact LeO.none _)
      | (with_reducible refine LeO.ite ?_ ?_)
      | (with_reducible refine LeO.bind ?_ (fun _ => ?_))
      | exact ih0 _ _ _ _ _ _
      | exact ih1 _ _ _ _
      | exact changeforgelaw6_expands.mono _
      | exact changeforgeref6_SameSteps.mono _ _ _
      | exact rules_Expand.mono _ _
      | exact LeO.none _
      | refine LeO.ite ?_ ?_
      | refine LeO.bind ?_ (fun _ => ?_)
theorem changeforgelaw6_RulesLaterRulesDoNotMatter.mono : ∀ a0 a1 k, LeO (changeforgelaw6_RulesLaterRulesDoNotMatter.f k a0 a1) (changeforgelaw6_RulesLaterRulesDoNotMatter.f (k + 1) a0 a1) := by
  intro a0 a1 k
  obtain ⟨ih0, ih1⟩ := changeforgelaw6_RulesLaterRulesDoNotMatter.mono_l k
  unfold changeforgelaw6_RulesLaterRulesDoNotMatter.f
  repeat' first
      | (with_reducible exact ih0 _ _ _ _ _ _)
      | (with_reducible exact ih1 _ _ _ _)
      | (with_reducible exact changeforgelaw6_expands.mono _)
      | (with_reducible exact changeforgeref6_SameSteps.mono _ _ _)
      | (with_reducible exact rules_Expand.mono _ _)
      | (with_reducible exact LeO.refl _)
      | (with_reducible exact LeO.none _)
      | (with_reducible refine LeO.ite ?_ ?_)
      | (with_reducible refine LeO.bind ?_ (fun _ => ?_))
      | exact ih0 _ _ _ _ _ _
      | exact ih1 _ _ _ _
      | exact changeforgelaw6_expands.mono _
      | exact changeforgeref6_SameSteps.mono _ _ _
      | exact rules_Expand.mono _ _
      | exact LeO.none _
      | refine LeO.ite ?_ ?_
      | refine LeO.bind ?_ (fun _ => ?_)
set_option maxHeartbeats 8000000 in
set_option maxRecDepth 100000 in
theorem changeforgelaw6_RulesLaterRulesDoNotMatter.calls (k : Nat) (A0 : Option Addr) (c0 : Nat) (l0 : List (S33)) (a1 : Int) (r : Bool) (w : World) (hr0 : Kd.C k33 w A0 l0.length l0) (hc0 : l0.length ≤ c0) (hG : Glob w) (h : changeforgelaw6_RulesLaterRulesDoNotMatter.f k l0 a1 = some r) :
    Calls Tryd.prog 7 #[.slice A0 l0.length c0, .int .i64 a1] w fun e w' => e = .returned (.bool r) ∧ Below w.heap.size w w' := by
  have hu24 := Tryd.underlying24
  have HR0 := Aside0.mk hr0
  have HC0 := Aside0.mk hc0
  clear hr0 hc0
  have HG := Aside0.mk hG
  clear hG
  have HB := Aside0.mk (Below.refl w.heap.size w)
  have H : ((rules_Expand.f k l0).bind fun bt375 => ((changeforgelaw6_expands.f k).bind fun t381 => (if t381 = true then (if bt375.2.1 = 0 then (changeforgelaw6_RulesLaterRulesDoNotMatter.j0 k l0 a1 bt375.1 false bt375.2.1 bt375.2.2) else (changeforgelaw6_RulesLaterRulesDoNotMatter.j0 k l0 a1 bt375.1 (decide ((bt375.1.length : Int) > 0)) bt375.2.1 bt375.2.2)) else (changeforgelaw6_RulesLaterRulesDoNotMatter.j0 k l0 a1 bt375.1 true bt375.2.1 bt375.2.2)))) = some r := h
  clear h
  replace H := Option.bind_eq_some_iff.mp H
  obtain ⟨⟨t375, t378, t379⟩, A30, H⟩ := H
  replace H : ((changeforgelaw6_expands.f k).bind fun t381 => (if t381 = true then (if t378 = 0 then (changeforgelaw6_RulesLaterRulesDoNotMatter.j0 k l0 a1 t375 false t378 t379) else (changeforgelaw6_RulesLaterRulesDoNotMatter.j0 k l0 a1 t375 (decide ((t375.length : Int) > 0)) t378 t379)) else (changeforgelaw6_RulesLaterRulesDoNotMatter.j0 k l0 a1 t375 true t378 t379))) = some r := H
  have A3 := Aside0.mk A30
  clear A30
  have HC4 := Aside0.mk H
  clear H
  go_enter Tryd.func7, Tryd.ntmps7
  go_upto_region 2 with (first | ((with_reducible refine gate_callee (f := 17) rfl ?_); refine goesL_ (some 11) rfl rfl Tryd.func17 (by kernel_rfl) rfl #[.slice A0 l0.length c0] rfl (by (try simp only [List.map_toArray, List.map_cons, List.map_nil]); first | done | rfl | (simp only [List.length_drop, List.length_take]; rfl) | (simp only [KY32.out]; rfl) | (simp only [KY41.out]; rfl) | (simp only [KY43.out]; rfl) | (simp only [KY50.out]; rfl) | (go_simp; rw [KY32.out, KY41.out]) | (go_simp; rw [KY32.out, KY43.out]) | (go_simp; rw [KY32.out, KY50.out]) | (go_simp; rw [KY41.out, KY32.out]) | (go_simp; rw [KY41.out, KY43.out]) | (go_simp; rw [KY41.out, KY50.out]) | (go_simp; rw [KY43.out, KY32.out]) | (go_simp; rw [KY43.out, KY41.out]) | (go_simp; rw [KY43.out, KY50.out]) | (go_simp; rw [KY50.out, KY32.out]) | (go_simp; rw [KY50.out, KY41.out]) | (go_simp; rw [KY50.out, KY43.out])) ?_; (with_reducible refine (rules_Expand.calls k _ _ l0 t375 t378 t379 _ ?side1 ?side2 ?side3 A3.out).mono ?_); (case side1 => repeat (first | exact HR0.out | (with_reducible refine Kd.C_alloc ?_ _) | (with_reducible refine Kd.C_drewN ?_ _) | (with_reducible refine Kd.C_drew ?_))); (case side2 => exact HC0.out); (case side3 => exact Glob.below HG.out (by repeat (first | (with_reducible first | exact HB.out | apply below_alloc | apply pw_below_drewN | apply below_drew1) | exact HB.out))); rintro e w5 ⟨v376, rfl, ho0, hb⟩; refine ⟨_, rfl, ?_⟩; have n0_ := Aside0.mk (Kd.S_lower ho0 (below_size (by repeat (first | (with_reducible first | exact HB.out | apply below_alloc | apply pw_below_drewN | apply below_drew1) | exact HB.out)))); have n1_ := Aside0.mk (below_step (by repeat (first | (with_reducible first | exact HB.out | apply below_alloc | apply pw_below_drewN | apply below_drew1) | exact HB.out)) hb); clear HB; have HO377 := n0_; have HB := n1_; clear n0_ n1_; (try clear hb); (try clear hb2); (try clear hk); (try clear hi); (try clear ho0)) | ((with_reducible refine gate_dst (N := 6) rfl ?_); (try (refine gate_guard (by rfl) ?_; dsimp only)); refine box_event ?hg (N := 6) ?hd (cs := #[.int .i64 0, .int .i64 0]) (t := 24) ?hr ?_; (case hd => rfl); (case hg => rfl); (case hr => first | (go_simp; done) | (go_simp; rfl)); intro gb380 hg w6 hbox hb; have n0_ := Aside0.mk (Kd.S_below (by (with_reducible repeat (first | apply Kd.S_alloc | apply Kd.S_drewN | apply Kd.S_drew)); exact HO377.out) hb); have n1_ := Aside0.mk (below_step (by repeat (first | (with_reducible first | exact HB.out | apply below_alloc | apply pw_below_drewN | apply below_drew1) | exact HB.out)) hb); have n2_ := Aside0.mk (hbox); have n3_ := Aside0.mk ((by rw [hg]; exact (below_size (by repeat (first | (with_reducible first | exact HB.out | apply below_alloc | apply pw_below_drewN | apply below_drew1) | exact HB.out))) : w.heap.size ≤ gb380)); have n4_ := Aside0.mk ((by rw [hg]; exact (below_size (by repeat (first | (with_reducible first | exact HB.out | apply below_alloc | apply pw_below_drewN | apply below_drew1) | exact HB.out))) : w.heap.size ≤ gb380)); clear HO377; clear HB; have HO377 := n0_; have HB := n1_; have BK380 := n2_; have GW380 := n3_; have GE380 := n4_; clear n0_ n1_ n2_ n3_ n4_; clear hb hbox hg; have hcz7_0 : w6.cell? ⟨gb380, 0, none⟩ = some (.int .i64 0) := (blk_cell BK380.out 0).trans rfl; have hcz7_1 : w6.cell? ⟨gb380, 1, none⟩ = some (.int .i64 0) := (blk_cell BK380.out 1).trans rfl; have hfz7_0 := blk_frozen BK380.out 0; have hfz7_1 := blk_frozen BK380.out 1))
  (try simp only [Act.put, List.setIfInBounds_toArray, List.set_cons_zero, List.set_cons_succ])
  go_cut [25] (fun v25 wc => ∃ (kq : Nat) (x25_3 : Bool), v25 = .bool x25_3 ∧ Aside0 (changeforgelaw6_RulesLaterRulesDoNotMatter.j0 kq l0 a1 t375 x25_3 t378 t379 = some r) ∧ Aside0 (kq ≤ k) ∧ Aside0 (Kd.S k44 44 wc w.heap.size (fun _ => True) v376 t375) ∧ Aside0 (wc.heap[gb380]? = some (.cells #[.int .i64 t378, .int .i64 t379] 24 (0, 0))) ∧ Aside0 (Below w.heap.size w wc))
  case first =>
    have H := HC4.out
    clear HC4
    replace H := Option.bind_eq_some_iff.mp H
    obtain ⟨t381, A80, H⟩ := H
    replace H : (if t381 = true then (if t378 = 0 then (changeforgelaw6_RulesLaterRulesDoNotMatter.j0 k l0 a1 t375 false t378 t379) else (changeforgelaw6_RulesLaterRulesDoNotMatter.j0 k l0 a1 t375 (decide ((t375.length : Int) > 0)) t378 t379)) else (changeforgelaw6_RulesLaterRulesDoNotMatter.j0 k l0 a1 t375 true t378 t379)) = some r := H
    have A8 := Aside0.mk A80
    clear A80
    by_cases c9 : t381 = true
    · subst c9
      have H1 : (if t378 = 0 then (changeforgelaw6_RulesLaterRulesDoNotMatter.j0 k l0 a1 t375 false t378 t379) else (changeforgelaw6_RulesLaterRulesDoNotMatter.j0 k l0 a1 t375 (decide ((t375.length : Int) > 0)) t378 t379)) = some r := by rw [if_pos rfl] at H; exact H
      clear H
      have H := H1
      clear H1
      by_cases c10 : t378 = 0
      · rw [if_pos c10] at H
        have c10b0 : (t378 == 0) = true := beq_iff_eq.mpr c10
        have c10b1 : (t378 != 0) = false := bne_eq_false_iff_eq.mpr c10
        clear c10
        (first | rw [c10b0] | (simp only [i64_w, i32_w]; rw [c10b0]) | skip)
        have H' := Aside0.mk H
        clear H
        go_wp2_with (first | ((with_reducible refine gate_callee (f := 10) rfl ?_); refine goesL_ (some 14) rfl rfl Tryd.func10 (by kernel_rfl) rfl #[] rfl (by (try simp only [List.map_toArray, List.map_cons, List.map_nil]); first | done | rfl | (simp only [List.length_drop, List.length_take]; rfl) | (simp only [KY32.out]; rfl) | (simp only [KY41.out]; rfl) | (simp only [KY43.out]; rfl) | (simp only [KY50.out]; rfl) | (go_simp; rw [KY32.out, KY41.out]) | (go_simp; rw [KY32.out, KY43.out]) | (go_simp; rw [KY32.out, KY50.out]) | (go_simp; rw [KY41.out, KY32.out]) | (go_simp; rw [KY41.out, KY43.out]) | (go_simp; rw [KY41.out, KY50.out]) | (go_simp; rw [KY43.out, KY32.out]) | (go_simp; rw [KY43.out, KY41.out]) | (go_simp; rw [KY43.out, KY50.out]) | (go_simp; rw [KY50.out, KY32.out]) | (go_simp; rw [KY50.out, KY41.out]) | (go_simp; rw [KY50.out, KY43.out])) ?_; (with_reducible refine (changeforgelaw6_expands.calls k  true _ ?side1 A8.out).mono ?_); (case side1 => exact Glob.below HG.out (by repeat (first | (with_reducible first | exact HB.out | apply below_alloc | apply pw_below_drewN | apply below_drew1 | refine below_set ?_ GE380.out) | exact HB.out))); rintro e w11 ⟨rfl, hb⟩; refine ⟨_, rfl, ?_⟩; have n0_ := Aside0.mk (Kd.S_below (by (with_reducible repeat (first | apply Kd.S_alloc | apply Kd.S_drewN | apply Kd.S_drew)); exact (Kd.S_mono (Kd.S_far (p := ⟨gb380, 1, none⟩) (Kd.S_far (p := ⟨gb380, 0, none⟩) (Kd.S_types HO377.out BK380.out (by decide)) (fun _ hk => hk.2) (.int .i64 t378)) (fun _ hk => hk.2) (.int .i64 t379)) (fun _ h_ => h_.1))) hb); have n1_ := Aside0.mk (blk_below (g := gb380) (o := .cells #[.int .i64 t378, .int .i64 t379] 24 (0, 0)) (by (with_reducible repeat (first | refine blk_drewN ?_ _ | refine blk_drew ?_ | refine blk_alloc ?_ _)); refine blk_put (cs := #[.int .i64 t378, .int .i64 0]) ?_ 1 _ rfl; (with_reducible repeat (first | refine blk_drewN ?_ _ | refine blk_drew ?_ | refine blk_alloc ?_ _)); refine blk_put (cs := #[.int .i64 0, .int .i64 0]) ?_ 0 _ rfl; (with_reducible repeat (first | refine blk_drewN ?_ _ | refine blk_drew ?_ | refine blk_alloc ?_ _)); exact BK380.out) hb); have n2_ := Aside0.mk (below_step (by repeat (first | (with_reducible first | exact HB.out | apply below_alloc | apply pw_below_drewN | apply below_drew1 | refine below_set ?_ GE380.out) | exact HB.out)) hb); clear HO377; clear BK380; clear HB; have HO377 := n0_; have BK380 := n1_; have HB := n2_; clear n0_ n1_ n2_; (try clear hb); (try clear hb2); (try clear hk); (try clear hi); have hcz12_0 : w11.cell? ⟨gb380, 0, none⟩ = some (.int .i64 t378) := (blk_cell BK380.out 0).trans rfl; have hcz12_1 : w11.cell? ⟨gb380, 1, none⟩ = some (.int .i64 t379) := (blk_cell BK380.out 1).trans rfl; have hfz12_0 := blk_frozen BK380.out 0; have hfz12_1 := blk_frozen BK380.out 1))
        go_meet
        case rel => exact ⟨_, (false), (by first | rfl | (simp; done) | (simp [*]; done)), H', ⟨by first | omega | exact Nat.le_refl _⟩, ⟨by (with_reducible repeat (first | apply Kd.S_alloc | apply Kd.S_drewN | apply Kd.S_drew)); exact HO377.out⟩, ⟨by (with_reducible repeat (first | refine blk_drewN ?_ _ | refine blk_drew ?_ | refine blk_alloc ?_ _)); exact BK380.out⟩, ⟨by repeat (first | (with_reducible first | exact HB.out | apply below_alloc | apply pw_below_drewN | apply below_drew1 | refine below_set ?_ GE380.out) | exact HB.out)⟩⟩
      · rw [if_neg c10] at H
        have c10b0 : (t378 == 0) = false := beq_eq_false_iff_ne.mpr c10
        have c10b1 : (t378 != 0) = true := bne_iff_ne.mpr c10
        (first | rw [c10b0] | (simp only [i64_w, i32_w]; rw [c10b0]) | skip)
        have H' := Aside0.mk H
        clear H
        go_wp2_with (first | ((with_reducible refine gate_callee (f := 10) rfl ?_); refine goesL_ (some 14) rfl rfl Tryd.func10 (by kernel_rfl) rfl #[] rfl (by (try simp only [List.map_toArray, List.map_cons, List.map_nil]); first | done | rfl | (simp only [List.length_drop, List.length_take]; rfl) | (simp only [KY32.out]; rfl) | (simp only [KY41.out]; rfl) | (simp only [KY43.out]; rfl) | (simp only [KY50.out]; rfl) | (go_simp; rw [KY32.out, KY41.out]) | (go_simp; rw [KY32.out, KY43.out]) | (go_simp; rw [KY32.out, KY50.out]) | (go_simp; rw [KY41.out, KY32.out]) | (go_simp; rw [KY41.out, KY43.out]) | (go_simp; rw [KY41.out, KY50.out]) | (go_simp; rw [KY43.out, KY32.out]) | (go_simp; rw [KY43.out, KY41.out]) | (go_simp; rw [KY43.out, KY50.out]) | (go_simp; rw [KY50.out, KY32.out]) | (go_simp; rw [KY50.out, KY41.out]) | (go_simp; rw [KY50.out, KY43.out])) ?_; (with_reducible refine (changeforgelaw6_expands.calls k  true _ ?side1 A8.out).mono ?_); (case side1 => exact Glob.below HG.out (by repeat (first | (with_reducible first | exact HB.out | apply below_alloc | apply pw_below_drewN | apply below_drew1 | refine below_set ?_ GE380.out) | exact HB.out))); rintro e w13 ⟨rfl, hb⟩; refine ⟨_, rfl, ?_⟩; have n0_ := Aside0.mk (Kd.S_below (by (with_reducible repeat (first | apply Kd.S_alloc | apply Kd.S_drewN | apply Kd.S_drew)); exact (Kd.S_mono (Kd.S_far (p := ⟨gb380, 1, none⟩) (Kd.S_far (p := ⟨gb380, 0, none⟩) (Kd.S_types HO377.out BK380.out (by decide)) (fun _ hk => hk.2) (.int .i64 t378)) (fun _ hk => hk.2) (.int .i64 t379)) (fun _ h_ => h_.1))) hb); have n1_ := Aside0.mk (blk_below (g := gb380) (o := .cells #[.int .i64 t378, .int .i64 t379] 24 (0, 0)) (by (with_reducible repeat (first | refine blk_drewN ?_ _ | refine blk_drew ?_ | refine blk_alloc ?_ _)); refine blk_put (cs := #[.int .i64 t378, .int .i64 0]) ?_ 1 _ rfl; (with_reducible repeat (first | refine blk_drewN ?_ _ | refine blk_drew ?_ | refine blk_alloc ?_ _)); refine blk_put (cs := #[.int .i64 0, .int .i64 0]) ?_ 0 _ rfl; (with_reducible repeat (first | refine blk_drewN ?_ _ | refine blk_drew ?_ | refine blk_alloc ?_ _)); exact BK380.out) hb); have n2_ := Aside0.mk (below_step (by repeat (first | (with_reducible first | exact HB.out | apply below_alloc | apply pw_below_drewN | apply below_drew1 | refine below_set ?_ GE380.out) | exact HB.out)) hb); clear HO377; clear BK380; clear HB; have HO377 := n0_; have BK380 := n1_; have HB := n2_; clear n0_ n1_ n2_; (try clear hb); (try clear hb2); (try clear hk); (try clear hi); have hcz14_0 : w13.cell? ⟨gb380, 0, none⟩ = some (.int .i64 t378) := (blk_cell BK380.out 0).trans rfl; have hcz14_1 : w13.cell? ⟨gb380, 1, none⟩ = some (.int .i64 t379) := (blk_cell BK380.out 1).trans rfl; have hfz14_0 := blk_frozen BK380.out 0; have hfz14_1 := blk_frozen BK380.out 1; obtain ⟨Ao15, co15, eo15⟩ := Kd.S_slice HO377.out; subst eo15))
        go_meet
        case rel => exact ⟨_, (decide ((t375.length : Int) > 0)), (by first | rfl | (simp; done) | (simp [*]; done)), H', ⟨by first | omega | exact Nat.le_refl _⟩, ⟨by (with_reducible repeat (first | apply Kd.S_alloc | apply Kd.S_drewN | apply Kd.S_drew)); exact HO377.out⟩, ⟨by (with_reducible repeat (first | refine blk_drewN ?_ _ | refine blk_drew ?_ | refine blk_alloc ?_ _)); exact BK380.out⟩, ⟨by repeat (first | (with_reducible first | exact HB.out | apply below_alloc | apply pw_below_drewN | apply below_drew1 | refine below_set ?_ GE380.out) | exact HB.out)⟩⟩
    · replace c9 := Bool.eq_false_iff.mpr c9
      subst c9
      have H1 : (changeforgelaw6_RulesLaterRulesDoNotMatter.j0 k l0 a1 t375 true t378 t379) = some r := by rw [if_neg (show ¬ (false = true) by decide)] at H; exact H
      clear H
      have H := H1
      clear H1
      have H' := Aside0.mk H
      clear H
      go_wp2_with (first | ((with_reducible refine gate_callee (f := 10) rfl ?_); refine goesL_ (some 14) rfl rfl Tryd.func10 (by kernel_rfl) rfl #[] rfl (by (try simp only [List.map_toArray, List.map_cons, List.map_nil]); first | done | rfl | (simp only [List.length_drop, List.length_take]; rfl) | (simp only [KY32.out]; rfl) | (simp only [KY41.out]; rfl) | (simp only [KY43.out]; rfl) | (simp only [KY50.out]; rfl) | (go_simp; rw [KY32.out, KY41.out]) | (go_simp; rw [KY32.out, KY43.out]) | (go_simp; rw [KY32.out, KY50.out]) | (go_simp; rw [KY41.out, KY32.out]) | (go_simp; rw [KY41.out, KY43.out]) | (go_simp; rw [KY41.out, KY50.out]) | (go_simp; rw [KY43.out, KY32.out]) | (go_simp; rw [KY43.out, KY41.out]) | (go_simp; rw [KY43.out, KY50.out]) | (go_simp; rw [KY50.out, KY32.out]) | (go_simp; rw [KY50.out, KY41.out]) | (go_simp; rw [KY50.out, KY43.out])) ?_; (with_reducible refine (changeforgelaw6_expands.calls k  false _ ?side1 A8.out).mono ?_); (case side1 => exact Glob.below HG.out (by repeat (first | (with_reducible first | exact HB.out | apply below_alloc | apply pw_below_drewN | apply below_drew1 | refine below_set ?_ GE380.out) | exact HB.out))); rintro e w16 ⟨rfl, hb⟩; refine ⟨_, rfl, ?_⟩; have n0_ := Aside0.mk (Kd.S_below (by (with_reducible repeat (first | apply Kd.S_alloc | apply Kd.S_drewN | apply Kd.S_drew)); exact (Kd.S_mono (Kd.S_far (p := ⟨gb380, 1, none⟩) (Kd.S_far (p := ⟨gb380, 0, none⟩) (Kd.S_types HO377.out BK380.out (by decide)) (fun _ hk => hk.2) (.int .i64 t378)) (fun _ hk => hk.2) (.int .i64 t379)) (fun _ h_ => h_.1))) hb); have n1_ := Aside0.mk (blk_below (g := gb380) (o := .cells #[.int .i64 t378, .int .i64 t379] 24 (0, 0)) (by (with_reducible repeat (first | refine blk_drewN ?_ _ | refine blk_drew ?_ | refine blk_alloc ?_ _)); refine blk_put (cs := #[.int .i64 t378, .int .i64 0]) ?_ 1 _ rfl; (with_reducible repeat (first | refine blk_drewN ?_ _ | refine blk_drew ?_ | refine blk_alloc ?_ _)); refine blk_put (cs := #[.int .i64 0, .int .i64 0]) ?_ 0 _ rfl; (with_reducible repeat (first | refine blk_drewN ?_ _ | refine blk_drew ?_ | refine blk_alloc ?_ _)); exact BK380.out) hb); have n2_ := Aside0.mk (below_step (by repeat (first | (with_reducible first | exact HB.out | apply below_alloc | apply pw_below_drewN | apply below_drew1 | refine below_set ?_ GE380.out) | exact HB.out)) hb); clear HO377; clear BK380; clear HB; have HO377 := n0_; have BK380 := n1_; have HB := n2_; clear n0_ n1_ n2_; (try clear hb); (try clear hb2); (try clear hk); (try clear hi)))
      go_meet
      case rel => exact ⟨_, (true), (by first | rfl | (simp; done) | (simp [*]; done)), H', ⟨by first | omega | exact Nat.le_refl _⟩, ⟨by (with_reducible repeat (first | apply Kd.S_alloc | apply Kd.S_drewN | apply Kd.S_drew)); exact HO377.out⟩, ⟨by (with_reducible repeat (first | refine blk_drewN ?_ _ | refine blk_drew ?_ | refine blk_alloc ?_ _)); exact BK380.out⟩, ⟨by repeat (first | (with_reducible first | exact HB.out | apply below_alloc | apply pw_below_drewN | apply below_drew1 | refine below_set ?_ GE380.out) | exact HB.out)⟩⟩
  case rest =>
    clear HC4
    try clear c1
    try clear p2
    try clear c7
    try clear c9
    try clear c10
    try clear c10b0
    try clear c10b1
    try clear hcz12_0
    try clear hcz12_1
    try clear hcz14_0
    try clear hcz14_1
    try clear hcz7_0
    try clear hcz7_1
    try clear hfz12_0
    try clear hfz12_1
    try clear hfz14_0
    try clear hfz14_1
    try clear hfz7_0
    try clear hfz7_1
    obtain ⟨kq, x25_3, rfl, HA, HJ3, HO_5, BK380, HB⟩ := hcut
    cases kq with
    | zero => exact absurd HA.out (by simp [changeforgelaw6_RulesLaterRulesDoNotMatter.j0])
    | succ kj3 =>
      have H := HA.out
      clear HA
      simp only [changeforgelaw6_RulesLaterRulesDoNotMatter.j0] at H
      by_cases c17 : x25_3 = true
      · subst c17
        have H1 : (some false) = some r := by rw [if_pos rfl] at H; exact H
        clear H
        have H := H1
        clear H1
        obtain rfl := Option.some.inj H
        go_wp2
        go_ret
        exact ⟨by first | rfl | (simp [errW_none, errW_some] <;> rfl) | (simp [*, errW_none, errW_some] <;> rfl), by repeat (first | (with_reducible first | exact HB.out | apply below_alloc | apply pw_below_drewN | apply below_drew1 | refine below_set ?_ GE380.out) | exact HB.out)⟩
      · replace c17 := Bool.eq_false_iff.mpr c17
        subst c17
        have H1 : (if t378 = 0 then ((changeforgelaw6_in.f a1 0 (l0.length : Int)).bind fun t382 => (changeforgelaw6_RulesLaterRulesDoNotMatter.j1 kj3 l0 a1 t375 (!t382))) else (changeforgelaw6_RulesLaterRulesDoNotMatter.j1 kj3 l0 a1 t375 true)) = some r := by rw [if_neg (show ¬ (false = true) by decide)] at H; exact H
        clear H
        have H := H1
        clear H1
        have HC18 := Aside0.mk H
        clear H
        go_upto_region 4 with (fail)
        go_cut [35] (fun v35 wc => ∃ (kq : Nat) (x35_17 : Bool), v35 = .bool x35_17 ∧ Aside0 (changeforgelaw6_RulesLaterRulesDoNotMatter.j1 kq l0 a1 t375 x35_17 = some r) ∧ Aside0 (kq ≤ kj3) ∧ Aside0 (Kd.S k44 44 wc w.heap.size (fun _ => True) v376 t375) ∧ Aside0 (wc.heap[gb380]? = some (.cells #[.int .i64 t378, .int .i64 t379] 24 (0, 0))) ∧ Aside0 (Below w.heap.size w wc))
        case first =>
          have H := HC18.out
          clear HC18
          by_cases c19 : t378 = 0
          · rw [if_pos c19] at H
            have c19b0 : (t378 == 0) = true := beq_iff_eq.mpr c19
            have c19b1 : (t378 != 0) = false := bne_eq_false_iff_eq.mpr c19
            clear c19
            (first | rw [c19b0] | (simp only [i64_w, i32_w]; rw [c19b0]) | skip)
            replace H := Option.bind_eq_some_iff.mp H
            obtain ⟨t382, A200, H⟩ := H
            replace H : (changeforgelaw6_RulesLaterRulesDoNotMatter.j1 kj3 l0 a1 t375 (!t382)) = some r := H
            have A20 := Aside0.mk A200
            clear A200
            have H' := Aside0.mk H
            clear H
            have hcz21_0 : wc.cell? ⟨gb380, 0, none⟩ = some (.int .i64 t378) := (blk_cell BK380.out 0).trans rfl
            have hcz21_1 : wc.cell? ⟨gb380, 1, none⟩ = some (.int .i64 t379) := (blk_cell BK380.out 1).trans rfl
            have hfz21_0 := blk_frozen BK380.out 0
            have hfz21_1 := blk_frozen BK380.out 1
            go_wp2_with (first | (go_at_call 12; (with_reducible refine (changeforgelaw6_in.calls a1 0 (l0.length : Int) t382 _ A20.out).mono ?_); rintro e w' ⟨rfl, ⟨nd, rfl⟩⟩))
            go_meet
            case rel => exact ⟨_, (!t382), (by first | rfl | (simp; done) | (simp [*]; done)), H', ⟨by have := HJ3.out; first | omega | exact Nat.le_refl _⟩, ⟨by (with_reducible repeat (first | apply Kd.S_alloc | apply Kd.S_drewN | apply Kd.S_drew)); exact HO_5.out⟩, ⟨by (with_reducible repeat (first | refine blk_drewN ?_ _ | refine blk_drew ?_ | refine blk_alloc ?_ _)); exact BK380.out⟩, ⟨by repeat (first | (with_reducible first | exact HB.out | apply below_alloc | apply pw_below_drewN | apply below_drew1 | refine below_set ?_ GE380.out) | exact HB.out)⟩⟩
          · rw [if_neg c19] at H
            have c19b0 : (t378 == 0) = false := beq_eq_false_iff_ne.mpr c19
            have c19b1 : (t378 != 0) = true := bne_iff_ne.mpr c19
            (first | rw [c19b0] | (simp only [i64_w, i32_w]; rw [c19b0]) | skip)
            have H' := Aside0.mk H
            clear H
            have hcz22_0 : wc.cell? ⟨gb380, 0, none⟩ = some (.int .i64 t378) := (blk_cell BK380.out 0).trans rfl
            have hcz22_1 : wc.cell? ⟨gb380, 1, none⟩ = some (.int .i64 t379) := (blk_cell BK380.out 1).trans rfl
            have hfz22_0 := blk_frozen BK380.out 0
            have hfz22_1 := blk_frozen BK380.out 1
            go_wp2
            go_meet
            case rel => exact ⟨_, (true), (by first | rfl | (simp; done) | (simp [*]; done)), H', ⟨by have := HJ3.out; first | omega | exact Nat.le_refl _⟩, ⟨by (with_reducible repeat (first | apply Kd.S_alloc | apply Kd.S_drewN | apply Kd.S_drew)); exact HO_5.out⟩, ⟨by (with_reducible repeat (first | refine blk_drewN ?_ _ | refine blk_drew ?_ | refine blk_alloc ?_ _)); exact BK380.out⟩, ⟨by repeat (first | (with_reducible first | exact HB.out | apply below_alloc | apply pw_below_drewN | apply below_drew1 | refine below_set ?_ GE380.out) | exact HB.out)⟩⟩
        case rest =>
          clear HC18
          try clear c1
          try clear p2
          try clear c7
          try clear c9
          try clear c10
          try clear c10b0
          try clear c10b1
          try clear c17
          try clear c19
          try clear c19b0
          try clear c19b1
          try clear hcz12_0
          try clear hcz12_1
          try clear hcz14_0
          try clear hcz14_1
          try clear hcz21_0
          try clear hcz21_1
          try clear hcz22_0
          try clear hcz22_1
          try clear hcz7_0
          try clear hcz7_1
          try clear hfz12_0
          try clear hfz12_1
          try clear hfz14_0
          try clear hfz14_1
          try clear hfz21_0
          try clear hfz21_1
          try clear hfz22_0
          try clear hfz22_1
          try clear hfz7_0
          try clear hfz7_1
          try clear p2
          obtain ⟨kq, x35_17, rfl, HA, HJ17, HO_5, BK380, HB⟩ := hcut
          cases kq with
          | zero => exact absurd HA.out (by simp [changeforgelaw6_RulesLaterRulesDoNotMatter.j1])
          | succ kj17 =>
            have H := HA.out
            clear HA
            simp only [changeforgelaw6_RulesLaterRulesDoNotMatter.j1] at H
            by_cases c23 : x35_17 = true
            · subst c23
              have H1 : (some true) = some r := by rw [if_pos rfl] at H; exact H
              clear H
              have H := H1
              clear H1
              obtain rfl := Option.some.inj H
              go_wp2
              go_ret
              exact ⟨by first | rfl | (simp [errW_none, errW_some] <;> rfl) | (simp [*, errW_none, errW_some] <;> rfl), by repeat (first | (with_reducible first | exact HB.out | apply below_alloc | apply pw_below_drewN | apply below_drew1 | refine below_set ?_ GE380.out) | exact HB.out)⟩
            · replace c23 := Bool.eq_false_iff.mpr c23
              subst c23
              have H1 : (if 0 ≤ a1 then (if a1 ≤ (l0.length : Int) then ((rules_Expand.f kj17 (l0.take (a1 : Int).toNat)).bind fun bt387 => (if bt387.2.1 = 0 then (if (bt387.1.length : Int) ≤ (t375.length : Int) then (if 0 ≤ (bt387.1.length : Int) then ((changeforgeref6_SameSteps.f kj17 bt387.1 (t375.take ((bt387.1.length : Int) : Int).toNat)).bind fun t397 => (some t397)) else (none)) else (some false)) else (some false))) else (none)) else (none)) = some r := by rw [if_neg (show ¬ (false = true) by decide)] at H; exact H
              clear H
              have H := H1
              clear H1
              by_cases c24 : 0 ≤ a1
              · rw [if_pos c24] at H
                have c24b0 := eq_true c24
                have c24b1 : decide (0 ≤ a1) = true := decide_eq_true c24
                clear c24
                by_cases c25 : a1 ≤ (l0.length : Int)
                · rw [if_pos c25] at H
                  have c25b0 := eq_true c25
                  have c25b1 : decide (a1 ≤ (l0.length : Int)) = true := decide_eq_true c25
                  clear c25
                  obtain ⟨y383, hy383⟩ : ∃ y_ : List (S33), y_ = (l0.take (a1 : Int).toNat) := ⟨_, rfl⟩
                  replace H : ((rules_Expand.f kj17 y383).bind fun bt387 => (if bt387.2.1 = 0 then (if (bt387.1.length : Int) ≤ (t375.length : Int) then (if 0 ≤ (bt387.1.length : Int) then ((changeforgeref6_SameSteps.f kj17 bt387.1 (t375.take ((bt387.1.length : Int) : Int).toNat)).bind fun t397 => (some t397)) else (none)) else (some false)) else (some false))) = some r := by first | (rw [hy383]; with_reducible exact H) | (have H2_ := (Option.bind_some _ _).symm.trans H; rw [hy383]; with_reducible exact H2_) | (have H2_ := (Option.bind_some _ _).symm.trans H; with_reducible exact H2_) | with_reducible exact H | (rw [hy383]; exact H) | exact H
                  have Ny383 := Aside0.mk hy383
                  clear hy383
                  replace H := Option.bind_eq_some_iff.mp H
                  obtain ⟨⟨t387, t390, t391⟩, A260, H⟩ := H
                  replace H : (if t390 = 0 then (if (t387.length : Int) ≤ (t375.length : Int) then (if 0 ≤ (t387.length : Int) then ((changeforgeref6_SameSteps.f kj17 t387 (t375.take ((t387.length : Int) : Int).toNat)).bind fun t397 => (some t397)) else (none)) else (some false)) else (some false)) = some r := H
                  have A26 := Aside0.mk A260
                  clear A260
                  by_cases c27 : t390 = 0
                  · rw [if_pos c27] at H
                    have c27b0 : (t390 == 0) = true := beq_iff_eq.mpr c27
                    have c27b1 : (t390 != 0) = false := bne_eq_false_iff_eq.mpr c27
                    clear c27
                    by_cases c28 : (t387.length : Int) ≤ (t375.length : Int)
                    · rw [if_pos c28] at H
                      have c28b0 : decide ((t387.length : Int) ≤ (t375.length : Int)) = true := decide_eq_true c28
                      have c28b1 : decide (t387.length ≤ t375.length) = true := decide_eq_true (Int.ofNat_le.mp c28)
                      clear c28
                      by_cases c29 : 0 ≤ (t387.length : Int)
                      · rw [if_pos c29] at H
                        have c29b0 := eq_true c29
                        have c29b1 : decide (0 ≤ (t387.length : Int)) = true := decide_eq_true c29
                        clear c29
                        have c30b0 := eq_true (of_decide_eq_true (by first | (with_reducible assumption) | assumption) : (t387.length : Int) ≤ (t375.length : Int))
                        obtain ⟨y393, hy393⟩ : ∃ y_ : List (S44), y_ = (t375.take ((t387.length : Int) : Int).toNat) := ⟨_, rfl⟩
                        replace H : ((changeforgeref6_SameSteps.f kj17 t387 y393).bind fun t397 => (some t397)) = some r := by first | (rw [hy393]; with_reducible exact H) | (have H2_ := (Option.bind_some _ _).symm.trans H; rw [hy393]; with_reducible exact H2_) | (have H2_ := (Option.bind_some _ _).symm.trans H; with_reducible exact H2_) | with_reducible exact H | (rw [hy393]; exact H) | exact H
                        have Ny393 := Aside0.mk hy393
                        clear hy393
                        replace H := Option.bind_eq_some_iff.mp H
                        obtain ⟨t397, A310, H⟩ := H
                        replace H : (some t397) = some r := H
                        have A31 := Aside0.mk A310
                        clear A310
                        obtain rfl := Option.some.inj H
                        have q32 : (a1 : Int) ≤ ((l0.length : Int) : Int) := of_decide_eq_true (by first | (with_reducible assumption) | assumption)
                        obtain ⟨i032, hi032, _, hsz32, _⟩ := info_parts info33
                        have hroom32 : l0.length ≤ c0 := HC0.out
                        have hC32 : Kd.C k33 _ A0 l0.length l0 := HR0.out
                        have hcut32 := cut_to (P := Tryd.prog) 22 33 .i64 Tryd.underlying22 hi032 A0 l0.length c0 a1 (of_decide_eq_true (by first | (with_reducible assumption) | assumption)) q32 hroom32
                        have hr32 := Kd.C_take (m := (a1 : Int).toNat) hC32 (by omega)
                        have hy32 : y383.length = (a1 : Int).toNat := (by rw [Ny383.out, List.length_take]; omega)
                        rw [← Ny383.out] at hr32
                        rw [← hy32] at hcut32
                        have HR386 := Aside0.mk hr32
                        have HC386 := Aside0.mk (show y383.length ≤ c0 from by omega)
                        clear hr32 hC32 hroom32 hi032 hsz32
                        have KY32 := Aside0.mk hy32
                        clear hy32
                        replace q32 := eq_true q32
                        go_wp2_with (first | ((with_reducible refine gate_callee (f := 17) rfl ?_); refine goesL_ (some 40) rfl rfl Tryd.func17 (by kernel_rfl) rfl #[.slice A0 y383.length c0] rfl (by (try simp only [List.map_toArray, List.map_cons, List.map_nil]); first | done | rfl | (simp only [List.length_drop, List.length_take]; rfl) | (simp only [KY32.out]; rfl) | (simp only [KY41.out]; rfl) | (simp only [KY43.out]; rfl) | (simp only [KY50.out]; rfl) | (go_simp; rw [KY32.out, KY41.out]) | (go_simp; rw [KY32.out, KY43.out]) | (go_simp; rw [KY32.out, KY50.out]) | (go_simp; rw [KY41.out, KY32.out]) | (go_simp; rw [KY41.out, KY43.out]) | (go_simp; rw [KY41.out, KY50.out]) | (go_simp; rw [KY43.out, KY32.out]) | (go_simp; rw [KY43.out, KY41.out]) | (go_simp; rw [KY43.out, KY50.out]) | (go_simp; rw [KY50.out, KY32.out]) | (go_simp; rw [KY50.out, KY41.out]) | (go_simp; rw [KY50.out, KY43.out])) ?_; (with_reducible refine (rules_Expand.calls kj17 _ _ y383 t387 t390 t391 _ ?side1 ?side2 ?side3 A26.out).mono ?_); (case side1 => repeat (first | exact (Kd.C_below HR386.out HB.out) | (with_reducible refine Kd.C_alloc ?_ _) | (with_reducible refine Kd.C_drewN ?_ _) | (with_reducible refine Kd.C_drew ?_))); (case side2 => exact HC386.out); (case side3 => exact Glob.below HG.out (by repeat (first | (with_reducible first | exact HB.out | apply below_alloc | apply pw_below_drewN | apply below_drew1 | refine below_set ?_ GE380.out) | exact HB.out))); rintro e w33 ⟨v388, rfl, ho0, hb⟩; refine ⟨_, rfl, ?_⟩; have n0_ := Aside0.mk (Kd.S_elder' (by (with_reducible repeat (first | apply Kd.S_alloc | apply Kd.S_drewN | apply Kd.S_drew)); exact HO_5.out) (Kd.S_base ho0) hb); have n1_ := Aside0.mk (Kd.S_lower (Kd.S_new' ho0 (Kd.S_lt (by (with_reducible repeat (first | apply Kd.S_alloc | apply Kd.S_drewN | apply Kd.S_drew)); exact HO_5.out))) (below_size (by repeat (first | (with_reducible first | exact HB.out | apply below_alloc | apply pw_below_drewN | apply below_drew1 | refine below_set ?_ GE380.out) | exact HB.out)))); have n2_ := Aside0.mk (blk_below (g := gb380) (o := .cells #[.int .i64 t378, .int .i64 t379] 24 (0, 0)) (by (with_reducible repeat (first | refine blk_drewN ?_ _ | refine blk_drew ?_ | refine blk_alloc ?_ _)); exact BK380.out) hb); have n3_ := Aside0.mk (below_step (by repeat (first | (with_reducible first | exact HB.out | apply below_alloc | apply pw_below_drewN | apply below_drew1 | refine below_set ?_ GE380.out) | exact HB.out)) hb); clear HO_5; clear BK380; clear HB; have HO_5 := n0_; have HO389 := n1_; have BK380 := n2_; have HB := n3_; clear n0_ n1_ n2_ n3_; (try clear hb); (try clear hb2); (try clear hk); (try clear hi); (try clear ho0)) | ((with_reducible refine gate_dst (N := 8) rfl ?_); (try (refine gate_guard (by rfl) ?_; dsimp only)); refine box_event ?hg (N := 8) ?hd (cs := #[.int .i64 0, .int .i64 0]) (t := 24) ?hr ?_; (case hd => rfl); (case hg => rfl); (case hr => first | (go_simp; done) | (go_simp; rfl)); intro gb392 hg w34 hbox hb; have n0_ := Aside0.mk (Kd.S_below (by (with_reducible repeat (first | apply Kd.S_alloc | apply Kd.S_drewN | apply Kd.S_drew)); exact HO_5.out) hb); have n1_ := Aside0.mk (Kd.S_below (by (with_reducible repeat (first | apply Kd.S_alloc | apply Kd.S_drewN | apply Kd.S_drew)); exact HO389.out) hb); have n2_ := Aside0.mk (blk_below (g := gb380) (o := .cells #[.int .i64 t378, .int .i64 t379] 24 (0, 0)) (by (with_reducible repeat (first | refine blk_drewN ?_ _ | refine blk_drew ?_ | refine blk_alloc ?_ _)); exact BK380.out) hb); have n3_ := Aside0.mk (below_step (by repeat (first | (with_reducible first | exact HB.out | apply below_alloc | apply pw_below_drewN | apply below_drew1 | refine below_set ?_ GE380.out) | exact HB.out)) hb); have n4_ := Aside0.mk (hbox); have n5_ := Aside0.mk ((by rw [hg]; exact (below_size (by repeat (first | (with_reducible first | exact HB.out | apply below_alloc | apply pw_below_drewN | apply below_drew1 | refine below_set ?_ GE380.out) | exact HB.out))) : w.heap.size ≤ gb392)); have n6_ := Aside0.mk ((by rw [hg]; exact (below_size (by repeat (first | (with_reducible first | exact HB.out | apply below_alloc | apply pw_below_drewN | apply below_drew1 | refine below_set ?_ GE380.out) | exact HB.out))) : w.heap.size ≤ gb392)); have n7_ := Aside0.mk ((by rw [hg]; exact Nat.ne_of_lt (blk_lt (g := gb380) (o := .cells #[.int .i64 t378, .int .i64 t379] 24 (0, 0)) (by (with_reducible repeat (first | refine blk_drewN ?_ _ | refine blk_drew ?_ | refine blk_alloc ?_ _)); exact BK380.out)) : gb380 ≠ gb392)); have n8_ := Aside0.mk ((by rw [hg]; exact Nat.ne_of_gt (blk_lt (g := gb380) (o := .cells #[.int .i64 t378, .int .i64 t379] 24 (0, 0)) (by (with_reducible repeat (first | refine blk_drewN ?_ _ | refine blk_drew ?_ | refine blk_alloc ?_ _)); exact BK380.out)) : gb392 ≠ gb380)); clear HO_5; clear HO389; clear BK380; clear HB; have HO_5 := n0_; have HO389 := n1_; have BK380 := n2_; have HB := n3_; have BK392 := n4_; have GW392 := n5_; have GE392 := n6_; have NB380_392 := n7_; have NB392_380 := n8_; clear n0_ n1_ n2_ n3_ n4_ n5_ n6_ n7_ n8_; clear hb hbox hg; have hnb35 := NB392_380.out; have hnc35 := NB380_392.out; have hcz36_0 : w34.cell? ⟨gb392, 0, none⟩ = some (.int .i64 0) := (blk_cell BK392.out 0).trans rfl; have hcz36_1 : w34.cell? ⟨gb392, 1, none⟩ = some (.int .i64 0) := (blk_cell BK392.out 1).trans rfl; have hfz36_0 := blk_frozen BK392.out 0; have hfz36_1 := blk_frozen BK392.out 1) | ((with_reducible refine gate_store (t := 24) (p := 8) rfl ?_); refine store_event (t := 24) (p := 8) (v := ?vo_w37) (w1 := ((w34.setCell ⟨gb392, 0, none⟩ (.int .i64 t390)).setCell ⟨gb392, 1, none⟩ (.int .i64 t391))) ?hg ?ho ?hn ?hr ?_; (case ho => rfl); (case hg => rfl); (case hn => rfl); (case hr => first | (go_simp; done) | (go_simp; rfl)); intro w37 hw; have n0_ : Aside0 (Kd.S k44 44 w37 w.heap.size (fun k_ => some k_ ≠ (v388 : Value).ownBlock) v376 t375) := ⟨(by rw [hw]; exact (by (with_reducible repeat (first | apply Kd.S_alloc | apply Kd.S_drewN | apply Kd.S_drew)); exact Kd.S_mono (Kd.S_far (p := ⟨gb392, 1, none⟩) (Kd.S_far (p := ⟨gb392, 0, none⟩) (Kd.S_types HO_5.out BK392.out (by decide)) (fun _ hk => hk.2) (.int .i64 t390)) (fun _ hk => hk.2) (.int .i64 t391)) (fun _ hk => hk.1.2)))⟩; have n1_ : Aside0 (Kd.S k44 44 w37 w.heap.size (fun k_ => some k_ ≠ (v376 : Value).ownBlock) v388 t387) := ⟨(by rw [hw]; exact (by (with_reducible repeat (first | apply Kd.S_alloc | apply Kd.S_drewN | apply Kd.S_drew)); exact Kd.S_mono (Kd.S_far (p := ⟨gb392, 1, none⟩) (Kd.S_far (p := ⟨gb392, 0, none⟩) (Kd.S_types HO389.out BK392.out (by decide)) (fun _ hk => hk.2) (.int .i64 t390)) (fun _ hk => hk.2) (.int .i64 t391)) (fun _ hk => hk.1.2)))⟩; have n2_ : Aside0 (w37.heap[gb380]? = some (.cells #[.int .i64 t378, .int .i64 t379] 24 (0, 0))) := ⟨(by rw [hw]; exact (by (with_reducible repeat (first | refine blk_drewN ?_ _ | refine blk_drew ?_ | refine blk_alloc ?_ _)); refine blk_far ?_ NB380_392.out _; (with_reducible repeat (first | refine blk_drewN ?_ _ | refine blk_drew ?_ | refine blk_alloc ?_ _)); refine blk_far ?_ NB380_392.out _; (with_reducible repeat (first | refine blk_drewN ?_ _ | refine blk_drew ?_ | refine blk_alloc ?_ _)); exact BK380.out))⟩; have n3_ : Aside0 (w37.heap[gb392]? = some (.cells #[.int .i64 t390, .int .i64 t391] 24 (0, 0))) := ⟨(by rw [hw]; exact (by (with_reducible repeat (first | refine blk_drewN ?_ _ | refine blk_drew ?_ | refine blk_alloc ?_ _)); refine blk_put (cs := #[.int .i64 t390, .int .i64 0]) ?_ 1 _ rfl; (with_reducible repeat (first | refine blk_drewN ?_ _ | refine blk_drew ?_ | refine blk_alloc ?_ _)); refine blk_put (cs := #[.int .i64 0, .int .i64 0]) ?_ 0 _ rfl; (with_reducible repeat (first | refine blk_drewN ?_ _ | refine blk_drew ?_ | refine blk_alloc ?_ _)); exact BK392.out))⟩; have n4_ : Aside0 (Below w.heap.size w w37) := ⟨(by rw [hw]; exact (by repeat (first | (with_reducible first | exact HB.out | apply below_alloc | apply pw_below_drewN | apply below_drew1 | refine below_set ?_ GE380.out | refine below_set ?_ GE392.out) | exact HB.out)))⟩; clear hw; clear HO_5; clear HO389; clear BK380; clear BK392; clear HB; have HO_5 := n0_; have HO389 := n1_; have BK380 := n2_; have BK392 := n3_; have HB := n4_; clear n0_ n1_ n2_ n3_ n4_; have hcz38_0 : w37.cell? ⟨gb392, 0, none⟩ = some (.int .i64 t390) := (blk_cell BK392.out 0).trans rfl; have hcz38_1 : w37.cell? ⟨gb392, 1, none⟩ = some (.int .i64 t391) := (blk_cell BK392.out 1).trans rfl; have hfz38_0 := blk_frozen BK392.out 0; have hfz38_1 := blk_frozen BK392.out 1; obtain ⟨Ao39, co39, eo39⟩ := Kd.S_slice HO389.out; subst eo39; obtain ⟨Ao40, co40, eo40⟩ := Kd.S_slice HO_5.out; subst eo40; have q41 : ((t387.length : Int) : Int) ≤ ((t375.length : Int) : Int) := of_decide_eq_true (by first | (with_reducible assumption) | assumption); obtain ⟨i041, hi041, _, hsz41, _⟩ := info_parts info44; have hroom41 : t375.length ≤ co40 := (Kd.S_reads' HO_5.out).2.1; have hC41 : Kd.C k44 _ Ao40 t375.length t375 := (Kd.S_reads' HO_5.out).2.2; have hcut41 := cut_to (P := Tryd.prog) 37 44 .i64 Tryd.underlying37 hi041 Ao40 t375.length co40 (t387.length : Int) (of_decide_eq_true (by first | (with_reducible assumption) | assumption)) q41 hroom41; have hr41 := Kd.C_take (m := ((t387.length : Int) : Int).toNat) hC41 (by omega); have hy41 : y393.length = ((t387.length : Int) : Int).toNat := (by rw [Ny393.out, List.length_take]; omega); rw [← Ny393.out] at hr41; rw [← hy41] at hcut41; have HR396 := Aside0.mk hr41; have HC396 := Aside0.mk (show y393.length ≤ co40 from by omega); clear hr41 hC41 hroom41 hi041 hsz41; have KY41 := Aside0.mk hy41; clear hy41; have KL41 := Aside0.mk (show ((t387.length : Int) : Int).toNat ≤ t375.length from by omega); replace q41 := eq_true q41) | (go_at_call 18; (with_reducible refine (changeforgeref6_SameSteps.calls kj17 _ _ t387 _ _ y393 t397 _ ?side1 ?side2 ?side3 ?side4 A31.out).mono ?_); (case side1 => repeat (first | exact (Kd.S_reads' HO389.out).2.2 | (with_reducible refine Kd.C_alloc ?_ _) | (with_reducible refine Kd.C_drewN ?_ _) | (with_reducible refine Kd.C_drew ?_))); (case side2 => exact (Kd.S_reads' HO389.out).2.1); (case side3 => repeat (first | exact (by repeat (first | (with_reducible exact HR396.out) | (with_reducible refine Kd.C_alloc ?_ _) | (with_reducible refine Kd.C_drewN ?_ _) | (with_reducible refine Kd.C_drew ?_) | exact HR396.out)) | (with_reducible refine Kd.C_alloc ?_ _) | (with_reducible refine Kd.C_drewN ?_ _) | (with_reducible refine Kd.C_drew ?_))); (case side4 => exact HC396.out); rintro e w42 ⟨rfl, hb⟩; have n0_ := Aside0.mk (Kd.S_below (by (with_reducible repeat (first | apply Kd.S_alloc | apply Kd.S_drewN | apply Kd.S_drew)); exact HO_5.out) hb); have n1_ := Aside0.mk (Kd.S_below (by (with_reducible repeat (first | apply Kd.S_alloc | apply Kd.S_drewN | apply Kd.S_drew)); exact HO389.out) hb); have n2_ := Aside0.mk (Kd.C_below (by repeat (first | (with_reducible exact HR396.out) | (with_reducible refine Kd.C_alloc ?_ _) | (with_reducible refine Kd.C_drewN ?_ _) | (with_reducible refine Kd.C_drew ?_) | exact HR396.out)) hb); have n3_ := Aside0.mk (blk_below (g := gb380) (o := .cells #[.int .i64 t378, .int .i64 t379] 24 (0, 0)) (by (with_reducible repeat (first | refine blk_drewN ?_ _ | refine blk_drew ?_ | refine blk_alloc ?_ _)); exact BK380.out) hb); have n4_ := Aside0.mk (blk_below (g := gb392) (o := .cells #[.int .i64 t390, .int .i64 t391] 24 (0, 0)) (by (with_reducible repeat (first | refine blk_drewN ?_ _ | refine blk_drew ?_ | refine blk_alloc ?_ _)); exact BK392.out) hb); have n5_ := Aside0.mk (below_step (by repeat (first | (with_reducible first | exact HB.out | apply below_alloc | apply pw_below_drewN | apply below_drew1 | refine below_set ?_ GE380.out | refine below_set ?_ GE392.out) | exact HB.out)) hb); clear HO_5; clear HO389; clear HR396; clear BK380; clear BK392; clear HB; have HO_5 := n0_; have HO389 := n1_; have HR396 := n2_; have BK380 := n3_; have BK392 := n4_; have HB := n5_; clear n0_ n1_ n2_ n3_ n4_ n5_; (try clear hb); (try clear hb2); (try clear hk); (try clear hi)))
                        go_ret
                        exact ⟨by first | rfl | (simp [errW_none, errW_some] <;> rfl) | (simp [*, errW_none, errW_some] <;> rfl), by repeat (first | (with_reducible first | exact HB.out | apply below_alloc | apply pw_below_drewN | apply below_drew1 | refine below_set ?_ GE380.out | refine below_set ?_ GE392.out) | exact HB.out)⟩
                      · rw [if_neg c29] at H
                        exact absurd H (by simp)
                    · rw [if_neg c28] at H
                      have c28b0 : decide ((t387.length : Int) ≤ (t375.length : Int)) = false := decide_eq_false c28
                      have c28b1 : decide (t387.length ≤ t375.length) = false := decide_eq_false (fun h => c28 (Int.ofNat_le.mpr h))
                      clear c28
                      obtain rfl := Option.some.inj H
                      have q43 : (a1 : Int) ≤ ((l0.length : Int) : Int) := of_decide_eq_true (by first | (with_reducible assumption) | assumption)
                      obtain ⟨i043, hi043, _, hsz43, _⟩ := info_parts info33
                      have hroom43 : l0.length ≤ c0 := HC0.out
                      have hC43 : Kd.C k33 _ A0 l0.length l0 := HR0.out
                      have hcut43 := cut_to (P := Tryd.prog) 22 33 .i64 Tryd.underlying22 hi043 A0 l0.length c0 a1 (of_decide_eq_true (by first | (with_reducible assumption) | assumption)) q43 hroom43
                      have hr43 := Kd.C_take (m := (a1 : Int).toNat) hC43 (by omega)
                      have hy43 : y383.length = (a1 : Int).toNat := (by rw [Ny383.out, List.length_take]; omega)
                      rw [← Ny383.out] at hr43
                      rw [← hy43] at hcut43
                      have HR386 := Aside0.mk hr43
                      have HC386 := Aside0.mk (show y383.length ≤ c0 from by omega)
                      clear hr43 hC43 hroom43 hi043 hsz43
                      have KY43 := Aside0.mk hy43
                      clear hy43
                      replace q43 := eq_true q43
                      go_wp2_with (first | ((with_reducible refine gate_callee (f := 17) rfl ?_); refine goesL_ (some 40) rfl rfl Tryd.func17 (by kernel_rfl) rfl #[.slice A0 y383.length c0] rfl (by (try simp only [List.map_toArray, List.map_cons, List.map_nil]); first | done | rfl | (simp only [List.length_drop, List.length_take]; rfl) | (simp only [KY32.out]; rfl) | (simp only [KY41.out]; rfl) | (simp only [KY43.out]; rfl) | (simp only [KY50.out]; rfl) | (go_simp; rw [KY32.out, KY41.out]) | (go_simp; rw [KY32.out, KY43.out]) | (go_simp; rw [KY32.out, KY50.out]) | (go_simp; rw [KY41.out, KY32.out]) | (go_simp; rw [KY41.out, KY43.out]) | (go_simp; rw [KY41.out, KY50.out]) | (go_simp; rw [KY43.out, KY32.out]) | (go_simp; rw [KY43.out, KY41.out]) | (go_simp; rw [KY43.out, KY50.out]) | (go_simp; rw [KY50.out, KY32.out]) | (go_simp; rw [KY50.out, KY41.out]) | (go_simp; rw [KY50.out, KY43.out])) ?_; (with_reducible refine (rules_Expand.calls kj17 _ _ y383 t387 t390 t391 _ ?side1 ?side2 ?side3 A26.out).mono ?_); (case side1 => repeat (first | exact (Kd.C_below HR386.out HB.out) | (with_reducible refine Kd.C_alloc ?_ _) | (with_reducible refine Kd.C_drewN ?_ _) | (with_reducible refine Kd.C_drew ?_))); (case side2 => exact HC386.out); (case side3 => exact Glob.below HG.out (by repeat (first | (with_reducible first | exact HB.out | apply below_alloc | apply pw_below_drewN | apply below_drew1 | refine below_set ?_ GE380.out) | exact HB.out))); rintro e w44 ⟨v388, rfl, ho0, hb⟩; refine ⟨_, rfl, ?_⟩; have n0_ := Aside0.mk (Kd.S_elder' (by (with_reducible repeat (first | apply Kd.S_alloc | apply Kd.S_drewN | apply Kd.S_drew)); exact HO_5.out) (Kd.S_base ho0) hb); have n1_ := Aside0.mk (Kd.S_lower (Kd.S_new' ho0 (Kd.S_lt (by (with_reducible repeat (first | apply Kd.S_alloc | apply Kd.S_drewN | apply Kd.S_drew)); exact HO_5.out))) (below_size (by repeat (first | (with_reducible first | exact HB.out | apply below_alloc | apply pw_below_drewN | apply below_drew1 | refine below_set ?_ GE380.out) | exact HB.out)))); have n2_ := Aside0.mk (blk_below (g := gb380) (o := .cells #[.int .i64 t378, .int .i64 t379] 24 (0, 0)) (by (with_reducible repeat (first | refine blk_drewN ?_ _ | refine blk_drew ?_ | refine blk_alloc ?_ _)); exact BK380.out) hb); have n3_ := Aside0.mk (below_step (by repeat (first | (with_reducible first | exact HB.out | apply below_alloc | apply pw_below_drewN | apply below_drew1 | refine below_set ?_ GE380.out) | exact HB.out)) hb); clear HO_5; clear BK380; clear HB; have HO_5 := n0_; have HO389 := n1_; have BK380 := n2_; have HB := n3_; clear n0_ n1_ n2_ n3_; (try clear hb); (try clear hb2); (try clear hk); (try clear hi); (try clear ho0)) | ((with_reducible refine gate_dst (N := 8) rfl ?_); (try (refine gate_guard (by rfl) ?_; dsimp only)); refine box_event ?hg (N := 8) ?hd (cs := #[.int .i64 0, .int .i64 0]) (t := 24) ?hr ?_; (case hd => rfl); (case hg => rfl); (case hr => first | (go_simp; done) | (go_simp; rfl)); intro gb392 hg w45 hbox hb; have n0_ := Aside0.mk (Kd.S_below (by (with_reducible repeat (first | apply Kd.S_alloc | apply Kd.S_drewN | apply Kd.S_drew)); exact HO_5.out) hb); have n1_ := Aside0.mk (Kd.S_below (by (with_reducible repeat (first | apply Kd.S_alloc | apply Kd.S_drewN | apply Kd.S_drew)); exact HO389.out) hb); have n2_ := Aside0.mk (blk_below (g := gb380) (o := .cells #[.int .i64 t378, .int .i64 t379] 24 (0, 0)) (by (with_reducible repeat (first | refine blk_drewN ?_ _ | refine blk_drew ?_ | refine blk_alloc ?_ _)); exact BK380.out) hb); have n3_ := Aside0.mk (below_step (by repeat (first | (with_reducible first | exact HB.out | apply below_alloc | apply pw_below_drewN | apply below_drew1 | refine below_set ?_ GE380.out) | exact HB.out)) hb); have n4_ := Aside0.mk (hbox); have n5_ := Aside0.mk ((by rw [hg]; exact (below_size (by repeat (first | (with_reducible first | exact HB.out | apply below_alloc | apply pw_below_drewN | apply below_drew1 | refine below_set ?_ GE380.out) | exact HB.out))) : w.heap.size ≤ gb392)); have n6_ := Aside0.mk ((by rw [hg]; exact (below_size (by repeat (first | (with_reducible first | exact HB.out | apply below_alloc | apply pw_below_drewN | apply below_drew1 | refine below_set ?_ GE380.out) | exact HB.out))) : w.heap.size ≤ gb392)); have n7_ := Aside0.mk ((by rw [hg]; exact Nat.ne_of_lt (blk_lt (g := gb380) (o := .cells #[.int .i64 t378, .int .i64 t379] 24 (0, 0)) (by (with_reducible repeat (first | refine blk_drewN ?_ _ | refine blk_drew ?_ | refine blk_alloc ?_ _)); exact BK380.out)) : gb380 ≠ gb392)); have n8_ := Aside0.mk ((by rw [hg]; exact Nat.ne_of_gt (blk_lt (g := gb380) (o := .cells #[.int .i64 t378, .int .i64 t379] 24 (0, 0)) (by (with_reducible repeat (first | refine blk_drewN ?_ _ | refine blk_drew ?_ | refine blk_alloc ?_ _)); exact BK380.out)) : gb392 ≠ gb380)); clear HO_5; clear HO389; clear BK380; clear HB; have HO_5 := n0_; have HO389 := n1_; have BK380 := n2_; have HB := n3_; have BK392 := n4_; have GW392 := n5_; have GE392 := n6_; have NB380_392 := n7_; have NB392_380 := n8_; clear n0_ n1_ n2_ n3_ n4_ n5_ n6_ n7_ n8_; clear hb hbox hg; have hnb46 := NB392_380.out; have hnc46 := NB380_392.out; have hcz47_0 : w45.cell? ⟨gb392, 0, none⟩ = some (.int .i64 0) := (blk_cell BK392.out 0).trans rfl; have hcz47_1 : w45.cell? ⟨gb392, 1, none⟩ = some (.int .i64 0) := (blk_cell BK392.out 1).trans rfl; have hfz47_0 := blk_frozen BK392.out 0; have hfz47_1 := blk_frozen BK392.out 1; obtain ⟨Ao48, co48, eo48⟩ := Kd.S_slice HO389.out; subst eo48; obtain ⟨Ao49, co49, eo49⟩ := Kd.S_slice HO_5.out; subst eo49))
                      go_ret
                      exact ⟨by first | rfl | (simp [errW_none, errW_some] <;> rfl) | (simp [*, errW_none, errW_some] <;> rfl), by repeat (first | (with_reducible first | exact HB.out | apply below_alloc | apply pw_below_drewN | apply below_drew1 | refine below_set ?_ GE380.out | refine below_set ?_ GE392.out) | exact HB.out)⟩
                  · rw [if_neg c27] at H
                    have c27b0 : (t390 == 0) = false := beq_eq_false_iff_ne.mpr c27
                    have c27b1 : (t390 != 0) = true := bne_iff_ne.mpr c27
                    obtain rfl := Option.some.inj H
                    have q50 : (a1 : Int) ≤ ((l0.length : Int) : Int) := of_decide_eq_true (by first | (with_reducible assumption) | assumption)
                    obtain ⟨i050, hi050, _, hsz50, _⟩ := info_parts info33
                    have hroom50 : l0.length ≤ c0 := HC0.out
                    have hC50 : Kd.C k33 _ A0 l0.length l0 := HR0.out
                    have hcut50 := cut_to (P := Tryd.prog) 22 33 .i64 Tryd.underlying22 hi050 A0 l0.length c0 a1 (of_decide_eq_true (by first | (with_reducible assumption) | assumption)) q50 hroom50
                    have hr50 := Kd.C_take (m := (a1 : Int).toNat) hC50 (by omega)
                    have hy50 : y383.length = (a1 : Int).toNat := (by rw [Ny383.out, List.length_take]; omega)
                    rw [← Ny383.out] at hr50
                    rw [← hy50] at hcut50
                    have HR386 := Aside0.mk hr50
                    have HC386 := Aside0.mk (show y383.length ≤ c0 from by omega)
                    clear hr50 hC50 hroom50 hi050 hsz50
                    have KY50 := Aside0.mk hy50
                    clear hy50
                    replace q50 := eq_true q50
                    go_wp2_with (first | ((with_reducible refine gate_callee (f := 17) rfl ?_); refine goesL_ (some 40) rfl rfl Tryd.func17 (by kernel_rfl) rfl #[.slice A0 y383.length c0] rfl (by (try simp only [List.map_toArray, List.map_cons, List.map_nil]); first | done | rfl | (simp only [List.length_drop, List.length_take]; rfl) | (simp only [KY32.out]; rfl) | (simp only [KY41.out]; rfl) | (simp only [KY43.out]; rfl) | (simp only [KY50.out]; rfl) | (go_simp; rw [KY32.out, KY41.out]) | (go_simp; rw [KY32.out, KY43.out]) | (go_simp; rw [KY32.out, KY50.out]) | (go_simp; rw [KY41.out, KY32.out]) | (go_simp; rw [KY41.out, KY43.out]) | (go_simp; rw [KY41.out, KY50.out]) | (go_simp; rw [KY43.out, KY32.out]) | (go_simp; rw [KY43.out, KY41.out]) | (go_simp; rw [KY43.out, KY50.out]) | (go_simp; rw [KY50.out, KY32.out]) | (go_simp; rw [KY50.out, KY41.out]) | (go_simp; rw [KY50.out, KY43.out])) ?_; (with_reducible refine (rules_Expand.calls kj17 _ _ y383 t387 t390 t391 _ ?side1 ?side2 ?side3 A26.out).mono ?_); (case side1 => repeat (first | exact (Kd.C_below HR386.out HB.out) | (with_reducible refine Kd.C_alloc ?_ _) | (with_reducible refine Kd.C_drewN ?_ _) | (with_reducible refine Kd.C_drew ?_))); (case side2 => exact HC386.out); (case side3 => exact Glob.below HG.out (by repeat (first | (with_reducible first | exact HB.out | apply below_alloc | apply pw_below_drewN | apply below_drew1 | refine below_set ?_ GE380.out) | exact HB.out))); rintro e w51 ⟨v388, rfl, ho0, hb⟩; refine ⟨_, rfl, ?_⟩; have n0_ := Aside0.mk (Kd.S_elder' (by (with_reducible repeat (first | apply Kd.S_alloc | apply Kd.S_drewN | apply Kd.S_drew)); exact HO_5.out) (Kd.S_base ho0) hb); have n1_ := Aside0.mk (Kd.S_lower (Kd.S_new' ho0 (Kd.S_lt (by (with_reducible repeat (first | apply Kd.S_alloc | apply Kd.S_drewN | apply Kd.S_drew)); exact HO_5.out))) (below_size (by repeat (first | (with_reducible first | exact HB.out | apply below_alloc | apply pw_below_drewN | apply below_drew1 | refine below_set ?_ GE380.out) | exact HB.out)))); have n2_ := Aside0.mk (blk_below (g := gb380) (o := .cells #[.int .i64 t378, .int .i64 t379] 24 (0, 0)) (by (with_reducible repeat (first | refine blk_drewN ?_ _ | refine blk_drew ?_ | refine blk_alloc ?_ _)); exact BK380.out) hb); have n3_ := Aside0.mk (below_step (by repeat (first | (with_reducible first | exact HB.out | apply below_alloc | apply pw_below_drewN | apply below_drew1 | refine below_set ?_ GE380.out) | exact HB.out)) hb); clear HO_5; clear BK380; clear HB; have HO_5 := n0_; have HO389 := n1_; have BK380 := n2_; have HB := n3_; clear n0_ n1_ n2_ n3_; (try clear hb); (try clear hb2); (try clear hk); (try clear hi); (try clear ho0)) | ((with_reducible refine gate_dst (N := 8) rfl ?_); (try (refine gate_guard (by rfl) ?_; dsimp only)); refine box_event ?hg (N := 8) ?hd (cs := #[.int .i64 0, .int .i64 0]) (t := 24) ?hr ?_; (case hd => rfl); (case hg => rfl); (case hr => first | (go_simp; done) | (go_simp; rfl)); intro gb392 hg w52 hbox hb; have n0_ := Aside0.mk (Kd.S_below (by (with_reducible repeat (first | apply Kd.S_alloc | apply Kd.S_drewN | apply Kd.S_drew)); exact HO_5.out) hb); have n1_ := Aside0.mk (Kd.S_below (by (with_reducible repeat (first | apply Kd.S_alloc | apply Kd.S_drewN | apply Kd.S_drew)); exact HO389.out) hb); have n2_ := Aside0.mk (blk_below (g := gb380) (o := .cells #[.int .i64 t378, .int .i64 t379] 24 (0, 0)) (by (with_reducible repeat (first | refine blk_drewN ?_ _ | refine blk_drew ?_ | refine blk_alloc ?_ _)); exact BK380.out) hb); have n3_ := Aside0.mk (below_step (by repeat (first | (with_reducible first | exact HB.out | apply below_alloc | apply pw_below_drewN | apply below_drew1 | refine below_set ?_ GE380.out) | exact HB.out)) hb); have n4_ := Aside0.mk (hbox); have n5_ := Aside0.mk ((by rw [hg]; exact (below_size (by repeat (first | (with_reducible first | exact HB.out | apply below_alloc | apply pw_below_drewN | apply below_drew1 | refine below_set ?_ GE380.out) | exact HB.out))) : w.heap.size ≤ gb392)); have n6_ := Aside0.mk ((by rw [hg]; exact (below_size (by repeat (first | (with_reducible first | exact HB.out | apply below_alloc | apply pw_below_drewN | apply below_drew1 | refine below_set ?_ GE380.out) | exact HB.out))) : w.heap.size ≤ gb392)); have n7_ := Aside0.mk ((by rw [hg]; exact Nat.ne_of_lt (blk_lt (g := gb380) (o := .cells #[.int .i64 t378, .int .i64 t379] 24 (0, 0)) (by (with_reducible repeat (first | refine blk_drewN ?_ _ | refine blk_drew ?_ | refine blk_alloc ?_ _)); exact BK380.out)) : gb380 ≠ gb392)); have n8_ := Aside0.mk ((by rw [hg]; exact Nat.ne_of_gt (blk_lt (g := gb380) (o := .cells #[.int .i64 t378, .int .i64 t379] 24 (0, 0)) (by (with_reducible repeat (first | refine blk_drewN ?_ _ | refine blk_drew ?_ | refine blk_alloc ?_ _)); exact BK380.out)) : gb392 ≠ gb380)); clear HO_5; clear HO389; clear BK380; clear HB; have HO_5 := n0_; have HO389 := n1_; have BK380 := n2_; have HB := n3_; have BK392 := n4_; have GW392 := n5_; have GE392 := n6_; have NB380_392 := n7_; have NB392_380 := n8_; clear n0_ n1_ n2_ n3_ n4_ n5_ n6_ n7_ n8_; clear hb hbox hg; have hnb53 := NB392_380.out; have hnc53 := NB380_392.out; have hcz54_0 : w52.cell? ⟨gb392, 0, none⟩ = some (.int .i64 0) := (blk_cell BK392.out 0).trans rfl; have hcz54_1 : w52.cell? ⟨gb392, 1, none⟩ = some (.int .i64 0) := (blk_cell BK392.out 1).trans rfl; have hfz54_0 := blk_frozen BK392.out 0; have hfz54_1 := blk_frozen BK392.out 1))
                    go_ret
                    exact ⟨by first | rfl | (simp [errW_none, errW_some] <;> rfl) | (simp [*, errW_none, errW_some] <;> rfl), by repeat (first | (with_reducible first | exact HB.out | apply below_alloc | apply pw_below_drewN | apply below_drew1 | refine below_set ?_ GE380.out | refine below_set ?_ GE392.out) | exact HB.out)⟩
                · rw [if_neg c25] at H
                  exact absurd H (by simp)
              · rw [if_neg c24] at H
                exact absurd H (by simp)

end Go.Proofs.YtepflpmngegdiaaDoor.H
end
