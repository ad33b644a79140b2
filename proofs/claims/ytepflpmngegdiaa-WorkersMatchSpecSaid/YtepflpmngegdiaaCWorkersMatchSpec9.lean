/- Texts that the law WorkersMatchSpec comes to, printed and by hand, what is not used left out. -/
import Derived.Test.YtepflpmngegdiaaCWorkersMatchSpec8
section
namespace Go.Proofs.Ytepflpmngegdiaa.H
open Go.RowKit Go.Proofs.YtepflpmngegdiaaW.PrintWords Go.Proofs.YtepflpmngegdiaaW.PrintLast Go.Proofs.YtepflpmngegdiaaW.PrintMore
set_option linter.unusedVariables false
set_option linter.unusedSimpArgs false

mutual
def changeforgeref6_Accepted.l0 : Nat → List (S44) → Int → Int → Int → Int → Option (Int)
  | 0, _, _, _, _, _ => none
  | k + 1, x0, x1, x2, x3, x9 => if x9 < (x0.length : Int) then (if 0 ≤ x9 then (if ((rd_T44 x0 x9).f0) = 2 then (if x9 ≤ (x0.length : Int) then ((changeforgeref6_WorkingOn.f k (x0.take (x9 : Int).toNat) ((rd_T44 x0 x9).f1)).bind fun t275 => (changeforgeref6_Accepted.j1 k x0 x1 x2 x3 x9 (t275 != x3))) else (none)) else (changeforgeref6_Accepted.j1 k x0 x1 x2 x3 x9 true)) else (none)) else (some (-1))
def changeforgeref6_Accepted.j1 : Nat → List (S44) → Int → Int → Int → Int → Bool → Option (Int)
  | 0, _, _, _, _, _, _ => none
  | k + 1, x0, x1, x2, x3, x9, x36 => if x36 = true then (changeforgeref6_Accepted.l0 k x0 x1 x2 x3 (wrap64 (x9 + 1))) else (changeforgeref6_Accepted.l1 k x0 x1 x2 x3 x9 0 0)
def changeforgeref6_Accepted.l1 : Nat → List (S44) → Int → Int → Int → Int → Int → Int → Option (Int)
  | 0, _, _, _, _, _, _, _ => none
  | k + 1, x0, x1, x2, x3, x9, x10, x11 => if x11 < x1 then (if 0 ≤ (wrap64 (x9 + 1)) then (if (wrap64 (x9 + 1)) ≤ (x0.length : Int) then ((changeforgeref6_Reported.f k (x0.take ((wrap64 (x9 + 1)) : Int).toNat) x11 x3).bind fun t280 => (if 0 ≤ x9 then (if x9 < (x0.length : Int) then (if t280 = ((rd_T44 x0 x9).f3) then (changeforgeref6_Accepted.l1 k x0 x1 x2 x3 x9 (wrap64 (x10 + 1)) (wrap64 (x11 + 1))) else (changeforgeref6_Accepted.l1 k x0 x1 x2 x3 x9 x10 (wrap64 (x11 + 1)))) else (none)) else (none))) else (none)) else (none)) else (if x10 ≥ x2 then (if 0 ≤ x9 then (if x9 < (x0.length : Int) then (some ((rd_T44 x0 x9).f3)) else (none)) else (none)) else (changeforgeref6_Accepted.l0 k x0 x1 x2 x3 (wrap64 (x9 + 1))))
end
def changeforgeref6_Accepted.f (k : Nat) (l0 : List (S44)) (a1 : Int) (a2 : Int) (a3 : Int) : Option (Int) := changeforgeref6_Accepted.l0 k l0 a1 a2 a3 0
theorem changeforgeref6_Accepted.mono_l : ∀ k, (∀ y0 y1 y2 y3 y4, LeO (changeforgeref6_Accepted.l0 k y0 y1 y2 y3 y4) (changeforgeref6_Accepted.l0 (k + 1) y0 y1 y2 y3 y4)) ∧ (∀ y0 y1 y2 y3 y4 y5, LeO (changeforgeref6_Accepted.j1 k y0 y1 y2 y3 y4 y5) (changeforgeref6_Accepted.j1 (k + 1) y0 y1 y2 y3 y4 y5)) ∧ (∀ y0 y1 y2 y3 y4 y5 y6, LeO (changeforgeref6_Accepted.l1 k y0 y1 y2 y3 y4 y5 y6) (changeforgeref6_Accepted.l1 (k + 1) y0 y1 y2 y3 y4 y5 y6))
  | 0 => ⟨fun _ _ _ _ _ r h => by simp [changeforgeref6_Accepted.l0] at h, fun _ _ _ _ _ _ r h => by simp [changeforgeref6_Accepted.j1] at h, fun _ _ _ _ _ _ _ r h => by simp [changeforgeref6_Accepted.l1] at h⟩
  | k + 1 => by
    obtain ⟨ih0, ih1, ih2⟩ := changeforgeref6_Accepted.mono_l k
    refine ⟨?_, ?_, ?_⟩
    · intro y0 y1 y2 y3 y4
      unfold changeforgeref6_Accepted.l0
      repeat' first
      | (with_reducible exact ih0 _ _ _ _ _)
      | (with_reducible exact ih1 _ _ _ _ _ _)
      | (with_reducible exact ih2 _ _ _ _ _ _ _)
      | (with_reducible exact changeforgeref6_Reported.mono _ _ _ _)
      | (with_reducible exact changeforgeref6_WorkingOn.mono _ _ _)
      | (with_reducible exact LeO.refl _)
      | (with_reducible exact LeO.none _)
      | (with_reducible refine LeO.ite ?_ ?_)
      | (with_reducible refine LeO.bind ?_ (fun _ => ?_))
      | exact ih0 _ _ _ _ _
      | exact ih1 _ _ _ _ _ _
      | exact ih2 _ _ _ _ _ _ _
      | exact changeforgeref6_Reported.mono _ _ _ _
      | exact changeforgeref6_WorkingOn.mono _ _ _
      | exact LeO.none _
      | refine LeO.ite ?_ ?_
      | refine LeO.bind ?_ (fun _ => ?_)
    · intro y0 y1 y2 y3 y4 y5
      unfold changeforgeref6_Accepted.j1
      repeat' first
      | (with_reducible exact ih0 _ _ _ _ _)
      | (with_reducible exact ih1 _ _ _ _ _ _)
      | (with_reducible exact ih2 _ _ _ _ _ _ _)
      | (with_reducible exact changeforgeref6_Reported.mono _ _ _ _)
      | (with_reducible exact changeforgeref6_WorkingOn.mono _ _ _)
      | (with_reducible exact LeO.refl _)
      | (with_reducible exact LeO.none _)
      | (with_reducible refine LeO.ite ?_ ?_)
      | (with_reducible refine LeO.bind ?_ (fun _ => ?_))
      | exact ih0 _ _ _ _ _
      | exact ih1 _ _ _ _ _ _
      | exact ih2 _ _ _ _ _ _ _
      | exact changeforgeref6_Reported.mono _ _ _ _
      | exact changeforgeref6_WorkingOn.mono _ _ _
      | exact LeO.none _
      | refine LeO.ite ?_ ?_
      | refine LeO.bind ?_ (fun _ => ?_)
    · intro y0 y1 y2 y3 y4 y5 y6
      unfold changeforgeref6_Accepted.l1
      repeat' first
      | (with_reducible exact ih0 _ _ _ _ _)
      | (with_reducible exact ih1 _ _ _ _ _ _)
      | (with_reducible exact ih2 _ _ _ _ _ _ _)
      | (with_reducible exact changeforgeref6_Reported.mono _ _ _ _)
      | (with_reducible exact changeforgeref6_WorkingOn.mono _ _ _)
      | (with_reducible exact LeO.refl _)
      | (with_reducible exact LeO.none _)
      | (with_reducible refine LeO.ite ?_ ?_)
      | (with_reducible refine LeO.bind ?_ (fun _ => ?_))
      | exact ih0 _ _ _ _ _
      | exact ih1 _ _ _ _ _ _
      | exact ih2 _ _ _ _ _ _ _
      | exact changeforgeref6_Reported.mono _ _ _ _
      | exact changeforgeref6_WorkingOn.mono _ _ _
      | exact LeO.none _
      | refine LeO.ite ?_ ?_
      | refine LeO.bind ?_ (fun _ => ?_)
theorem changeforgeref6_Accepted.mono : ∀ a0 a1 a2 a3 k, LeO (changeforgeref6_Accepted.f k a0 a1 a2 a3) (changeforgeref6_Accepted.f (k + 1) a0 a1 a2 a3) := by
  intro a0 a1 a2 a3 k
  obtain ⟨ih0, ih1, ih2⟩ := changeforgeref6_Accepted.mono_l k
  unfold changeforgeref6_Accepted.f
  repeat' first
      | (with_reducible exact ih0 _ _ _ _ _)
      | (with_reducible exact ih1 _ _ _ _ _ _)
      | (with_reducible exact ih2 _ _ _ _ _ _ _)
      | (with_reducible exact changeforgeref6_Reported.mono _ _ _ _)
      | (with_reducible exact changeforgeref6_WorkingOn.mono _ _ _)
      | (with_reducible exact LeO.refl _)
      | (with_reducible exact LeO.none _)
      | (with_reducible refine LeO.ite ?_ ?_)
      | (with_reducible refine LeO.bind ?_ (fun _ => ?_))
      | exact ih0 _ _ _ _ _
      | exact ih1 _ _ _ _ _ _
      | exact ih2 _ _ _ _ _ _ _
      | exact changeforgeref6_Reported.mono _ _ _ _
      | exact changeforgeref6_WorkingOn.mono _ _ _
      | exact LeO.none _
      | refine LeO.ite ?_ ?_
      | refine LeO.bind ?_ (fun _ => ?_)
def changeforgeref6_Accepted.T4 : Bool × List (List Nat × List Nat) := (true, [([], []), ([], []), ([0, 1], [0, 1]), ([2], [2]), ([3], [3]), ([4], [4]), ([5], [5]), ([6], [6]), ([6], [6]), ([7, 8, 6], [6, 7, 8]), ([6], [6]), ([6], [6]), ([10, 11, 6], [6, 10, 11]), ([12, 6], [6, 12]), ([13, 6], [6, 13]), ([9, 14, 6, 6], [6, 9, 14]), ([6], [6]), ([15, 16, 6], [6, 15, 16]), ([6, 17], [6, 17])])
def changeforgeref6_Accepted.B4 : List Nat := [0, 0, 3, 7, 15, 31, 63, 127, 127, 511, 127, 127, 3199, 7295, 15487, 32767, 127, 131071, 262143]
theorem changeforgeref6_Accepted.tab4 : rtab .any (opsOf Try.f12 4) = changeforgeref6_Accepted.T4 := by kernel_rfl
theorem changeforgeref6_Accepted.bits4 : waitsOk changeforgeref6_Accepted.T4.2 changeforgeref6_Accepted.B4 = true := by kernel_rfl
def changeforgeref6_Accepted.T9 : Bool × List (List Nat × List Nat) := (true, [([], []), ([], []), ([1], [1]), ([0, 2], [0, 2]), ([], []), ([], []), ([3, 4, 5], [3, 4, 5]), ([], []), ([], []), ([7, 8], [7, 8]), ([9], [9]), ([10], [10]), ([6, 11], [6, 11])])
def changeforgeref6_Accepted.B9 : List Nat := [0, 0, 2, 7, 0, 0, 63, 0, 0, 384, 896, 1920, 4095]
theorem changeforgeref6_Accepted.tab9 : rtab .any (opsOf Try.f12 9) = changeforgeref6_Accepted.T9 := by kernel_rfl
theorem changeforgeref6_Accepted.bits9 : waitsOk changeforgeref6_Accepted.T9.2 changeforgeref6_Accepted.B9 = true := by kernel_rfl
set_option maxHeartbeats 8000000 in
set_option maxRecDepth 100000 in
theorem changeforgeref6_Accepted.calls (k : Nat) (A0 : Option Addr) (c0 : Nat) (l0 : List (S44)) (a1 : Int) (a2 : Int) (a3 : Int) (r : Int) (w : World) (hr0 : Kd.C k44 w A0 l0.length l0) (hc0 : l0.length ≤ c0) (h : changeforgeref6_Accepted.f k l0 a1 a2 a3 = some r) :
    Calls Try.prog 12 #[.slice A0 l0.length c0, .int .i64 a1, .int .i64 a2, .int .i64 a3] w fun e w' => e = .returned (.int .i64 r) ∧ Below w.heap.size w w' := by
  have HR0 := Aside0.mk hr0
  have HC0 := Aside0.mk hc0
  clear hr0 hc0
  have HB := Aside0.mk (Below.refl w.heap.size w)
  have H : (changeforgeref6_Accepted.l0 k l0 a1 a2 a3 0) = some r := h
  clear h
  have H' := Aside0.mk H
  clear H
  go_enter Try.func12, Try.ntmps12
  go_wp2
  go_loopg [9] k (fun kq v9 w' => ∃ (x9_1 : Int), v9 = .int .i64 x9_1 ∧ Aside0 (changeforgeref6_Accepted.l0 kq l0 a1 a2 a3 x9_1 = some r) ∧ Aside0 (kq ≤ k) ∧ Aside0 (Below w.heap.size w w'))
  case atStart => exact ⟨(0), (by first | rfl | (simp; done) | (simp [*]; done)), H', ⟨Nat.le_refl _⟩, ⟨by repeat (first | (with_reducible first | exact HB.out | apply below_alloc | apply pw_below_drewN | apply below_drew1) | exact HB.out)⟩⟩
  case round =>
    clear H'
    try clear c1
    try clear p2
    obtain ⟨x9_1, rfl, HA, HK1, HB⟩ := hrel
    cases gk with
    | zero => exact absurd HA.out (by simp [changeforgeref6_Accepted.l0])
    | succ k1 =>
      have H := HA.out
      clear HA
      simp only [changeforgeref6_Accepted.l0] at H
      by_cases c5 : x9_1 < (l0.length : Int)
      · rw [if_pos c5] at H
        have c5b0 : decide (x9_1 < (l0.length : Int)) = true := decide_eq_true c5
        clear c5
        have HC6 := Aside0.mk H
        clear H
        go_upto_region 4 with (fail)
        go_cut [36] (fun v36 wc => ∃ (kq : Nat) (x36_5 : Bool), v36 = .bool x36_5 ∧ Aside0 (changeforgeref6_Accepted.j1 kq l0 a1 a2 a3 x9_1 x36_5 = some r) ∧ Aside0 (kq ≤ k1) ∧ Aside0 (Below w.heap.size w wc))
        case first =>
          have H := HC6.out
          clear HC6
          by_cases c7 : 0 ≤ x9_1
          · rw [if_pos c7] at H
            have c7b0 : decide (0 ≤ x9_1) = true := decide_eq_true c7
            clear c7
            (first | rw [c7b0] | (simp only [i64_w, i32_w]; rw [c7b0]) | skip)
            by_cases c8 : ((rd_T44 l0 x9_1).f0) = 2
            · rw [if_pos c8] at H
              have c8b0 : (((rd_T44 l0 x9_1).f0) == 2) = true := beq_iff_eq.mpr c8
              have c8b1 : (((rd_T44 l0 x9_1).f0) != 2) = false := bne_eq_false_iff_eq.mpr c8
              clear c8
              have c9b0 := eq_true (of_decide_eq_true (by first | (with_reducible assumption) | assumption) : 0 ≤ x9_1)
              by_cases c10 : x9_1 ≤ (l0.length : Int)
              · rw [if_pos c10] at H
                have c10b0 := eq_true c10
                have c10b1 : decide (x9_1 ≤ (l0.length : Int)) = true := decide_eq_true c10
                clear c10
                obtain ⟨y270, hy270⟩ : ∃ y_ : List (S44), y_ = (l0.take (x9_1 : Int).toNat) := ⟨_, rfl⟩
                replace H : ((changeforgeref6_WorkingOn.f k1 y270 ((rd_T44 l0 x9_1).f1)).bind fun t275 => (changeforgeref6_Accepted.j1 k1 l0 a1 a2 a3 x9_1 (t275 != a3))) = some r := by first | (rw [hy270]; with_reducible exact H) | (have H2_ := (Option.bind_some _ _).symm.trans H; rw [hy270]; with_reducible exact H2_) | (have H2_ := (Option.bind_some _ _).symm.trans H; with_reducible exact H2_) | with_reducible exact H | (rw [hy270]; exact H) | exact H
                have Ny270 := Aside0.mk hy270
                clear hy270
                replace H := Option.bind_eq_some_iff.mp H
                obtain ⟨t275, A110, H⟩ := H
                replace H : (changeforgeref6_Accepted.j1 k1 l0 a1 a2 a3 x9_1 (t275 != a3)) = some r := H
                have A11 := Aside0.mk A110
                clear A110
                have H' := Aside0.mk H
                clear H
                try go_wp2
                have n0_ := Aside0.mk (below_drew1 HB.out)
                clear HB
                have HB := n0_
                clear n0_
                have p269 : 0 ≤ (x9_1 : Int) := of_decide_eq_true (by first | (with_reducible assumption) | assumption)
                have q269 : x9_1 < (l0.length : Int) := of_decide_eq_true (by first | (with_reducible assumption) | assumption)
                obtain ⟨ad269, e269, hx269_0, hx269_1, hx269_2, hx269_3⟩ := at_T44 HR0.out x9_1 p269 q269
                have hw269_3 := hx269_3
                have hw269_2 := hx269_2
                have hw269_1 := hx269_1
                have hw269_0 := hx269_0
                cases e269
                replace hx269_0 := (HB.out.cell (World.block_lt_of_cell? w _ hx269_0)).trans hx269_0
                replace hx269_1 := (HB.out.cell (World.block_lt_of_cell? w _ hx269_1)).trans hx269_1
                replace hx269_2 := (HB.out.cell (World.block_lt_of_cell? w _ hx269_2)).trans hx269_2
                replace hx269_3 := (HB.out.cell (World.block_lt_of_cell? w _ hx269_3)).trans hx269_3
                replace p269 := eq_true p269
                replace q269 := eq_true q269
                have q13 : (x9_1 : Int) ≤ ((l0.length : Int) : Int) := of_decide_eq_true (by first | (with_reducible assumption) | assumption)
                obtain ⟨i013, hi013, _, hsz13, _⟩ := info_parts info44
                have hroom13 : l0.length ≤ c0 := HC0.out
                have hC13 : Kd.C k44 _ (some ad269) l0.length l0 := HR0.out
                have hcut13 := cut_to (P := Try.prog) 22 44 .i64 Try.underlying22 hi013 (some ad269) l0.length c0 x9_1 (of_decide_eq_true (by first | (with_reducible assumption) | assumption)) q13 hroom13
                have hr13 := Kd.C_take (m := (x9_1 : Int).toNat) hC13 (by omega)
                have hy13 : y270.length = (x9_1 : Int).toNat := (by rw [Ny270.out, List.length_take]; omega)
                rw [← Ny270.out] at hr13
                rw [← hy13] at hcut13
                have HR273 := Aside0.mk hr13
                have HC273 := Aside0.mk (show y270.length ≤ c0 from by omega)
                clear hr13 hC13 hroom13 hi013 hsz13
                have KY13 := Aside0.mk hy13
                clear hy13
                replace q13 := eq_true q13
                have p274 : 0 ≤ (x9_1 : Int) := of_decide_eq_true (by first | (with_reducible assumption) | assumption)
                have q274 : x9_1 < (l0.length : Int) := of_decide_eq_true (by first | (with_reducible assumption) | assumption)
                obtain ⟨ad274, e274, hx274_0, hx274_1, hx274_2, hx274_3⟩ := at_T44 HR0.out x9_1 p274 q274
                have hw274_3 := hx274_3
                have hw274_2 := hx274_2
                have hw274_1 := hx274_1
                have hw274_0 := hx274_0
                obtain rfl : ad269 = ad274 := (by injection e274)
                replace hx274_0 := (HB.out.cell (World.block_lt_of_cell? w _ hx274_0)).trans hx274_0
                replace hx274_1 := (HB.out.cell (World.block_lt_of_cell? w _ hx274_1)).trans hx274_1
                replace hx274_2 := (HB.out.cell (World.block_lt_of_cell? w _ hx274_2)).trans hx274_2
                replace hx274_3 := (HB.out.cell (World.block_lt_of_cell? w _ hx274_3)).trans hx274_3
                replace p274 := eq_true p274
                replace q274 := eq_true q274
                refine start_ (n := 19) (S := fun w' => w'.cell? (ad269.add ((x9_1).toNat * 4)) = some (.int .i64 ((rd_T44 l0 x9_1).f0)) ∧ w'.cell? ⟨(ad269.add ((x9_1).toNat * 4)).block, (ad269.add ((x9_1).toNat * 4)).off + 1, none⟩ = some (.int .i64 ((rd_T44 l0 x9_1).f1)) ∧ w'.cell? ⟨(ad269.add ((x9_1).toNat * 4)).block, (ad269.add ((x9_1).toNat * 4)).off + 2, none⟩ = some (.int .i64 ((rd_T44 l0 x9_1).f2)) ∧ w'.cell? ⟨(ad269.add ((x9_1).toNat * 4)).block, (ad269.add ((x9_1).toNat * 4)).off + 3, none⟩ = some (.int .i64 ((rd_T44 l0 x9_1).f3)) ∧ w'.cell? (ad269.add ((x9_1).toNat * 4)) = some (.int .i64 ((rd_T44 l0 x9_1).f0)) ∧ w'.cell? ⟨(ad269.add ((x9_1).toNat * 4)).block, (ad269.add ((x9_1).toNat * 4)).off + 1, none⟩ = some (.int .i64 ((rd_T44 l0 x9_1).f1)) ∧ w'.cell? ⟨(ad269.add ((x9_1).toNat * 4)).block, (ad269.add ((x9_1).toNat * 4)).off + 2, none⟩ = some (.int .i64 ((rd_T44 l0 x9_1).f2)) ∧ w'.cell? ⟨(ad269.add ((x9_1).toNat * 4)).block, (ad269.add ((x9_1).toNat * 4)).off + 3, none⟩ = some (.int .i64 ((rd_T44 l0 x9_1).f3))) (ds := []) #[false, false, false, false, false, false, false, false, false, false, false, false, false, false, false, false, false, false, false] (by kernel_rfl) rfl rfl ⟨((HB.out.cell (World.block_lt_of_cell? w _ hw269_0)).trans hw269_0), ((HB.out.cell (World.block_lt_of_cell? w _ hw269_1)).trans hw269_1), ((HB.out.cell (World.block_lt_of_cell? w _ hw269_2)).trans hw269_2), ((HB.out.cell (World.block_lt_of_cell? w _ hw269_3)).trans hw269_3), ((HB.out.cell (World.block_lt_of_cell? w _ hw274_0)).trans hw274_0), ((HB.out.cell (World.block_lt_of_cell? w _ hw274_1)).trans hw274_1), ((HB.out.cell (World.block_lt_of_cell? w _ hw274_2)).trans hw274_2), ((HB.out.cell (World.block_lt_of_cell? w _ hw274_3)).trans hw274_3)⟩ (fun hHeld => ?_); refine with_tabW changeforgeref6_Accepted.tab4 changeforgeref6_Accepted.bits4 (fun HT_ HW_ => ?_)
                generalize wr.drew = w12 at HB HR273 hx269_0 hx269_1 hx269_2 hx269_3 hx274_0 hx274_1 hx274_2 hx274_3 hHeld ⊢
                refine pure_ (i := 0) (N := some 18) (v := ?_) (a' := ?_) #[true, false, false, false, false, false, false, false, false, false, false, false, false, false, false, false, false, false, false] rfl rfl (any_of HT_.out (by kernel_rfl)) (fun _ _ _ h => h) (Or.inl ⟨by rfl, ?_⟩) ?_ ?_
                rotate_left
                · intro w'
                  go_simp
                  with_reducible rfl
                rotate_left
                · simp only [Act.put, List.setIfInBounds_toArray, List.set_cons_zero, List.set_cons_succ, i64_w, i32_w]
                  rfl
                refine pure_ (i := 1) (N := some 19) (v := ?_) (a' := ?_) #[true, true, false, false, false, false, false, false, false, false, false, false, false, false, false, false, false, false, false] rfl rfl (any_of HT_.out (by kernel_rfl)) (fun _ _ _ h => h) (Or.inl ⟨by rfl, ?_⟩) ?_ ?_
                rotate_left
                · intro w'
                  go_simp
                  with_reducible rfl
                rotate_left
                · simp only [Act.put, List.setIfInBounds_toArray, List.set_cons_zero, List.set_cons_succ, i64_w, i32_w]
                  rfl
                refine pure_ (i := 2) (N := some 20) (v := ?_) (a' := ?_) #[true, true, true, false, false, false, false, false, false, false, false, false, false, false, false, false, false, false, false] rfl rfl (any_of HT_.out (by kernel_rfl)) (fun _ _ _ h => h) (Or.inl ⟨by rfl, ?_⟩) ?_ ?_
                rotate_left
                · intro w'
                  go_simp
                  with_reducible rfl
                rotate_left
                · simp only [Act.put, List.setIfInBounds_toArray, List.set_cons_zero, List.set_cons_succ, i64_w, i32_w]
                  rfl
                refine pure_ (i := 3) (N := some 21) (v := ?_) (a' := ?_) #[true, true, true, true, false, false, false, false, false, false, false, false, false, false, false, false, false, false, false] rfl rfl (any_of HT_.out (by kernel_rfl)) (fun _ _ _ h => h) (Or.inl ⟨by rfl, ?_⟩) ?_ ?_
                rotate_left
                · intro w'
                  go_simp
                  with_reducible rfl
                rotate_left
                · simp only [Act.put, List.setIfInBounds_toArray, List.set_cons_zero, List.set_cons_succ, i64_w, i32_w]
                  rfl
                refine take_ (i := 4) (N := some 22) (v := ?_) (a' := ?_) #[true, true, true, true, true, false, false, false, false, false, false, false, false, false, false, false, false, false, false] rfl rfl (take_ofW HT_.out HW_.out (by kernel_rfl)) (fun _ _ _ h => h) (Or.inl ⟨by rfl, ?_⟩) hHeld ?_ ?_
                rotate_left
                · rintro w' ⟨s0, s1, s2, s3, s4, s5, s6, s7⟩
                  go_simp
                  with_reducible rfl
                rotate_left
                · simp only [Act.put, List.setIfInBounds_toArray, List.set_cons_zero, List.set_cons_succ, i64_w, i32_w]
                  rfl
                refine pure_ (i := 5) (N := some 23) (v := ?_) (a' := ?_) #[true, true, true, true, true, true, false, false, false, false, false, false, false, false, false, false, false, false, false] rfl rfl (any_of HT_.out (by kernel_rfl)) (fun _ _ _ h => h) (Or.inl ⟨by rfl, ?_⟩) ?_ ?_
                rotate_left
                · intro w'
                  go_simp
                  with_reducible rfl
                rotate_left
                · simp only [Act.put, List.setIfInBounds_toArray, List.set_cons_zero, List.set_cons_succ, i64_w, i32_w]
                  rfl
                refine pure_ (i := 6) (N := some 24) (v := ?_) (a' := ?_) #[true, true, true, true, true, true, true, false, false, false, false, false, false, false, false, false, false, false, false] rfl rfl (any_of HT_.out (by kernel_rfl)) (fun _ _ _ h => h) (Or.inl ⟨by rfl, ?_⟩) ?_ ?_
                rotate_left
                · intro w'
                  go_simp
                  with_reducible rfl
                rotate_left
                · simp only [Act.put, List.setIfInBounds_toArray, List.set_cons_zero, List.set_cons_succ, i64_w, i32_w]
                  rfl
                refine pure_ (i := 7) (N := some 25) (v := ?_) (a' := ?_) #[true, true, true, true, true, true, true, true, false, false, false, false, false, false, false, false, false, false, false] rfl rfl (any_of HT_.out (by kernel_rfl)) (fun _ _ _ h => h) (Or.inl ⟨by rfl, ?_⟩) ?_ ?_
                rotate_left
                · intro w'
                  go_simp
                  with_reducible rfl
                rotate_left
                · simp only [Act.put, List.setIfInBounds_toArray, List.set_cons_zero, List.set_cons_succ, i64_w, i32_w]
                  rfl
                refine pure_ (i := 8) (N := some 26) (v := ?_) (a' := ?_) #[true, true, true, true, true, true, true, true, true, false, false, false, false, false, false, false, false, false, false] rfl rfl (any_of HT_.out (by kernel_rfl)) (fun _ _ _ h => h) (Or.inl ⟨by rfl, ?_⟩) ?_ ?_
                rotate_left
                · intro w'
                  go_simp
                  with_reducible rfl
                rotate_left
                · simp only [Act.put, List.setIfInBounds_toArray, List.set_cons_zero, List.set_cons_succ, i64_w, i32_w]
                  rfl
                refine pure_ (i := 9) (N := some 27) (v := ?_) (a' := ?_) #[true, true, true, true, true, true, true, true, true, true, false, false, false, false, false, false, false, false, false] rfl rfl (any_of HT_.out (by kernel_rfl)) (fun _ _ _ h => h) (Or.inl ⟨by rfl, ?_⟩) ?_ ?_
                rotate_left
                · intro w'
                  go_simp
                  with_reducible rfl
                rotate_left
                · simp only [Act.put, List.setIfInBounds_toArray, List.set_cons_zero, List.set_cons_succ, i64_w, i32_w]
                  rfl
                refine pure_ (i := 10) (N := some 28) (v := ?_) (a' := ?_) #[true, true, true, true, true, true, true, true, true, true, true, false, false, false, false, false, false, false, false] rfl rfl (any_of HT_.out (by kernel_rfl)) (fun _ _ _ h => h) (Or.inl ⟨by rfl, ?_⟩) ?_ ?_
                rotate_left
                · intro w'
                  go_simp
                  with_reducible rfl
                rotate_left
                · simp only [Act.put, List.setIfInBounds_toArray, List.set_cons_zero, List.set_cons_succ, i64_w, i32_w]
                  rfl
                refine pure_ (i := 11) (N := some 29) (v := ?_) (a' := ?_) #[true, true, true, true, true, true, true, true, true, true, true, true, false, false, false, false, false, false, false] rfl rfl (any_of HT_.out (by kernel_rfl)) (fun _ _ _ h => h) (Or.inl ⟨by rfl, ?_⟩) ?_ ?_
                rotate_left
                · intro w'
                  go_simp
                  with_reducible rfl
                rotate_left
                · simp only [Act.put, List.setIfInBounds_toArray, List.set_cons_zero, List.set_cons_succ, i64_w, i32_w]
                  rfl
                refine pure_ (i := 12) (N := some 30) (v := ?_) (a' := ?_) #[true, true, true, true, true, true, true, true, true, true, true, true, true, false, false, false, false, false, false] rfl rfl (any_of HT_.out (by kernel_rfl)) (fun _ _ _ h => h) (Or.inl ⟨by rfl, ?_⟩) ?_ ?_
                rotate_left
                · intro w'
                  go_simp
                  with_reducible rfl
                rotate_left
                · simp only [Act.put, List.setIfInBounds_toArray, List.set_cons_zero, List.set_cons_succ, i64_w, i32_w]
                  rfl
                refine pure_ (i := 13) (N := some 31) (v := ?_) (a' := ?_) #[true, true, true, true, true, true, true, true, true, true, true, true, true, true, false, false, false, false, false] rfl rfl (any_of HT_.out (by kernel_rfl)) (fun _ _ _ h => h) (Or.inl ⟨by rfl, ?_⟩) ?_ ?_
                rotate_left
                · intro w'
                  go_simp
                  with_reducible rfl
                rotate_left
                · simp only [Act.put, List.setIfInBounds_toArray, List.set_cons_zero, List.set_cons_succ, i64_w, i32_w]
                  rfl
                refine pure_ (i := 16) (N := some 34) (v := ?_) (a' := ?_) #[true, true, true, true, true, true, true, true, true, true, true, true, true, true, false, false, true, false, false] rfl rfl (any_of HT_.out (by kernel_rfl)) (fun _ _ _ h => h) (Or.inl ⟨by rfl, ?_⟩) ?_ ?_
                rotate_left
                · intro w'
                  go_simp
                  with_reducible rfl
                rotate_left
                · simp only [Act.put, List.setIfInBounds_toArray, List.set_cons_zero, List.set_cons_succ, i64_w, i32_w]
                  rfl
                refine take_ (i := 14) (N := some 32) (v := ?_) (a' := ?_) #[true, true, true, true, true, true, true, true, true, true, true, true, true, true, true, false, true, false, false] rfl rfl (take_ofW HT_.out HW_.out (by kernel_rfl)) (fun _ _ _ h => h) (Or.inl ⟨by rfl, ?_⟩) hHeld ?_ ?_
                rotate_left
                · rintro w' ⟨s0, s1, s2, s3, s4, s5, s6, s7⟩
                  go_simp
                  with_reducible rfl
                rotate_left
                · simp only [Act.put, List.setIfInBounds_toArray, List.set_cons_zero, List.set_cons_succ, i64_w, i32_w]
                  rfl
                refine one_ (i := 15) (N := some 33) #[true, true, true, true, true, true, true, true, true, true, true, true, true, true, true, true, true, false, false] rfl rfl (one_of HT_.out (by kernel_rfl)) (by decide) (fun K hK => ?_)
                refine goes_ Try.func20 (by kernel_rfl) rfl #[.slice (some ad269) y270.length c0, .int .i64 ((rd_T44 l0 x9_1).f1)] (by rfl) rfl rfl (by (try simp only [List.map_toArray, List.map_cons, List.map_nil]); first | done | rfl | (simp only [List.length_drop, List.length_take]; rfl) | (simp only [KY13.out]; rfl) | (simp only [KY26.out]; rfl) | (simp only [KY29.out]; rfl) | (go_simp; rw [KY13.out, KY26.out]) | (go_simp; rw [KY13.out, KY29.out]) | (go_simp; rw [KY26.out, KY13.out]) | (go_simp; rw [KY26.out, KY29.out]) | (go_simp; rw [KY29.out, KY13.out]) | (go_simp; rw [KY29.out, KY26.out])) ?_
                with_reducible refine (changeforgeref6_WorkingOn.calls k1 _ _ y270 ((rd_T44 l0 x9_1).f1) t275 _ ?side1 ?side2 A11.out).mono ?_
                (case side1 => repeat (first | exact (Kd.C_below HR273.out HB.out) | (with_reducible refine Kd.C_alloc ?_ _) | (with_reducible refine Kd.C_drewN ?_ _) | (with_reducible refine Kd.C_drew ?_)))
                (case side2 => exact HC273.out)
                rintro e w14 ⟨rfl, hb⟩
                refine ⟨_, rfl, ?_⟩
                have n0_ := Aside0.mk (below_step (by repeat (first | (with_reducible first | exact HB.out | apply below_alloc | apply pw_below_drewN | apply below_drew1) | exact HB.out)) hb)
                clear HB
                have HB := n0_
                clear n0_
                (try clear hb)
                (try clear hb2)
                (try clear hk)
                (try clear hi)
                refine hK.out _ _ ⟨((HB.out.cell (World.block_lt_of_cell? w _ hw269_0)).trans hw269_0), ((HB.out.cell (World.block_lt_of_cell? w _ hw269_1)).trans hw269_1), ((HB.out.cell (World.block_lt_of_cell? w _ hw269_2)).trans hw269_2), ((HB.out.cell (World.block_lt_of_cell? w _ hw269_3)).trans hw269_3), ((HB.out.cell (World.block_lt_of_cell? w _ hw274_0)).trans hw274_0), ((HB.out.cell (World.block_lt_of_cell? w _ hw274_1)).trans hw274_1), ((HB.out.cell (World.block_lt_of_cell? w _ hw274_2)).trans hw274_2), ((HB.out.cell (World.block_lt_of_cell? w _ hw274_3)).trans hw274_3)⟩ (fun hHeld => ?_)
                clear hK K
                refine norm_ (a' := ?_) ?_ ?_
                rotate_left
                · show Act.put _ (some 33) _ = _
                  simp only [Act.put, List.setIfInBounds_toArray, List.set_cons_zero, List.set_cons_succ, i64_w, i32_w]
                  rfl
                refine pure_ (i := 17) (N := some 35) (v := ?_) (a' := ?_) #[true, true, true, true, true, true, true, true, true, true, true, true, true, true, true, true, true, true, false] rfl rfl (any_of HT_.out (by kernel_rfl)) (fun _ _ _ h => h) (Or.inl ⟨by rfl, ?_⟩) ?_ ?_
                rotate_left
                · intro w'
                  go_simp
                  with_reducible rfl
                rotate_left
                · simp only [Act.put, List.setIfInBounds_toArray, List.set_cons_zero, List.set_cons_succ, i64_w, i32_w]
                  rfl
                refine pure_ (i := 18) (N := some 36) (v := ?_) (a' := ?_) #[true, true, true, true, true, true, true, true, true, true, true, true, true, true, true, true, true, true, true] rfl rfl (any_of HT_.out (by kernel_rfl)) (fun _ _ _ h => h) (Or.inl ⟨by rfl, ?_⟩) ?_ ?_
                rotate_left
                · intro w'
                  go_simp
                  with_reducible rfl
                rotate_left
                · simp only [Act.put, List.setIfInBounds_toArray, List.set_cons_zero, List.set_cons_succ, i64_w, i32_w]
                  rfl
                refine done_ (done_of HT_.out (by kernel_rfl)) ?_
                try go_wp2
                go_meet
                case rel => exact ⟨_, ((t275 != a3)), (by first | rfl | (simp; done) | (simp [*]; done)), H', ⟨by have := HK1.out; first | omega | exact Nat.le_refl _⟩, ⟨by repeat (first | (with_reducible first | exact HB.out | apply below_alloc | apply pw_below_drewN | apply below_drew1) | exact HB.out)⟩⟩
              · rw [if_neg c10] at H
                exact absurd H (by simp)
            · rw [if_neg c8] at H
              have c8b0 : (((rd_T44 l0 x9_1).f0) == 2) = false := beq_eq_false_iff_ne.mpr c8
              have c8b1 : (((rd_T44 l0 x9_1).f0) != 2) = true := bne_iff_ne.mpr c8
              have H' := Aside0.mk H
              clear H
              try go_wp2
              have n0_ := Aside0.mk (below_drew1 HB.out)
              clear HB
              have HB := n0_
              clear n0_
              have p269 : 0 ≤ (x9_1 : Int) := of_decide_eq_true (by first | (with_reducible assumption) | assumption)
              have q269 : x9_1 < (l0.length : Int) := of_decide_eq_true (by first | (with_reducible assumption) | assumption)
              obtain ⟨ad269, e269, hx269_0, hx269_1, hx269_2, hx269_3⟩ := at_T44 HR0.out x9_1 p269 q269
              have hw269_3 := hx269_3
              have hw269_2 := hx269_2
              have hw269_1 := hx269_1
              have hw269_0 := hx269_0
              cases e269
              replace hx269_0 := (HB.out.cell (World.block_lt_of_cell? w _ hx269_0)).trans hx269_0
              replace hx269_1 := (HB.out.cell (World.block_lt_of_cell? w _ hx269_1)).trans hx269_1
              replace hx269_2 := (HB.out.cell (World.block_lt_of_cell? w _ hx269_2)).trans hx269_2
              replace hx269_3 := (HB.out.cell (World.block_lt_of_cell? w _ hx269_3)).trans hx269_3
              replace p269 := eq_true p269
              replace q269 := eq_true q269
              refine start_ (n := 19) (S := fun w' => w'.cell? (ad269.add ((x9_1).toNat * 4)) = some (.int .i64 ((rd_T44 l0 x9_1).f0)) ∧ w'.cell? ⟨(ad269.add ((x9_1).toNat * 4)).block, (ad269.add ((x9_1).toNat * 4)).off + 1, none⟩ = some (.int .i64 ((rd_T44 l0 x9_1).f1)) ∧ w'.cell? ⟨(ad269.add ((x9_1).toNat * 4)).block, (ad269.add ((x9_1).toNat * 4)).off + 2, none⟩ = some (.int .i64 ((rd_T44 l0 x9_1).f2)) ∧ w'.cell? ⟨(ad269.add ((x9_1).toNat * 4)).block, (ad269.add ((x9_1).toNat * 4)).off + 3, none⟩ = some (.int .i64 ((rd_T44 l0 x9_1).f3))) (ds := []) #[false, false, false, false, false, false, false, false, false, false, false, false, false, false, false, false, false, false, false] (by kernel_rfl) rfl rfl ⟨((HB.out.cell (World.block_lt_of_cell? w _ hw269_0)).trans hw269_0), ((HB.out.cell (World.block_lt_of_cell? w _ hw269_1)).trans hw269_1), ((HB.out.cell (World.block_lt_of_cell? w _ hw269_2)).trans hw269_2), ((HB.out.cell (World.block_lt_of_cell? w _ hw269_3)).trans hw269_3)⟩ (fun hHeld => ?_); refine with_tabW changeforgeref6_Accepted.tab4 changeforgeref6_Accepted.bits4 (fun HT_ HW_ => ?_)
              generalize wr.drew = w15 at HB hx269_0 hx269_1 hx269_2 hx269_3 hHeld ⊢
              refine pure_ (i := 0) (N := some 18) (v := ?_) (a' := ?_) #[true, false, false, false, false, false, false, false, false, false, false, false, false, false, false, false, false, false, false] rfl rfl (any_of HT_.out (by kernel_rfl)) (fun _ _ _ h => h) (Or.inl ⟨by rfl, ?_⟩) ?_ ?_
              rotate_left
              · intro w'
                go_simp
                with_reducible rfl
              rotate_left
              · simp only [Act.put, List.setIfInBounds_toArray, List.set_cons_zero, List.set_cons_succ, i64_w, i32_w]
                rfl
              refine pure_ (i := 1) (N := some 19) (v := ?_) (a' := ?_) #[true, true, false, false, false, false, false, false, false, false, false, false, false, false, false, false, false, false, false] rfl rfl (any_of HT_.out (by kernel_rfl)) (fun _ _ _ h => h) (Or.inl ⟨by rfl, ?_⟩) ?_ ?_
              rotate_left
              · intro w'
                go_simp
                with_reducible rfl
              rotate_left
              · simp only [Act.put, List.setIfInBounds_toArray, List.set_cons_zero, List.set_cons_succ, i64_w, i32_w]
                rfl
              refine pure_ (i := 2) (N := some 20) (v := ?_) (a' := ?_) #[true, true, true, false, false, false, false, false, false, false, false, false, false, false, false, false, false, false, false] rfl rfl (any_of HT_.out (by kernel_rfl)) (fun _ _ _ h => h) (Or.inl ⟨by rfl, ?_⟩) ?_ ?_
              rotate_left
              · intro w'
                go_simp
                with_reducible rfl
              rotate_left
              · simp only [Act.put, List.setIfInBounds_toArray, List.set_cons_zero, List.set_cons_succ, i64_w, i32_w]
                rfl
              refine pure_ (i := 3) (N := some 21) (v := ?_) (a' := ?_) #[true, true, true, true, false, false, false, false, false, false, false, false, false, false, false, false, false, false, false] rfl rfl (any_of HT_.out (by kernel_rfl)) (fun _ _ _ h => h) (Or.inl ⟨by rfl, ?_⟩) ?_ ?_
              rotate_left
              · intro w'
                go_simp
                with_reducible rfl
              rotate_left
              · simp only [Act.put, List.setIfInBounds_toArray, List.set_cons_zero, List.set_cons_succ, i64_w, i32_w]
                rfl
              refine take_ (i := 4) (N := some 22) (v := ?_) (a' := ?_) #[true, true, true, true, true, false, false, false, false, false, false, false, false, false, false, false, false, false, false] rfl rfl (take_ofW HT_.out HW_.out (by kernel_rfl)) (fun _ _ _ h => h) (Or.inl ⟨by rfl, ?_⟩) hHeld ?_ ?_
              rotate_left
              · rintro w' ⟨s0, s1, s2, s3⟩
                go_simp
                with_reducible rfl
              rotate_left
              · simp only [Act.put, List.setIfInBounds_toArray, List.set_cons_zero, List.set_cons_succ, i64_w, i32_w]
                rfl
              refine pure_ (i := 5) (N := some 23) (v := ?_) (a' := ?_) #[true, true, true, true, true, true, false, false, false, false, false, false, false, false, false, false, false, false, false] rfl rfl (any_of HT_.out (by kernel_rfl)) (fun _ _ _ h => h) (Or.inl ⟨by rfl, ?_⟩) ?_ ?_
              rotate_left
              · intro w'
                go_simp
                with_reducible rfl
              rotate_left
              · simp only [Act.put, List.setIfInBounds_toArray, List.set_cons_zero, List.set_cons_succ, i64_w, i32_w]
                rfl
              refine pure_ (i := 6) (N := some 24) (v := ?_) (a' := ?_) #[true, true, true, true, true, true, true, false, false, false, false, false, false, false, false, false, false, false, false] rfl rfl (any_of HT_.out (by kernel_rfl)) (fun _ _ _ h => h) (Or.inl ⟨by rfl, ?_⟩) ?_ ?_
              rotate_left
              · intro w'
                go_simp
                with_reducible rfl
              rotate_left
              · simp only [Act.put, List.setIfInBounds_toArray, List.set_cons_zero, List.set_cons_succ, i64_w, i32_w]
                rfl
              refine pure_ (i := 7) (N := some 25) (v := undef) (a' := ?_) #[true, true, true, true, true, true, true, true, false, false, false, false, false, false, false, false, false, false, false] rfl rfl (any_of HT_.out (by kernel_rfl)) (fun _ _ _ h => h) (Or.inr ⟨by rfl, rfl⟩) ?_ ?_
              rotate_left
              · simp only [Act.put, List.setIfInBounds_toArray, List.set_cons_zero, List.set_cons_succ, i64_w, i32_w]
                rfl
              refine pure_ (i := 8) (N := some 26) (v := undef) (a' := ?_) #[true, true, true, true, true, true, true, true, true, false, false, false, false, false, false, false, false, false, false] rfl rfl (any_of HT_.out (by kernel_rfl)) (fun _ _ _ h => h) (Or.inr ⟨by rfl, rfl⟩) ?_ ?_
              rotate_left
              · simp only [Act.put, List.setIfInBounds_toArray, List.set_cons_zero, List.set_cons_succ, i64_w, i32_w]
                rfl
              refine pure_ (i := 9) (N := some 27) (v := undef) (a' := ?_) #[true, true, true, true, true, true, true, true, true, true, false, false, false, false, false, false, false, false, false] rfl rfl (any_of HT_.out (by kernel_rfl)) (fun _ _ _ h => h) (Or.inr ⟨by rfl, rfl⟩) ?_ ?_
              rotate_left
              · simp only [Act.put, List.setIfInBounds_toArray, List.set_cons_zero, List.set_cons_succ, i64_w, i32_w]
                rfl
              refine pure_ (i := 10) (N := some 28) (v := undef) (a' := ?_) #[true, true, true, true, true, true, true, true, true, true, true, false, false, false, false, false, false, false, false] rfl rfl (any_of HT_.out (by kernel_rfl)) (fun _ _ _ h => h) (Or.inr ⟨by rfl, rfl⟩) ?_ ?_
              rotate_left
              · simp only [Act.put, List.setIfInBounds_toArray, List.set_cons_zero, List.set_cons_succ, i64_w, i32_w]
                rfl
              refine pure_ (i := 11) (N := some 29) (v := undef) (a' := ?_) #[true, true, true, true, true, true, true, true, true, true, true, true, false, false, false, false, false, false, false] rfl rfl (any_of HT_.out (by kernel_rfl)) (fun _ _ _ h => h) (Or.inr ⟨by rfl, rfl⟩) ?_ ?_
              rotate_left
              · simp only [Act.put, List.setIfInBounds_toArray, List.set_cons_zero, List.set_cons_succ, i64_w, i32_w]
                rfl
              refine pure_ (i := 12) (N := some 30) (v := undef) (a' := ?_) #[true, true, true, true, true, true, true, true, true, true, true, true, true, false, false, false, false, false, false] rfl rfl (any_of HT_.out (by kernel_rfl)) (fun _ _ _ h => h) (Or.inr ⟨by rfl, rfl⟩) ?_ ?_
              rotate_left
              · simp only [Act.put, List.setIfInBounds_toArray, List.set_cons_zero, List.set_cons_succ, i64_w, i32_w]
                rfl
              refine pure_ (i := 13) (N := some 31) (v := undef) (a' := ?_) #[true, true, true, true, true, true, true, true, true, true, true, true, true, true, false, false, false, false, false] rfl rfl (any_of HT_.out (by kernel_rfl)) (fun _ _ _ h => h) (Or.inr ⟨by rfl, rfl⟩) ?_ ?_
              rotate_left
              · simp only [Act.put, List.setIfInBounds_toArray, List.set_cons_zero, List.set_cons_succ, i64_w, i32_w]
                rfl
              refine pure_ (i := 14) (N := some 32) (v := undef) (a' := ?_) #[true, true, true, true, true, true, true, true, true, true, true, true, true, true, true, false, false, false, false] rfl rfl (any_of HT_.out (by kernel_rfl)) (fun _ _ _ h => h) (Or.inr ⟨by rfl, rfl⟩) ?_ ?_
              rotate_left
              · simp only [Act.put, List.setIfInBounds_toArray, List.set_cons_zero, List.set_cons_succ, i64_w, i32_w]
                rfl
              refine pure_ (i := 15) (N := some 33) (v := undef) (a' := ?_) #[true, true, true, true, true, true, true, true, true, true, true, true, true, true, true, true, false, false, false] rfl rfl (any_of HT_.out (by kernel_rfl)) (fun _ _ _ h => h) (Or.inr ⟨by rfl, rfl⟩) ?_ ?_
              rotate_left
              · simp only [Act.put, List.setIfInBounds_toArray, List.set_cons_zero, List.set_cons_succ, i64_w, i32_w]
                rfl
              refine pure_ (i := 16) (N := some 34) (v := undef) (a' := ?_) #[true, true, true, true, true, true, true, true, true, true, true, true, true, true, true, true, true, false, false] rfl rfl (any_of HT_.out (by kernel_rfl)) (fun _ _ _ h => h) (Or.inr ⟨by rfl, rfl⟩) ?_ ?_
              rotate_left
              · simp only [Act.put, List.setIfInBounds_toArray, List.set_cons_zero, List.set_cons_succ, i64_w, i32_w]
                rfl
              refine pure_ (i := 17) (N := some 35) (v := undef) (a' := ?_) #[true, true, true, true, true, true, true, true, true, true, true, true, true, true, true, true, true, true, false] rfl rfl (any_of HT_.out (by kernel_rfl)) (fun _ _ _ h => h) (Or.inr ⟨by rfl, rfl⟩) ?_ ?_
              rotate_left
              · simp only [Act.put, List.setIfInBounds_toArray, List.set_cons_zero, List.set_cons_succ, i64_w, i32_w]
                rfl
              refine pure_ (i := 18) (N := some 36) (v := ?_) (a' := ?_) #[true, true, true, true, true, true, true, true, true, true, true, true, true, true, true, true, true, true, true] rfl rfl (any_of HT_.out (by kernel_rfl)) (fun _ _ _ h => h) (Or.inl ⟨by rfl, ?_⟩) ?_ ?_
              rotate_left
              · intro w'
                go_simp
                with_reducible rfl
              rotate_left
              · simp only [Act.put, List.setIfInBounds_toArray, List.set_cons_zero, List.set_cons_succ, i64_w, i32_w]
                rfl
              refine done_ (done_of HT_.out (by kernel_rfl)) ?_
              try go_wp2
              go_meet
              case rel => exact ⟨_, (true), (by first | rfl | (simp; done) | (simp [*]; done)), H', ⟨by have := HK1.out; first | omega | exact Nat.le_refl _⟩, ⟨by repeat (first | (with_reducible first | exact HB.out | apply below_alloc | apply pw_below_drewN | apply below_drew1) | exact HB.out)⟩⟩
          · rw [if_neg c7] at H
            exact absurd H (by simp)
        case rest =>
          clear HC6
          try clear c1
          try clear q1
          try clear c2
          try clear p2
          try clear q2
          try clear hx2
          try clear c5
          try clear c5b0
          try clear c7
          try clear c7b0
          try clear c8
          try clear c8b0
          try clear c8b1
          try clear c9
          try clear c9b0
          try clear c10
          try clear c10b0
          try clear c10b1
          try clear c12
          try clear q13
          try clear hx269_0
          try clear hx269_1
          try clear hx269_2
          try clear hx269_3
          try clear hx274_0
          try clear hx274_1
          try clear hx274_2
          try clear hx274_3
          try clear p2
          try clear p269
          try clear p274
          try clear q13
          try clear q269
          try clear q274
          obtain ⟨kq, x36_5, rfl, HA, HJ5, HB⟩ := hcut
          cases kq with
          | zero => exact absurd HA.out (by simp [changeforgeref6_Accepted.j1])
          | succ kj5 =>
            have H := HA.out
            clear HA
            simp only [changeforgeref6_Accepted.j1] at H
            by_cases c16 : x36_5 = true
            · subst c16
              have H1 : (changeforgeref6_Accepted.l0 kj5 l0 a1 a2 a3 (wrap64 (x9_1 + 1))) = some r := by rw [if_pos rfl] at H; exact H
              clear H
              have H := H1
              clear H1
              have H' := Aside0.mk H
              clear H
              go_wp2
              go_roundg kj5
              case measure => have := HK1.out; have := HJ5.out; omega
              case rel => exact ⟨(wrap64 (x9_1 + 1)), (by first | rfl | (simp; done) | (simp [*]; done)), H', ⟨by have := HK1.out; have := HJ5.out; omega⟩, ⟨by repeat (first | (with_reducible first | exact HB.out | apply below_alloc | apply pw_below_drewN | apply below_drew1) | exact HB.out)⟩⟩
            · replace c16 := Bool.eq_false_iff.mpr c16
              subst c16
              have H1 : (changeforgeref6_Accepted.l1 kj5 l0 a1 a2 a3 x9_1 0 0) = some r := by rw [if_neg (show ¬ (false = true) by decide)] at H; exact H
              clear H
              have H := H1
              clear H1
              have H' := Aside0.mk H
              clear H
              go_wp2
              go_loopg [10, 11] kj5 (fun kq v10 v11 w' => ∃ (x10_3 : Int) (x11_3 : Int), v10 = .int .i64 x10_3 ∧ v11 = .int .i64 x11_3 ∧ Aside0 (changeforgeref6_Accepted.l1 kq l0 a1 a2 a3 x9_1 x10_3 x11_3 = some r) ∧ Aside0 (kq ≤ kj5) ∧ Aside0 (Below w.heap.size w w'))
              case atStart => exact ⟨(0), (0), (by first | rfl | (simp; done) | (simp [*]; done)), (by first | rfl | (simp; done) | (simp [*]; done)), H', ⟨Nat.le_refl _⟩, ⟨by repeat (first | (with_reducible first | exact HB.out | apply below_alloc | apply pw_below_drewN | apply below_drew1) | exact HB.out)⟩⟩
              case round =>
                clear H'
                try clear c1
                try clear q1
                try clear c2
                try clear p2
                try clear q2
                try clear hx2
                try clear c5
                try clear c5b0
                try clear p6
                try clear c7
                try clear c7b0
                try clear c8
                try clear c8b0
                try clear c8b1
                try clear c9
                try clear c9b0
                try clear c10
                try clear c10b0
                try clear c10b1
                try clear c12
                try clear q13
                try clear c16
                try clear hx269_0
                try clear hx269_1
                try clear hx269_2
                try clear hx269_3
                try clear hx274_0
                try clear hx274_1
                try clear hx274_2
                try clear hx274_3
                try clear p2
                try clear p269
                try clear p274
                try clear q1
                try clear q13
                try clear q2
                try clear q269
                try clear q274
                obtain ⟨x10_3, x11_3, rfl, rfl, HA, HK3, HB⟩ := hrel
                cases gk with
                | zero => exact absurd HA.out (by simp [changeforgeref6_Accepted.l1])
                | succ k3 =>
                  have H := HA.out
                  clear HA
                  simp only [changeforgeref6_Accepted.l1] at H
                  by_cases c17 : x11_3 < a1
                  · rw [if_pos c17] at H
                    have c17b0 : decide (x11_3 < a1) = true := decide_eq_true c17
                    clear c17
                    obtain ⟨ji18, hji18⟩ : ∃ j_ : Int, (wrap64 (x9_1 + 1)) = j_ := ⟨_, rfl⟩
                    replace H : (if 0 ≤ (ji18) then (if (ji18) ≤ (l0.length : Int) then ((changeforgeref6_Reported.f k3 (l0.take ((ji18) : Int).toNat) x11_3 a3).bind fun t280 => (if 0 ≤ x9_1 then (if x9_1 < (l0.length : Int) then (if t280 = ((rd_T44 l0 x9_1).f3) then (changeforgeref6_Accepted.l1 k3 l0 a1 a2 a3 x9_1 (wrap64 (x10_3 + 1)) (wrap64 (x11_3 + 1))) else (changeforgeref6_Accepted.l1 k3 l0 a1 a2 a3 x9_1 x10_3 (wrap64 (x11_3 + 1)))) else (none)) else (none))) else (none)) else (none)) = some r := by first | (rw [hji18] at H; exact H) | (simp only [hji18] at H ⊢; exact H)
                    have hji18w : (IntKind.i64.wrap (x9_1 + 1)) = ji18 := (i64_w _).trans hji18
                    by_cases c19 : 0 ≤ (ji18)
                    · rw [if_pos c19] at H
                      have c19b0 := eq_true c19
                      have c19b1 : decide (0 ≤ (ji18)) = true := decide_eq_true c19
                      clear c19
                      by_cases c20 : (ji18) ≤ (l0.length : Int)
                      · rw [if_pos c20] at H
                        have c20b0 := eq_true c20
                        have c20b1 : decide ((ji18) ≤ (l0.length : Int)) = true := decide_eq_true c20
                        clear c20
                        obtain ⟨y276, hy276⟩ : ∃ y_ : List (S44), y_ = (l0.take ((ji18) : Int).toNat) := ⟨_, rfl⟩
                        replace H : ((changeforgeref6_Reported.f k3 y276 x11_3 a3).bind fun t280 => (if 0 ≤ x9_1 then (if x9_1 < (l0.length : Int) then (if t280 = ((rd_T44 l0 x9_1).f3) then (changeforgeref6_Accepted.l1 k3 l0 a1 a2 a3 x9_1 (wrap64 (x10_3 + 1)) (wrap64 (x11_3 + 1))) else (changeforgeref6_Accepted.l1 k3 l0 a1 a2 a3 x9_1 x10_3 (wrap64 (x11_3 + 1)))) else (none)) else (none))) = some r := by first | (rw [hy276]; with_reducible exact H) | (have H2_ := (Option.bind_some _ _).symm.trans H; rw [hy276]; with_reducible exact H2_) | (have H2_ := (Option.bind_some _ _).symm.trans H; with_reducible exact H2_) | with_reducible exact H | (rw [hy276]; exact H) | exact H
                        have Ny276 := Aside0.mk hy276
                        clear hy276
                        replace H := Option.bind_eq_some_iff.mp H
                        obtain ⟨t280, A210, H⟩ := H
                        replace H : (if 0 ≤ x9_1 then (if x9_1 < (l0.length : Int) then (if t280 = ((rd_T44 l0 x9_1).f3) then (changeforgeref6_Accepted.l1 k3 l0 a1 a2 a3 x9_1 (wrap64 (x10_3 + 1)) (wrap64 (x11_3 + 1))) else (changeforgeref6_Accepted.l1 k3 l0 a1 a2 a3 x9_1 x10_3 (wrap64 (x11_3 + 1)))) else (none)) else (none)) = some r := H
                        have A21 := Aside0.mk A210
                        clear A210
                        by_cases c22 : 0 ≤ x9_1
                        · rw [if_pos c22] at H
                          have c22b0 : decide (0 ≤ x9_1) = true := decide_eq_true c22
                          clear c22
                          by_cases c23 : x9_1 < (l0.length : Int)
                          · rw [if_pos c23] at H
                            have c23b0 : decide (x9_1 < (l0.length : Int)) = true := decide_eq_true c23
                            clear c23
                            by_cases c24 : t280 = ((rd_T44 l0 x9_1).f3)
                            · rw [if_pos c24] at H
                              have c24b0 : (t280 == ((rd_T44 l0 x9_1).f3)) = true := beq_iff_eq.mpr c24
                              have c24b1 : (t280 != ((rd_T44 l0 x9_1).f3)) = false := bne_eq_false_iff_eq.mpr c24
                              clear c24
                              have H' := Aside0.mk H
                              clear H
                              try go_wp2
                              have n0_ := Aside0.mk (below_drew1 HB.out)
                              clear HB
                              have HB := n0_
                              clear n0_
                              have q26 : ((ji18) : Int) ≤ ((l0.length : Int) : Int) := of_decide_eq_true (by first | (with_reducible assumption) | assumption)
                              obtain ⟨i026, hi026, _, hsz26, _⟩ := info_parts info44
                              have hroom26 : l0.length ≤ c0 := HC0.out
                              have hC26 : Kd.C k44 _ A0 l0.length l0 := HR0.out
                              have hcut26 := cut_to (P := Try.prog) 22 44 .i64 Try.underlying22 hi026 A0 l0.length c0 (ji18) (of_decide_eq_true (by first | (with_reducible assumption) | assumption)) q26 hroom26
                              have hr26 := Kd.C_take (m := ((ji18) : Int).toNat) hC26 (by omega)
                              have hy26 : y276.length = ((ji18) : Int).toNat := (by rw [Ny276.out, List.length_take]; omega)
                              rw [← Ny276.out] at hr26
                              rw [← hy26] at hcut26
                              have HR279 := Aside0.mk hr26
                              have HC279 := Aside0.mk (show y276.length ≤ c0 from by omega)
                              clear hr26 hC26 hroom26 hi026 hsz26
                              have KY26 := Aside0.mk hy26
                              clear hy26
                              replace q26 := eq_true q26
                              have p281 : 0 ≤ (x9_1 : Int) := of_decide_eq_true (by first | (with_reducible assumption) | assumption)
                              have q281 : x9_1 < (l0.length : Int) := of_decide_eq_true (by first | (with_reducible assumption) | assumption)
                              obtain ⟨ad281, e281, hx281_0, hx281_1, hx281_2, hx281_3⟩ := at_T44 HR0.out x9_1 p281 q281
                              have hw281_3 := hx281_3
                              have hw281_2 := hx281_2
                              have hw281_1 := hx281_1
                              have hw281_0 := hx281_0
                              cases e281
                              replace hx281_0 := (HB.out.cell (World.block_lt_of_cell? w _ hx281_0)).trans hx281_0
                              replace hx281_1 := (HB.out.cell (World.block_lt_of_cell? w _ hx281_1)).trans hx281_1
                              replace hx281_2 := (HB.out.cell (World.block_lt_of_cell? w _ hx281_2)).trans hx281_2
                              replace hx281_3 := (HB.out.cell (World.block_lt_of_cell? w _ hx281_3)).trans hx281_3
                              replace p281 := eq_true p281
                              replace q281 := eq_true q281
                              refine start_ (n := 13) (S := fun w' => w'.cell? (ad281.add ((x9_1).toNat * 4)) = some (.int .i64 ((rd_T44 l0 x9_1).f0)) ∧ w'.cell? ⟨(ad281.add ((x9_1).toNat * 4)).block, (ad281.add ((x9_1).toNat * 4)).off + 1, none⟩ = some (.int .i64 ((rd_T44 l0 x9_1).f1)) ∧ w'.cell? ⟨(ad281.add ((x9_1).toNat * 4)).block, (ad281.add ((x9_1).toNat * 4)).off + 2, none⟩ = some (.int .i64 ((rd_T44 l0 x9_1).f2)) ∧ w'.cell? ⟨(ad281.add ((x9_1).toNat * 4)).block, (ad281.add ((x9_1).toNat * 4)).off + 3, none⟩ = some (.int .i64 ((rd_T44 l0 x9_1).f3))) (ds := []) #[false, false, false, false, false, false, false, false, false, false, false, false, false] (by kernel_rfl) rfl rfl ⟨((HB.out.cell (World.block_lt_of_cell? w _ hw281_0)).trans hw281_0), ((HB.out.cell (World.block_lt_of_cell? w _ hw281_1)).trans hw281_1), ((HB.out.cell (World.block_lt_of_cell? w _ hw281_2)).trans hw281_2), ((HB.out.cell (World.block_lt_of_cell? w _ hw281_3)).trans hw281_3)⟩ (fun hHeld => ?_); refine with_tabW changeforgeref6_Accepted.tab9 changeforgeref6_Accepted.bits9 (fun HT_ HW_ => ?_)
                              generalize wr.drew = w25 at HB HR279 hx281_0 hx281_1 hx281_2 hx281_3 hHeld ⊢
                              refine pure_ (i := 0) (N := some 42) (v := ?_) (a' := ?_) #[true, false, false, false, false, false, false, false, false, false, false, false, false] rfl rfl (any_of HT_.out (by kernel_rfl)) (fun _ _ _ h => h) (Or.inl ⟨by rfl, ?_⟩) ?_ ?_
                              rotate_left
                              · intro w'
                                go_simp
                                with_reducible rfl
                              rotate_left
                              · simp only [Act.put, List.setIfInBounds_toArray, List.set_cons_zero, List.set_cons_succ, i64_w, i32_w]
                                rfl
                              refine pure_ (i := 1) (N := some 43) (v := ?_) (a' := ?_) #[true, true, false, false, false, false, false, false, false, false, false, false, false] rfl rfl (any_of HT_.out (by kernel_rfl)) (fun _ _ _ h => h) (Or.inl ⟨by rfl, ?_⟩) ?_ ?_
                              rotate_left
                              · intro w'
                                go_simp
                                with_reducible rfl
                              rotate_left
                              · simp only [Act.put, List.setIfInBounds_toArray, List.set_cons_zero, List.set_cons_succ, i64_w, i32_w]
                                rfl
                              refine pure_ (i := 2) (N := some 44) (v := ?_) (a' := ?_) #[true, true, true, false, false, false, false, false, false, false, false, false, false] rfl rfl (any_of HT_.out (by kernel_rfl)) (fun _ _ _ h => h) (Or.inl ⟨by rfl, ?_⟩) ?_ ?_
                              rotate_left
                              · intro w'
                                go_simp
                                with_reducible rfl
                              rotate_left
                              · simp only [Act.put, List.setIfInBounds_toArray, List.set_cons_zero, List.set_cons_succ, i64_w, i32_w]
                                rfl
                              refine pure_ (i := 3) (N := some 45) (v := ?_) (a' := ?_) #[true, true, true, true, false, false, false, false, false, false, false, false, false] rfl rfl (any_of HT_.out (by kernel_rfl)) (fun _ _ _ h => h) (Or.inl ⟨by rfl, ?_⟩) ?_ ?_
                              rotate_left
                              · intro w'
                                go_simp
                                with_reducible rfl
                              rotate_left
                              · simp only [Act.put, List.setIfInBounds_toArray, List.set_cons_zero, List.set_cons_succ, i64_w, i32_w]
                                rfl
                              refine pure_ (i := 4) (N := some 46) (v := ?_) (a' := ?_) #[true, true, true, true, true, false, false, false, false, false, false, false, false] rfl rfl (any_of HT_.out (by kernel_rfl)) (fun _ _ _ h => h) (Or.inl ⟨by rfl, ?_⟩) ?_ ?_
                              rotate_left
                              · intro w'
                                go_simp
                                with_reducible rfl
                              rotate_left
                              · simp only [Act.put, List.setIfInBounds_toArray, List.set_cons_zero, List.set_cons_succ, i64_w, i32_w]
                                rfl
                              refine pure_ (i := 5) (N := some 47) (v := ?_) (a' := ?_) #[true, true, true, true, true, true, false, false, false, false, false, false, false] rfl rfl (any_of HT_.out (by kernel_rfl)) (fun _ _ _ h => h) (Or.inl ⟨by rfl, ?_⟩) ?_ ?_
                              rotate_left
                              · intro w'
                                go_simp
                                with_reducible rfl
                              rotate_left
                              · simp only [Act.put, List.setIfInBounds_toArray, List.set_cons_zero, List.set_cons_succ, i64_w, i32_w]
                                rfl
                              refine pure_ (i := 7) (N := some 49) (v := ?_) (a' := ?_) #[true, true, true, true, true, true, false, true, false, false, false, false, false] rfl rfl (any_of HT_.out (by kernel_rfl)) (fun _ _ _ h => h) (Or.inl ⟨by rfl, ?_⟩) ?_ ?_
                              rotate_left
                              · intro w'
                                go_simp
                                with_reducible rfl
                              rotate_left
                              · simp only [Act.put, List.setIfInBounds_toArray, List.set_cons_zero, List.set_cons_succ, i64_w, i32_w]
                                rfl
                              refine pure_ (i := 8) (N := some 50) (v := ?_) (a' := ?_) #[true, true, true, true, true, true, false, true, true, false, false, false, false] rfl rfl (any_of HT_.out (by kernel_rfl)) (fun _ _ _ h => h) (Or.inl ⟨by rfl, ?_⟩) ?_ ?_
                              rotate_left
                              · intro w'
                                go_simp
                                with_reducible rfl
                              rotate_left
                              · simp only [Act.put, List.setIfInBounds_toArray, List.set_cons_zero, List.set_cons_succ, i64_w, i32_w]
                                rfl
                              refine pure_ (i := 9) (N := some 51) (v := ?_) (a' := ?_) #[true, true, true, true, true, true, false, true, true, true, false, false, false] rfl rfl (any_of HT_.out (by kernel_rfl)) (fun _ _ _ h => h) (Or.inl ⟨by rfl, ?_⟩) ?_ ?_
                              rotate_left
                              · intro w'
                                go_simp
                                with_reducible rfl
                              rotate_left
                              · simp only [Act.put, List.setIfInBounds_toArray, List.set_cons_zero, List.set_cons_succ, i64_w, i32_w]
                                rfl
                              refine pure_ (i := 10) (N := some 52) (v := ?_) (a' := ?_) #[true, true, true, true, true, true, false, true, true, true, true, false, false] rfl rfl (any_of HT_.out (by kernel_rfl)) (fun _ _ _ h => h) (Or.inl ⟨by rfl, ?_⟩) ?_ ?_
                              rotate_left
                              · intro w'
                                go_simp
                                with_reducible rfl
                              rotate_left
                              · simp only [Act.put, List.setIfInBounds_toArray, List.set_cons_zero, List.set_cons_succ, i64_w, i32_w]
                                rfl
                              refine take_ (i := 11) (N := some 53) (v := ?_) (a' := ?_) #[true, true, true, true, true, true, false, true, true, true, true, true, false] rfl rfl (take_ofW HT_.out HW_.out (by kernel_rfl)) (fun _ _ _ h => h) (Or.inl ⟨by rfl, ?_⟩) hHeld ?_ ?_
                              rotate_left
                              · rintro w' ⟨s0, s1, s2, s3⟩
                                go_simp
                                with_reducible rfl
                              rotate_left
                              · simp only [Act.put, List.setIfInBounds_toArray, List.set_cons_zero, List.set_cons_succ, i64_w, i32_w]
                                rfl
                              refine one_ (i := 6) (N := some 48) #[true, true, true, true, true, true, true, true, true, true, true, true, false] rfl rfl (one_of HT_.out (by kernel_rfl)) (by decide) (fun K hK => ?_)
                              refine goes_ Try.func16 (by kernel_rfl) rfl #[.slice (some ad281) y276.length c0, .int .i64 x11_3, .int .i64 a3] (by rfl) rfl rfl (by (try simp only [List.map_toArray, List.map_cons, List.map_nil]); first | done | rfl | (simp only [List.length_drop, List.length_take]; rfl) | (simp only [KY13.out]; rfl) | (simp only [KY26.out]; rfl) | (simp only [KY29.out]; rfl) | (go_simp; rw [KY13.out, KY26.out]) | (go_simp; rw [KY13.out, KY29.out]) | (go_simp; rw [KY26.out, KY13.out]) | (go_simp; rw [KY26.out, KY29.out]) | (go_simp; rw [KY29.out, KY13.out]) | (go_simp; rw [KY29.out, KY26.out])) ?_
                              with_reducible refine (changeforgeref6_Reported.calls k3 _ _ y276 x11_3 a3 t280 _ ?side1 ?side2 A21.out).mono ?_
                              (case side1 => repeat (first | exact (Kd.C_below HR279.out HB.out) | (with_reducible refine Kd.C_alloc ?_ _) | (with_reducible refine Kd.C_drewN ?_ _) | (with_reducible refine Kd.C_drew ?_)))
                              (case side2 => exact HC279.out)
                              rintro e w27 ⟨rfl, hb⟩
                              refine ⟨_, rfl, ?_⟩
                              have n0_ := Aside0.mk (below_step (by repeat (first | (with_reducible first | exact HB.out | apply below_alloc | apply pw_below_drewN | apply below_drew1) | exact HB.out)) hb)
                              clear HB
                              have HB := n0_
                              clear n0_
                              (try clear hb)
                              (try clear hb2)
                              (try clear hk)
                              (try clear hi)
                              refine hK.out _ _ ⟨((HB.out.cell (World.block_lt_of_cell? w _ hw281_0)).trans hw281_0), ((HB.out.cell (World.block_lt_of_cell? w _ hw281_1)).trans hw281_1), ((HB.out.cell (World.block_lt_of_cell? w _ hw281_2)).trans hw281_2), ((HB.out.cell (World.block_lt_of_cell? w _ hw281_3)).trans hw281_3)⟩ (fun hHeld => ?_)
                              clear hK K
                              refine norm_ (a' := ?_) ?_ ?_
                              rotate_left
                              · show Act.put _ (some 48) _ = _
                                simp only [Act.put, List.setIfInBounds_toArray, List.set_cons_zero, List.set_cons_succ, i64_w, i32_w]
                                rfl
                              refine pure_ (i := 12) (N := some 54) (v := ?_) (a' := ?_) #[true, true, true, true, true, true, true, true, true, true, true, true, true] rfl rfl (any_of HT_.out (by kernel_rfl)) (fun _ _ _ h => h) (Or.inl ⟨by rfl, ?_⟩) ?_ ?_
                              rotate_left
                              · intro w'
                                go_simp
                                with_reducible rfl
                              rotate_left
                              · simp only [Act.put, List.setIfInBounds_toArray, List.set_cons_zero, List.set_cons_succ, i64_w, i32_w]
                                rfl
                              refine done_ (done_of HT_.out (by kernel_rfl)) ?_
                              try go_wp2
                              go_roundg k3
                              case measure => have := HK1.out; have := HJ5.out; have := HK3.out; omega
                              case rel => exact ⟨(wrap64 (x10_3 + 1)), (wrap64 (x11_3 + 1)), (by first | rfl | (simp; done) | (simp [*]; done)), (by first | rfl | (simp; done) | (simp [*]; done)), H', ⟨by have := HK1.out; have := HJ5.out; have := HK3.out; omega⟩, ⟨by repeat (first | (with_reducible first | exact HB.out | apply below_alloc | apply pw_below_drewN | apply below_drew1) | exact HB.out)⟩⟩
                            · rw [if_neg c24] at H
                              have c24b0 : (t280 == ((rd_T44 l0 x9_1).f3)) = false := beq_eq_false_iff_ne.mpr c24
                              have c24b1 : (t280 != ((rd_T44 l0 x9_1).f3)) = true := bne_iff_ne.mpr c24
                              have H' := Aside0.mk H
                              clear H
                              try go_wp2
                              have n0_ := Aside0.mk (below_drew1 HB.out)
                              clear HB
                              have HB := n0_
                              clear n0_
                              have q29 : ((ji18) : Int) ≤ ((l0.length : Int) : Int) := of_decide_eq_true (by first | (with_reducible assumption) | assumption)
                              obtain ⟨i029, hi029, _, hsz29, _⟩ := info_parts info44
                              have hroom29 : l0.length ≤ c0 := HC0.out
                              have hC29 : Kd.C k44 _ A0 l0.length l0 := HR0.out
                              have hcut29 := cut_to (P := Try.prog) 22 44 .i64 Try.underlying22 hi029 A0 l0.length c0 (ji18) (of_decide_eq_true (by first | (with_reducible assumption) | assumption)) q29 hroom29
                              have hr29 := Kd.C_take (m := ((ji18) : Int).toNat) hC29 (by omega)
                              have hy29 : y276.length = ((ji18) : Int).toNat := (by rw [Ny276.out, List.length_take]; omega)
                              rw [← Ny276.out] at hr29
                              rw [← hy29] at hcut29
                              have HR279 := Aside0.mk hr29
                              have HC279 := Aside0.mk (show y276.length ≤ c0 from by omega)
                              clear hr29 hC29 hroom29 hi029 hsz29
                              have KY29 := Aside0.mk hy29
                              clear hy29
                              replace q29 := eq_true q29
                              have p281 : 0 ≤ (x9_1 : Int) := of_decide_eq_true (by first | (with_reducible assumption) | assumption)
                              have q281 : x9_1 < (l0.length : Int) := of_decide_eq_true (by first | (with_reducible assumption) | assumption)
                              obtain ⟨ad281, e281, hx281_0, hx281_1, hx281_2, hx281_3⟩ := at_T44 HR0.out x9_1 p281 q281
                              have hw281_3 := hx281_3
                              have hw281_2 := hx281_2
                              have hw281_1 := hx281_1
                              have hw281_0 := hx281_0
                              cases e281
                              replace hx281_0 := (HB.out.cell (World.block_lt_of_cell? w _ hx281_0)).trans hx281_0
                              replace hx281_1 := (HB.out.cell (World.block_lt_of_cell? w _ hx281_1)).trans hx281_1
                              replace hx281_2 := (HB.out.cell (World.block_lt_of_cell? w _ hx281_2)).trans hx281_2
                              replace hx281_3 := (HB.out.cell (World.block_lt_of_cell? w _ hx281_3)).trans hx281_3
                              replace p281 := eq_true p281
                              replace q281 := eq_true q281
                              refine start_ (n := 13) (S := fun w' => w'.cell? (ad281.add ((x9_1).toNat * 4)) = some (.int .i64 ((rd_T44 l0 x9_1).f0)) ∧ w'.cell? ⟨(ad281.add ((x9_1).toNat * 4)).block, (ad281.add ((x9_1).toNat * 4)).off + 1, none⟩ = some (.int .i64 ((rd_T44 l0 x9_1).f1)) ∧ w'.cell? ⟨(ad281.add ((x9_1).toNat * 4)).block, (ad281.add ((x9_1).toNat * 4)).off + 2, none⟩ = some (.int .i64 ((rd_T44 l0 x9_1).f2)) ∧ w'.cell? ⟨(ad281.add ((x9_1).toNat * 4)).block, (ad281.add ((x9_1).toNat * 4)).off + 3, none⟩ = some (.int .i64 ((rd_T44 l0 x9_1).f3))) (ds := []) #[false, false, false, false, false, false, false, false, false, false, false, false, false] (by kernel_rfl) rfl rfl ⟨((HB.out.cell (World.block_lt_of_cell? w _ hw281_0)).trans hw281_0), ((HB.out.cell (World.block_lt_of_cell? w _ hw281_1)).trans hw281_1), ((HB.out.cell (World.block_lt_of_cell? w _ hw281_2)).trans hw281_2), ((HB.out.cell (World.block_lt_of_cell? w _ hw281_3)).trans hw281_3)⟩ (fun hHeld => ?_); refine with_tabW changeforgeref6_Accepted.tab9 changeforgeref6_Accepted.bits9 (fun HT_ HW_ => ?_)
                              generalize wr.drew = w28 at HB HR279 hx281_0 hx281_1 hx281_2 hx281_3 hHeld ⊢
                              refine pure_ (i := 0) (N := some 42) (v := ?_) (a' := ?_) #[true, false, false, false, false, false, false, false, false, false, false, false, false] rfl rfl (any_of HT_.out (by kernel_rfl)) (fun _ _ _ h => h) (Or.inl ⟨by rfl, ?_⟩) ?_ ?_
                              rotate_left
                              · intro w'
                                go_simp
                                with_reducible rfl
                              rotate_left
                              · simp only [Act.put, List.setIfInBounds_toArray, List.set_cons_zero, List.set_cons_succ, i64_w, i32_w]
                                rfl
                              refine pure_ (i := 1) (N := some 43) (v := ?_) (a' := ?_) #[true, true, false, false, false, false, false, false, false, false, false, false, false] rfl rfl (any_of HT_.out (by kernel_rfl)) (fun _ _ _ h => h) (Or.inl ⟨by rfl, ?_⟩) ?_ ?_
                              rotate_left
                              · intro w'
                                go_simp
                                with_reducible rfl
                              rotate_left
                              · simp only [Act.put, List.setIfInBounds_toArray, List.set_cons_zero, List.set_cons_succ, i64_w, i32_w]
                                rfl
                              refine pure_ (i := 2) (N := some 44) (v := ?_) (a' := ?_) #[true, true, true, false, false, false, false, false, false, false, false, false, false] rfl rfl (any_of HT_.out (by kernel_rfl)) (fun _ _ _ h => h) (Or.inl ⟨by rfl, ?_⟩) ?_ ?_
                              rotate_left
                              · intro w'
                                go_simp
                                with_reducible rfl
                              rotate_left
                              · simp only [Act.put, List.setIfInBounds_toArray, List.set_cons_zero, List.set_cons_succ, i64_w, i32_w]
                                rfl
                              refine pure_ (i := 3) (N := some 45) (v := ?_) (a' := ?_) #[true, true, true, true, false, false, false, false, false, false, false, false, false] rfl rfl (any_of HT_.out (by kernel_rfl)) (fun _ _ _ h => h) (Or.inl ⟨by rfl, ?_⟩) ?_ ?_
                              rotate_left
                              · intro w'
                                go_simp
                                with_reducible rfl
                              rotate_left
                              · simp only [Act.put, List.setIfInBounds_toArray, List.set_cons_zero, List.set_cons_succ, i64_w, i32_w]
                                rfl
                              refine pure_ (i := 4) (N := some 46) (v := ?_) (a' := ?_) #[true, true, true, true, true, false, false, false, false, false, false, false, false] rfl rfl (any_of HT_.out (by kernel_rfl)) (fun _ _ _ h => h) (Or.inl ⟨by rfl, ?_⟩) ?_ ?_
                              rotate_left
                              · intro w'
                                go_simp
                                with_reducible rfl
                              rotate_left
                              · simp only [Act.put, List.setIfInBounds_toArray, List.set_cons_zero, List.set_cons_succ, i64_w, i32_w]
                                rfl
                              refine pure_ (i := 5) (N := some 47) (v := ?_) (a' := ?_) #[true, true, true, true, true, true, false, false, false, false, false, false, false] rfl rfl (any_of HT_.out (by kernel_rfl)) (fun _ _ _ h => h) (Or.inl ⟨by rfl, ?_⟩) ?_ ?_
                              rotate_left
                              · intro w'
                                go_simp
                                with_reducible rfl
                              rotate_left
                              · simp only [Act.put, List.setIfInBounds_toArray, List.set_cons_zero, List.set_cons_succ, i64_w, i32_w]
                                rfl
                              refine pure_ (i := 7) (N := some 49) (v := ?_) (a' := ?_) #[true, true, true, true, true, true, false, true, false, false, false, false, false] rfl rfl (any_of HT_.out (by kernel_rfl)) (fun _ _ _ h => h) (Or.inl ⟨by rfl, ?_⟩) ?_ ?_
                              rotate_left
                              · intro w'
                                go_simp
                                with_reducible rfl
                              rotate_left
                              · simp only [Act.put, List.setIfInBounds_toArray, List.set_cons_zero, List.set_cons_succ, i64_w, i32_w]
                                rfl
                              refine pure_ (i := 8) (N := some 50) (v := ?_) (a' := ?_) #[true, true, true, true, true, true, false, true, true, false, false, false, false] rfl rfl (any_of HT_.out (by kernel_rfl)) (fun _ _ _ h => h) (Or.inl ⟨by rfl, ?_⟩) ?_ ?_
                              rotate_left
                              · intro w'
                                go_simp
                                with_reducible rfl
                              rotate_left
                              · simp only [Act.put, List.setIfInBounds_toArray, List.set_cons_zero, List.set_cons_succ, i64_w, i32_w]
                                rfl
                              refine pure_ (i := 9) (N := some 51) (v := ?_) (a' := ?_) #[true, true, true, true, true, true, false, true, true, true, false, false, false] rfl rfl (any_of HT_.out (by kernel_rfl)) (fun _ _ _ h => h) (Or.inl ⟨by rfl, ?_⟩) ?_ ?_
                              rotate_left
                              · intro w'
                                go_simp
                                with_reducible rfl
                              rotate_left
                              · simp only [Act.put, List.setIfInBounds_toArray, List.set_cons_zero, List.set_cons_succ, i64_w, i32_w]
                                rfl
                              refine pure_ (i := 10) (N := some 52) (v := ?_) (a' := ?_) #[true, true, true, true, true, true, false, true, true, true, true, false, false] rfl rfl (any_of HT_.out (by kernel_rfl)) (fun _ _ _ h => h) (Or.inl ⟨by rfl, ?_⟩) ?_ ?_
                              rotate_left
                              · intro w'
                                go_simp
                                with_reducible rfl
                              rotate_left
                              · simp only [Act.put, List.setIfInBounds_toArray, List.set_cons_zero, List.set_cons_succ, i64_w, i32_w]
                                rfl
                              refine take_ (i := 11) (N := some 53) (v := ?_) (a' := ?_) #[true, true, true, true, true, true, false, true, true, true, true, true, false] rfl rfl (take_ofW HT_.out HW_.out (by kernel_rfl)) (fun _ _ _ h => h) (Or.inl ⟨by rfl, ?_⟩) hHeld ?_ ?_
                              rotate_left
                              · rintro w' ⟨s0, s1, s2, s3⟩
                                go_simp
                                with_reducible rfl
                              rotate_left
                              · simp only [Act.put, List.setIfInBounds_toArray, List.set_cons_zero, List.set_cons_succ, i64_w, i32_w]
                                rfl
                              refine one_ (i := 6) (N := some 48) #[true, true, true, true, true, true, true, true, true, true, true, true, false] rfl rfl (one_of HT_.out (by kernel_rfl)) (by decide) (fun K hK => ?_)
                              refine goes_ Try.func16 (by kernel_rfl) rfl #[.slice (some ad281) y276.length c0, .int .i64 x11_3, .int .i64 a3] (by rfl) rfl rfl (by (try simp only [List.map_toArray, List.map_cons, List.map_nil]); first | done | rfl | (simp only [List.length_drop, List.length_take]; rfl) | (simp only [KY13.out]; rfl) | (simp only [KY26.out]; rfl) | (simp only [KY29.out]; rfl) | (go_simp; rw [KY13.out, KY26.out]) | (go_simp; rw [KY13.out, KY29.out]) | (go_simp; rw [KY26.out, KY13.out]) | (go_simp; rw [KY26.out, KY29.out]) | (go_simp; rw [KY29.out, KY13.out]) | (go_simp; rw [KY29.out, KY26.out])) ?_
                              with_reducible refine (changeforgeref6_Reported.calls k3 _ _ y276 x11_3 a3 t280 _ ?side1 ?side2 A21.out).mono ?_
                              (case side1 => repeat (first | exact (Kd.C_below HR279.out HB.out) | (with_reducible refine Kd.C_alloc ?_ _) | (with_reducible refine Kd.C_drewN ?_ _) | (with_reducible refine Kd.C_drew ?_)))
                              (case side2 => exact HC279.out)
                              rintro e w30 ⟨rfl, hb⟩
                              refine ⟨_, rfl, ?_⟩
                              have n0_ := Aside0.mk (below_step (by repeat (first | (with_reducible first | exact HB.out | apply below_alloc | apply pw_below_drewN | apply below_drew1) | exact HB.out)) hb)
                              clear HB
                              have HB := n0_
                              clear n0_
                              (try clear hb)
                              (try clear hb2)
                              (try clear hk)
                              (try clear hi)
                              refine hK.out _ _ ⟨((HB.out.cell (World.block_lt_of_cell? w _ hw281_0)).trans hw281_0), ((HB.out.cell (World.block_lt_of_cell? w _ hw281_1)).trans hw281_1), ((HB.out.cell (World.block_lt_of_cell? w _ hw281_2)).trans hw281_2), ((HB.out.cell (World.block_lt_of_cell? w _ hw281_3)).trans hw281_3)⟩ (fun hHeld => ?_)
                              clear hK K
                              refine norm_ (a' := ?_) ?_ ?_
                              rotate_left
                              · show Act.put _ (some 48) _ = _
                                simp only [Act.put, List.setIfInBounds_toArray, List.set_cons_zero, List.set_cons_succ, i64_w, i32_w]
                                rfl
                              refine pure_ (i := 12) (N := some 54) (v := ?_) (a' := ?_) #[true, true, true, true, true, true, true, true, true, true, true, true, true] rfl rfl (any_of HT_.out (by kernel_rfl)) (fun _ _ _ h => h) (Or.inl ⟨by rfl, ?_⟩) ?_ ?_
                              rotate_left
                              · intro w'
                                go_simp
                                with_reducible rfl
                              rotate_left
                              · simp only [Act.put, List.setIfInBounds_toArray, List.set_cons_zero, List.set_cons_succ, i64_w, i32_w]
                                rfl
                              refine done_ (done_of HT_.out (by kernel_rfl)) ?_
                              try go_wp2
                              go_roundg k3
                              case measure => have := HK1.out; have := HJ5.out; have := HK3.out; omega
                              case rel => exact ⟨(x10_3), (wrap64 (x11_3 + 1)), (by first | rfl | (simp; done) | (simp [*]; done)), (by first | rfl | (simp; done) | (simp [*]; done)), H', ⟨by have := HK1.out; have := HJ5.out; have := HK3.out; omega⟩, ⟨by repeat (first | (with_reducible first | exact HB.out | apply below_alloc | apply pw_below_drewN | apply below_drew1) | exact HB.out)⟩⟩
                          · rw [if_neg c23] at H
                            exact absurd H (by simp)
                        · rw [if_neg c22] at H
                          exact absurd H (by simp)
                      · rw [if_neg c20] at H
                        exact absurd H (by simp)
                    · rw [if_neg c19] at H
                      exact absurd H (by simp)
                  · rw [if_neg c17] at H
                    have c17b0 : decide (x11_3 < a1) = false := decide_eq_false c17
                    clear c17
                    by_cases c31 : x10_3 ≥ a2
                    · rw [if_pos c31] at H
                      have c31b0 : decide (a2 ≤ x10_3) = true := decide_eq_true c31
                      clear c31
                      by_cases c32 : 0 ≤ x9_1
                      · rw [if_pos c32] at H
                        have c32b0 : decide (0 ≤ x9_1) = true := decide_eq_true c32
                        clear c32
                        by_cases c33 : x9_1 < (l0.length : Int)
                        · rw [if_pos c33] at H
                          have c33b0 : decide (x9_1 < (l0.length : Int)) = true := decide_eq_true c33
                          clear c33
                          obtain rfl := Option.some.inj H
                          have p282 : 0 ≤ (x9_1 : Int) := of_decide_eq_true (by first | (with_reducible assumption) | assumption)
                          have q282 : x9_1 < (l0.length : Int) := of_decide_eq_true (by first | (with_reducible assumption) | assumption)
                          obtain ⟨ad282, e282, hx282_0, hx282_1, hx282_2, hx282_3⟩ := at_T44 HR0.out x9_1 p282 q282
                          cases e282
                          replace hx282_0 := (HB.out.cell (World.block_lt_of_cell? w _ hx282_0)).trans hx282_0
                          replace hx282_1 := (HB.out.cell (World.block_lt_of_cell? w _ hx282_1)).trans hx282_1
                          replace hx282_2 := (HB.out.cell (World.block_lt_of_cell? w _ hx282_2)).trans hx282_2
                          replace hx282_3 := (HB.out.cell (World.block_lt_of_cell? w _ hx282_3)).trans hx282_3
                          replace p282 := eq_true p282
                          replace q282 := eq_true q282
                          go_wp2
                          go_ret
                          exact ⟨by first | rfl | (simp [errW_none, errW_some] <;> rfl) | (simp [*, errW_none, errW_some] <;> rfl), by repeat (first | (with_reducible first | exact HB.out | apply below_alloc | apply pw_below_drewN | apply below_drew1) | exact HB.out)⟩
                        · rw [if_neg c33] at H
                          exact absurd H (by simp)
                      · rw [if_neg c32] at H
                        exact absurd H (by simp)
                    · rw [if_neg c31] at H
                      have c31b0 : decide (a2 ≤ x10_3) = false := decide_eq_false c31
                      clear c31
                      have H' := Aside0.mk H
                      clear H
                      go_wp2
                      go_roundg k3
                      case measure => have := HK1.out; have := HJ5.out; have := HK3.out; omega
                      case rel => exact ⟨(wrap64 (x9_1 + 1)), (by first | rfl | (simp; done) | (simp [*]; done)), H', ⟨by have := HK1.out; have := HJ5.out; have := HK3.out; omega⟩, ⟨by repeat (first | (with_reducible first | exact HB.out | apply below_alloc | apply pw_below_drewN | apply below_drew1) | exact HB.out)⟩⟩
      · rw [if_neg c5] at H
        have c5b0 : decide (x9_1 < (l0.length : Int)) = false := decide_eq_false c5
        clear c5
        obtain rfl := Option.some.inj H
        go_wp2
        go_ret
        exact ⟨by first | rfl | (simp [errW_none, errW_some] <;> rfl) | (simp [*, errW_none, errW_some] <;> rfl), by repeat (first | (with_reducible first | exact HB.out | apply below_alloc | apply pw_below_drewN | apply below_drew1) | exact HB.out)⟩

end Go.Proofs.Ytepflpmngegdiaa.H
end
section
namespace Go.Proofs.Ytepflpmngegdiaa.H
open Go.RowKit Go.Proofs.YtepflpmngegdiaaW.PrintWords Go.Proofs.YtepflpmngegdiaaW.PrintLast Go.Proofs.YtepflpmngegdiaaW.PrintMore
set_option linter.unusedVariables false
set_option linter.unusedSimpArgs false

attribute [local go_sem high] eqA25
mutual
def changeforgelaw6_WorkersMatchSpec.j0 : Nat → Int → Int → Int → List (S44) → Int → List Int → Bool → Int → Int → Option (Bool)
  | 0, _, _, _, _, _, _, _, _, _ => none
  | k + 1, x0, x1, x2, x3, x4, x12, x55, x287000, x287001 => if x55 = true then (some false) else (changeforgelaw6_WorkersMatchSpec.l0 k x0 x1 x2 x3 x4 x12 0 x287000 x287001)
def changeforgelaw6_WorkersMatchSpec.l0 : Nat → Int → Int → Int → List (S44) → Int → List Int → Int → Int → Int → Option (Bool)
  | 0, _, _, _, _, _, _, _, _, _ => none
  | k + 1, x0, x1, x2, x3, x4, x12, x14, x287000, x287001 => if x14 < (x12.length : Int) then (if 0 ≤ x14 then ((changeforgeref6_Accepted.f k x3 x1 x2 x14).bind fun t294 => (if (rd x12 x14) = t294 then (changeforgelaw6_WorkersMatchSpec.l0 k x0 x1 x2 x3 x4 x12 (wrap64 (x14 + 1)) x287000 x287001) else (some false))) else (none)) else (if x287000 = 0 then ((changeforgelaw6_in.f x4 0 (wrap64 (x0 - 1))).bind fun t295 => (changeforgelaw6_WorkersMatchSpec.j2 k x0 x1 x2 x3 x4 (!t295) x287000 x287001)) else (changeforgelaw6_WorkersMatchSpec.j2 k x0 x1 x2 x3 x4 false x287000 x287001))
def changeforgelaw6_WorkersMatchSpec.j2 : Nat → Int → Int → Int → List (S44) → Int → Bool → Int → Int → Option (Bool)
  | 0, _, _, _, _, _, _, _, _ => none
  | k + 1, x0, x1, x2, x3, x4, x81, x287000, x287001 => if x81 = true then ((changeforgelaw6_fault.f 3 (-2)).bind fun bt296 => (changeforgelaw6_WorkersMatchSpec.j3 k x0 x1 x2 x3 x4 bt296.1 bt296.2)) else (changeforgelaw6_WorkersMatchSpec.j3 k x0 x1 x2 x3 x4 x287000 x287001)
def changeforgelaw6_WorkersMatchSpec.j3 : Nat → Int → Int → Int → List (S44) → Int → Int → Int → Option (Bool)
  | 0, _, _, _, _, _, _, _ => none
  | k + 1, x0, x1, x2, x3, x4, x287000, x287001 => (workers_Reports.f x0 x1 x2 x3 x4).bind fun bt298 => (if (!(bt298.2.1 == x287000) || (!(bt298.2.2 == x287001))) = true then (changeforgelaw6_WorkersMatchSpec.j4 k x1 x3 x4 bt298.1 true x287000 x287001 bt298.2.1 bt298.2.2) else (changeforgelaw6_WorkersMatchSpec.j4 k x1 x3 x4 bt298.1 (x287000 != 0) x287000 x287001 bt298.2.1 bt298.2.2))
def changeforgelaw6_WorkersMatchSpec.j4 : Nat → Int → List (S44) → Int → List Int → Bool → Int → Int → Int → Int → Option (Bool)
  | 0, _, _, _, _, _, _, _, _, _ => none
  | k + 1, x1, x3, x4, x15, x99, x287000, x287001, x293000, x293001 => if x99 = true then (if (x293000 == x287000 && (x293001 == x287001)) = true then (some ((x15.length : Int) == 0)) else (some false)) else (changeforgelaw6_WorkersMatchSpec.l1 k x1 x3 x4 x15 0)
def changeforgelaw6_WorkersMatchSpec.l1 : Nat → Int → List (S44) → Int → List Int → Int → Option (Bool)
  | 0, _, _, _, _, _ => none
  | k + 1, x1, x3, x4, x15, x16 => if x16 < (x15.length : Int) then (if 0 ≤ x16 then ((changeforgeref6_Reported.f k x3 x16 x4).bind fun t304 => (if (rd x15 x16) = t304 then (changeforgelaw6_WorkersMatchSpec.l1 k x1 x3 x4 x15 (wrap64 (x16 + 1))) else (some false))) else (none)) else (some ((x15.length : Int) == x1))
end
def changeforgelaw6_WorkersMatchSpec.f (k : Nat) (a0 : Int) (a1 : Int) (a2 : Int) (l3 : List (S44)) (a4 : Int) : Option (Bool) := (changeforgelaw6_farms.f k).bind fun t283 => (if t283 = true then ((changeforgeref6_EventsFault.f k a0 a1 a2 l3).bind fun bt284 => ((workers_Play.f a0 a1 a2 l3).bind fun bt287 => (if (!(bt287.2.1 == bt284.1) || (!(bt287.2.2 == bt284.2))) = true then (changeforgelaw6_WorkersMatchSpec.j0 k a0 a1 a2 l3 a4 bt287.1 true bt284.1 bt284.2) else (if bt284.1 = 0 then (changeforgelaw6_WorkersMatchSpec.j0 k a0 a1 a2 l3 a4 bt287.1 ((bt287.1.length : Int) != a0) bt284.1 bt284.2) else (if (bt287.1.length : Int) > 0 then (changeforgelaw6_WorkersMatchSpec.j0 k a0 a1 a2 l3 a4 bt287.1 true bt284.1 bt284.2) else (changeforgelaw6_WorkersMatchSpec.j0 k a0 a1 a2 l3 a4 bt287.1 false bt284.1 bt284.2)))))) else (some false))
theorem changeforgelaw6_WorkersMatchSpec.mono_l : ∀ k, (∀ y0 y1 y2 y3 y4 y5 y6 y7 y8, LeO (changeforgelaw6_WorkersMatchSpec.j0 k y0 y1 y2 y3 y4 y5 y6 y7 y8) (changeforgelaw6_WorkersMatchSpec.j0 (k + 1) y0 y1 y2 y3 y4 y5 y6 y7 y8)) ∧ (∀ y0 y1 y2 y3 y4 y5 y6 y7 y8, LeO (changeforgelaw6_WorkersMatchSpec.l0 k y0 y1 y2 y3 y4 y5 y6 y7 y8) (changeforgelaw6_WorkersMatchSpec.l0 (k + 1) y0 y1 y2 y3 y4 y5 y6 y7 y8)) ∧ (∀ y0 y1 y2 y3 y4 y5 y6 y7, LeO (changeforgelaw6_WorkersMatchSpec.j2 k y0 y1 y2 y3 y4 y5 y6 y7) (changeforgelaw6_WorkersMatchSpec.j2 (k + 1) y0 y1 y2 y3 y4 y5 y6 y7)) ∧ (∀ y0 y1 y2 y3 y4 y5 y6, LeO (changeforgelaw6_WorkersMatchSpec.j3 k y0 y1 y2 y3 y4 y5 y6) (changeforgelaw6_WorkersMatchSpec.j3 (k + 1) y0 y1 y2 y3 y4 y5 y6)) ∧ (∀ y0 y1 y2 y3 y4 y5 y6 y7 y8, LeO (changeforgelaw6_WorkersMatchSpec.j4 k y0 y1 y2 y3 y4 y5 y6 y7 y8) (changeforgelaw6_WorkersMatchSpec.j4 (k + 1) y0 y1 y2 y3 y4 y5 y6 y7 y8)) ∧ (∀ y0 y1 y2 y3 y4, LeO (changeforgelaw6_WorkersMatchSpec.l1 k y0 y1 y2 y3 y4) (changeforgelaw6_WorkersMatchSpec.l1 (k + 1) y0 y1 y2 y3 y4))
  | 0 => ⟨fun _ _ _ _ _ _ _ _ _ r h => by simp [changeforgelaw6_WorkersMatchSpec.j0] at h, fun _ _ _ _ _ _ _ _ _ r h => by simp [changeforgelaw6_WorkersMatchSpec.l0] at h, fun _ _ _ _ _ _ _ _ r h => by simp [changeforgelaw6_WorkersMatchSpec.j2] at h, fun _ _ _ _ _ _ _ r h => by simp [changeforgelaw6_WorkersMatchSpec.j3] at h, fun _ _ _ _ _ _ _ _ _ r h => by simp [changeforgelaw6_WorkersMatchSpec.j4] at h, fun _ _ _ _ _ r h => by simp [changeforgelaw6_WorkersMatchSpec.l1] at h⟩
  | k + 1 => by
    obtain ⟨ih0, ih1, ih2, ih3, ih4, ih5⟩ := changeforgelaw6_WorkersMatchSpec.mono_l k
    refine ⟨?_, ?_, ?_, ?_, ?_, ?_⟩
    · intro y0 y1 y2 y3 y4 y5 y6 y7 y8
      unfold changeforgelaw6_WorkersMatchSpec.j0
      repeat' first
      | (with_reducible exact ih0 _ _ _ _ _ _ _ _ _)
      | (with_reducible exact ih1 _ _ _ _ _ _ _ _ _)
      | (with_reducible exact ih2 _ _ _ _ _ _ _ _)
      | (with_reducible exact ih3 _ _ _ _ _ _ _)
      | (with_reducible exact ih4 _ _ _ _ _ _ _ _ _)
      | (with_reducible exact ih5 _ _ _ _ _)
      | (with_reducible exact changeforgelaw6_farms.mono _)
      | (with_reducible exact changeforgeref6_Accepted.mono _ _ _ _ _)
      | (with_reducible exact changeforgeref6_EventsFault.mono _ _ _ _ _)
      | (with_reducible exact changeforgeref6_Reported.mono _ _ _ _)
      | (with_reducible exact LeO.refl _)
      | (with_reducible exact LeO.none _)
      | (with_reducible refine LeO.ite ?_ ?_)
      | (with_reducible refine LeO.bind ?_ (fun _ => ?_))
      | exact ih0 _ _ _ _ _ _ _ _ _
      | exact ih1 _ _ _ _ _ _ _ _ _
      | exact ih2 _ _ _ _ _ _ _ _
      | exact ih3 _ _ _ _ _ _ _
      | exact ih4 _ _ _ _ _ _ _ _ _
      | exact ih5 _ _ _ _ _
      | exact changeforgelaw6_farms.mono _
      | exact changeforgeref6_Accepted.mono _ _ _ _ _
      | exact changeforgeref6_EventsFault.mono _ _ _ _ _
      | exact changeforgeref6_Reported.mono _ _ _ _
      | exact LeO.none _
      | refine LeO.ite ?_ ?_
      | refine LeO.bind ?_ (fun _ => ?_)
    · intro y0 y1 y2 y3 y4 y5 y6 y7 y8
      unfold changeforgelaw6_WorkersMatchSpec.l0
      repeat' first
      | (with_reducible exact ih0 _ _ _ _ _ _ _ _ _)
      | (with_reducible exact ih1 _ _ _ _ _ _ _ _ _)
      | (with_reducible exact ih2 _ _ _ _ _ _ _ _)
      | (with_reducible exact ih3 _ _ _ _ _ _ _)
      | (with_reducible exact ih4 _ _ _ _ _ _ _ _ _)
      | (with_reducible exact ih5 _ _ _ _ _)
      | (with_reducible exact changeforgelaw6_farms.mono _)
      | (with_reducible exact changeforgeref6_Accepted.mono _ _ _ _ _)
      | (with_reducible exact changeforgeref6_EventsFault.mono _ _ _ _ _)
      | (with_reducible exact changeforgeref6_Reported.mono _ _ _ _)
      | (with_reducible exact LeO.refl _)
      | (with_reducible exact LeO.none _)
      | (with_reducible refine LeO.ite ?_ ?_)
      | (with_reducible refine LeO.bind ?_ (fun _ => ?_))
      | exact ih0 _ _ _ _ _ _ _ _ _
      | exact ih1 _ _ _ _ _ _ _ _ _
      | exact ih2 _ _ _ _ _ _ _ _
      | exact ih3 _ _ _ _ _ _ _
      | exact ih4 _ _ _ _ _ _ _ _ _
      | exact ih5 _ _ _ _ _
      | exact changeforgelaw6_farms.mono _
      | exact changeforgeref6_Accepted.mono _ _ _ _ _
      | exact changeforgeref6_EventsFault.mono _ _ _ _ _
      | exact changeforgeref6_Reported.mono _ _ _ _
      | exact LeO.none _
      | refine LeO.ite ?_ ?_
      | refine LeO.bind ?_ (fun _ => ?_)
    · intro y0 y1 y2 y3 y4 y5 y6 y7
      unfold changeforgelaw6_WorkersMatchSpec.j2
      repeat' first
      | (with_reducible exact ih0 _ _ _ _ _ _ _ _ _)
      | (with_reducible exact ih1 _ _ _ _ _ _ _ _ _)
      | (with_reducible exact ih2 _ _ _ _ _ _ _ _)
      | (with_reducible exact ih3 _ _ _ _ _ _ _)
      | (with_reducible exact ih4 _ _ _ _ _ _ _ _ _)
      | (with_reducible exact ih5 _ _ _ _ _)
      | (with_reducible exact changeforgelaw6_farms.mono _)
      | (with_reducible exact changeforgeref6_Accepted.mono _ _ _ _ _)
      | (with_reducible exact changeforgeref6_EventsFault.mono _ _ _ _ _)
      | (with_reducible exact changeforgeref6_Reported.mono _ _ _ _)
      | (with_reducible exact LeO.refl _)
      | (with_reducible exact LeO.none _)
      | (with_reducible refine LeO.ite ?_ ?_)
      | (with_reducible refine LeO.bind ?_ (fun _ => ?_))
      | exact ih0 _ _ _ _ _ _ _ _ _
      | exact ih1 _ _ _ _ _ _ _ _ _
      | exact ih2 _ _ _ _ _ _ _ _
      | exact ih3 _ _ _ _ _ _ _
      | exact ih4 _ _ _ _ _ _ _ _ _
      | exact ih5 _ _ _ _ _
      | exact changeforgelaw6_farms.mono _
      | exact changeforgeref6_Accepted.mono _ _ _ _ _
      | exact changeforgeref6_EventsFault.mono _ _ _ _ _
      | exact changeforgeref6_Reported.mono _ _ _ _
      | exact LeO.none _
      | refine LeO.ite ?_ ?_
      | refine LeO.bind ?_ (fun _ => ?_)
    · intro y0 y1 y2 y3 y4 y5 y6
      unfold changeforgelaw6_WorkersMatchSpec.j3
      repeat' first
      | (with_reducible exact ih0 _ _ _ _ _ _ _ _ _)
      | (with_reducible exact ih1 _ _ _ _ _ _ _ _ _)
      | (with_reducible exact ih2 _ _ _ _ _ _ _ _)
      | (with_reducible exact ih3 _ _ _ _ _ _ _)
      | (with_reducible exact ih4 _ _ _ _ _ _ _ _ _)
      | (with_reducible exact ih5 _ _ _ _ _)
      | (with_reducible exact changeforgelaw6_farms.mono _)
      | (with_reducible exact changeforgeref6_Accepted.mono _ _ _ _ _)
      | (with_reducible exact changeforgeref6_EventsFault.mono _ _ _ _ _)
      | (with_reducible exact changeforgeref6_Reported.mono _ _ _ _)
      | (with_reducible exact LeO.refl _)
      | (with_reducible exact LeO.none _)
      | (with_reducible refine LeO.ite ?_ ?_)
      | (with_reducible refine LeO.bind ?_ (fun _ => ?_))
      | exact ih0 _ _ _ _ _ _ _ _ _
      | exact ih1 _ _ _ _ _ _ _ _ _
      | exact ih2 _ _ _ _ _ _ _ _
      | exact ih3 _ _ _ _ _ _ _
      | exact ih4 _ _ _ _ _ _ _ _ _
      | exact ih5 _ _ _ _ _
      | exact changeforgelaw6_farms.mono _
      | exact changeforgeref6_Accepted.mono _ _ _ _ _
      | exact changeforgeref6_EventsFault.mono _ _ _ _ _
      | exact changeforgeref6_Reported.mono _ _ _ _
      | exact LeO.none _
      | refine LeO.ite ?_ ?_
      | refine LeO.bind ?_ (fun _ => ?_)
    · intro y0 y1 y2 y3 y4 y5 y6 y7 y8
      unfold changeforgelaw6_WorkersMatchSpec.j4
      repeat' first
      | (with_reducible exact ih0 _ _ _ _ _ _ _ _ _)
      | (with_reducible exact ih1 _ _ _ _ _ _ _ _ _)
      | (with_reducible exact ih2 _ _ _ _ _ _ _ _)
      | (with_reducible exact ih3 _ _ _ _ _ _ _)
      | (with_reducible exact ih4 _ _ _ _ _ _ _ _ _)
      | (with_reducible exact ih5 _ _ _ _ _)
      | (with_reducible exact changeforgelaw6_farms.mono _)
      | (with_reducible exact changeforgeref6_Accepted.mono _ _ _ _ _)
      | (with_reducible exact changeforgeref6_EventsFault.mono _ _ _ _ _)
      | (with_reducible exact changeforgeref6_Reported.mono _ _ _ _)
      | (with_reducible exact LeO.refl _)
      | (with_reducible exact LeO.none _)
      | (with_reducible refine LeO.ite ?_ ?_)
      | (with_reducible refine LeO.bind ?_ (fun _ => ?_))
      | exact ih0 _ _ _ _ _ _ _ _ _
      | exact ih1 _ _ _ _ _ _ _ _ _
      | exact ih2 _ _ _ _ _ _ _ _
      | exact ih3 _ _ _ _ _ _ _
      | exact ih4 _ _ _ _ _ _ _ _ _
      | exact ih5 _ _ _ _ _
      | exact changeforgelaw6_farms.mono _
      | exact changeforgeref6_Accepted.mono _ _ _ _ _
      | exact changeforgeref6_EventsFault.mono _ _ _ _ _
      | exact changeforgeref6_Reported.mono _ _ _ _
      | exact LeO.none _
      | refine LeO.ite ?_ ?_
      | refine LeO.bind ?_ (fun _ => ?_)
    · intro y0 y1 y2 y3 y4
      unfold changeforgelaw6_WorkersMatchSpec.l1
      repeat' first
      | (with_reducible exact ih0 _ _ _ _ _ _ _ _ _)
      | (with_reducible exact ih1 _ _ _ _ _ _ _ _ _)
      | (with_reducible exact ih2 _ _ _ _ _ _ _ _)
      | (with_reducible exact ih3 _ _ _ _ _ _ _)
      | (with_reducible exact ih4 _ _ _ _ _ _ _ _ _)
      | (with_reducible exact ih5 _ _ _ _ _)
      | (with_reducible exact changeforgelaw6_farms.mono _)
      | (with_reducible exact changeforgeref6_Accepted.mono _ _ _ _ _)
      | (with_reducible exact changeforgeref6_EventsFault.mono _ _ _ _ _)
      | (with_reducible exact changeforgeref6_Reported.mono _ _ _ _)
      | (with_reducible exact LeO.refl _)
      | (with_reducible exact LeO.none _)
      | (with_reducible refine LeO.ite ?_ ?_)
      | (with_reducible refine LeO.bind ?_ (fun _ => ?_))
      | exact ih0 _ _ _ _ _ _ _ _ _
      | exact ih1 _ _ _ _ _ _ _ _ _
      | exact ih2 _ _ _ _ _ _ _ _
      | exact ih3 _ _ _ _ _ _ _
      | exact ih4 _ _ _ _ _ _ _ _ _
      | exact ih5 _ _ _ _ _
      | exact changeforgelaw6_farms.mono _
      | exact changeforgeref6_Accepted.mono _ _ _ _ _
      | exact changeforgeref6_EventsFault.mono _ _ _ _ _
      | exact changeforgeref6_Reported.mono _ _ _ _
      | exact LeO.none _
      | refine LeO.ite ?_ ?_
      | refine LeO.bind ?_ (fun _ => ?_)
theorem changeforgelaw6_WorkersMatchSpec.mono : ∀ a0 a1 a2 a3 a4 k, LeO (changeforgelaw6_WorkersMatchSpec.f k a0 a1 a2 a3 a4) (changeforgelaw6_WorkersMatchSpec.f (k + 1) a0 a1 a2 a3 a4) := by
  intro a0 a1 a2 a3 a4 k
  obtain ⟨ih0, ih1, ih2, ih3, ih4, ih5⟩ := changeforgelaw6_WorkersMatchSpec.mono_l k
  unfold changeforgelaw6_WorkersMatchSpec.f
  repeat' first
      | (with_reducible exact ih0 _ _ _ _ _ _ _ _ _)
      | (with_reducible exact ih1 _ _ _ _ _ _ _ _ _)
      | (with_reducible exact ih2 _ _ _ _ _ _ _ _)
      | (with_reducible exact ih3 _ _ _ _ _ _ _)
      | (with_reducible exact ih4 _ _ _ _ _ _ _ _ _)
      | (with_reducible exact ih5 _ _ _ _ _)
      | (with_reducible exact changeforgelaw6_farms.mono _)
      | (with_reducible exact changeforgeref6_Accepted.mono _ _ _ _ _)
      | (with_reducible exact changeforgeref6_EventsFault.mono _ _ _ _ _)
      | (with_reducible exact changeforgeref6_Reported.mono _ _ _ _)
      | (with_reducible exact LeO.refl _)
      | (with_reducible exact LeO.none _)
      | (with_reducible refine LeO.ite ?_ ?_)
      | (with_reducible refine LeO.bind ?_ (fun _ => ?_))
      | exact ih0 _ _ _ _ _ _ _ _ _
      | exact ih1 _ _ _ _ _ _ _ _ _
      | exact ih2 _ _ _ _ _ _ _ _
      | exact ih3 _ _ _ _ _ _ _
      | exact ih4 _ _ _ _ _ _ _ _ _
      | exact ih5 _ _ _ _ _
      | exact changeforgelaw6_farms.mono _
      | exact changeforgeref6_Accepted.mono _ _ _ _ _
      | exact changeforgeref6_EventsFault.mono _ _ _ _ _
      | exact changeforgeref6_Reported.mono _ _ _ _
      | exact LeO.none _
      | refine LeO.ite ?_ ?_
      | refine LeO.bind ?_ (fun _ => ?_)
def changeforgelaw6_WorkersMatchSpec.T10 : Bool × List (List Nat × List Nat) := (true, [([], []), ([], []), ([0, 1], [0, 1]), ([2], [2]), ([], []), ([], []), ([], []), ([], []), ([4, 5, 6, 7], [4, 5, 6, 7]), ([3, 8], [3, 8])])
def changeforgelaw6_WorkersMatchSpec.B10 : List Nat := [0, 0, 3, 7, 0, 0, 0, 0, 240, 511]
theorem changeforgelaw6_WorkersMatchSpec.tab10 : rtab .any (opsOf Try.f3 10) = changeforgelaw6_WorkersMatchSpec.T10 := by kernel_rfl
theorem changeforgelaw6_WorkersMatchSpec.bits10 : waitsOk changeforgelaw6_WorkersMatchSpec.T10.2 changeforgelaw6_WorkersMatchSpec.B10 = true := by kernel_rfl
def changeforgelaw6_WorkersMatchSpec.T20 : Bool × List (List Nat × List Nat) := (true, [([], []), ([], []), ([0, 1], [0, 1]), ([2], [2]), ([], []), ([], []), ([], []), ([4, 5, 6], [4, 5, 6]), ([3, 7], [3, 7])])
def changeforgelaw6_WorkersMatchSpec.B20 : List Nat := [0, 0, 3, 7, 0, 0, 0, 112, 255]
theorem changeforgelaw6_WorkersMatchSpec.tab20 : rtab .any (opsOf Try.f3 20) = changeforgelaw6_WorkersMatchSpec.T20 := by kernel_rfl
theorem changeforgelaw6_WorkersMatchSpec.bits20 : waitsOk changeforgelaw6_WorkersMatchSpec.T20.2 changeforgelaw6_WorkersMatchSpec.B20 = true := by kernel_rfl
set_option maxHeartbeats 8000000 in
set_option maxRecDepth 100000 in
theorem changeforgelaw6_WorkersMatchSpec.calls (k : Nat) (a0 : Int) (a1 : Int) (a2 : Int) (A3 : Option Addr) (c3 : Nat) (l3 : List (S44)) (a4 : Int) (r : Bool) (w : World) (hr3 : Kd.C k44 w A3 l3.length l3) (hc3 : l3.length ≤ c3) (h : changeforgelaw6_WorkersMatchSpec.f k a0 a1 a2 l3 a4 = some r) :
    Calls Try.prog 3 #[.int .i64 a0, .int .i64 a1, .int .i64 a2, .slice A3 l3.length c3, .int .i64 a4] w fun e w' => e = .returned (.bool r) ∧ Below w.heap.size w w' := by
  have hu25 := Try.underlying25
  have HR3 := Aside0.mk hr3
  have HC3 := Aside0.mk hc3
  clear hr3 hc3
  have HB := Aside0.mk (Below.refl w.heap.size w)
  have H : ((changeforgelaw6_farms.f k).bind fun t283 => (if t283 = true then ((changeforgeref6_EventsFault.f k a0 a1 a2 l3).bind fun bt284 => ((workers_Play.f a0 a1 a2 l3).bind fun bt287 => (if (!(bt287.2.1 == bt284.1) || (!(bt287.2.2 == bt284.2))) = true then (changeforgelaw6_WorkersMatchSpec.j0 k a0 a1 a2 l3 a4 bt287.1 true bt284.1 bt284.2) else (if bt284.1 = 0 then (changeforgelaw6_WorkersMatchSpec.j0 k a0 a1 a2 l3 a4 bt287.1 ((bt287.1.length : Int) != a0) bt284.1 bt284.2) else (if (bt287.1.length : Int) > 0 then (changeforgelaw6_WorkersMatchSpec.j0 k a0 a1 a2 l3 a4 bt287.1 true bt284.1 bt284.2) else (changeforgelaw6_WorkersMatchSpec.j0 k a0 a1 a2 l3 a4 bt287.1 false bt284.1 bt284.2)))))) else (some false))) = some r := h
  clear h
  replace H := Option.bind_eq_some_iff.mp H
  obtain ⟨t283, A60, H⟩ := H
  replace H : (if t283 = true then ((changeforgeref6_EventsFault.f k a0 a1 a2 l3).bind fun bt284 => ((workers_Play.f a0 a1 a2 l3).bind fun bt287 => (if (!(bt287.2.1 == bt284.1) || (!(bt287.2.2 == bt284.2))) = true then (changeforgelaw6_WorkersMatchSpec.j0 k a0 a1 a2 l3 a4 bt287.1 true bt284.1 bt284.2) else (if bt284.1 = 0 then (changeforgelaw6_WorkersMatchSpec.j0 k a0 a1 a2 l3 a4 bt287.1 ((bt287.1.length : Int) != a0) bt284.1 bt284.2) else (if (bt287.1.length : Int) > 0 then (changeforgelaw6_WorkersMatchSpec.j0 k a0 a1 a2 l3 a4 bt287.1 true bt284.1 bt284.2) else (changeforgelaw6_WorkersMatchSpec.j0 k a0 a1 a2 l3 a4 bt287.1 false bt284.1 bt284.2)))))) else (some false)) = some r := H
  have A6 := Aside0.mk A60
  clear A60
  by_cases c7 : t283 = true
  · subst c7
    have H1 : ((changeforgeref6_EventsFault.f k a0 a1 a2 l3).bind fun bt284 => ((workers_Play.f a0 a1 a2 l3).bind fun bt287 => (if (!(bt287.2.1 == bt284.1) || (!(bt287.2.2 == bt284.2))) = true then (changeforgelaw6_WorkersMatchSpec.j0 k a0 a1 a2 l3 a4 bt287.1 true bt284.1 bt284.2) else (if bt284.1 = 0 then (changeforgelaw6_WorkersMatchSpec.j0 k a0 a1 a2 l3 a4 bt287.1 ((bt287.1.length : Int) != a0) bt284.1 bt284.2) else (if (bt287.1.length : Int) > 0 then (changeforgelaw6_WorkersMatchSpec.j0 k a0 a1 a2 l3 a4 bt287.1 true bt284.1 bt284.2) else (changeforgelaw6_WorkersMatchSpec.j0 k a0 a1 a2 l3 a4 bt287.1 false bt284.1 bt284.2)))))) = some r := by rw [if_pos rfl] at H; exact H
    clear H
    have H := H1
    clear H1
    replace H := Option.bind_eq_some_iff.mp H
    obtain ⟨⟨t284, t285⟩, A80, H⟩ := H
    replace H : ((workers_Play.f a0 a1 a2 l3).bind fun bt287 => (if (!(bt287.2.1 == t284) || (!(bt287.2.2 == t285))) = true then (changeforgelaw6_WorkersMatchSpec.j0 k a0 a1 a2 l3 a4 bt287.1 true t284 t285) else (if t284 = 0 then (changeforgelaw6_WorkersMatchSpec.j0 k a0 a1 a2 l3 a4 bt287.1 ((bt287.1.length : Int) != a0) t284 t285) else (if (bt287.1.length : Int) > 0 then (changeforgelaw6_WorkersMatchSpec.j0 k a0 a1 a2 l3 a4 bt287.1 true t284 t285) else (changeforgelaw6_WorkersMatchSpec.j0 k a0 a1 a2 l3 a4 bt287.1 false t284 t285))))) = some r := H
    have A8 := Aside0.mk A80
    clear A80
    replace H := Option.bind_eq_some_iff.mp H
    obtain ⟨⟨t287, t290, t291⟩, A90, H⟩ := H
    replace H : (if (!(t290 == t284) || (!(t291 == t285))) = true then (changeforgelaw6_WorkersMatchSpec.j0 k a0 a1 a2 l3 a4 t287 true t284 t285) else (if t284 = 0 then (changeforgelaw6_WorkersMatchSpec.j0 k a0 a1 a2 l3 a4 t287 ((t287.length : Int) != a0) t284 t285) else (if (t287.length : Int) > 0 then (changeforgelaw6_WorkersMatchSpec.j0 k a0 a1 a2 l3 a4 t287 true t284 t285) else (changeforgelaw6_WorkersMatchSpec.j0 k a0 a1 a2 l3 a4 t287 false t284 t285)))) = some r := H
    have A9 := Aside0.mk A90
    clear A90
    have HC10 := Aside0.mk H
    clear H
    go_enter Try.func3, Try.ntmps3
    go_upto_region 5 with (first | ((with_reducible refine gate_callee (f := 9) rfl ?_); refine goesL_ (some 17) rfl rfl Try.func9 (by kernel_rfl) rfl #[] rfl (by (try simp only [List.map_toArray, List.map_cons, List.map_nil]); first | done | rfl | (simp only [List.length_drop, List.length_take]; rfl)) ?_; (with_reducible refine (changeforgelaw6_farms.calls k  true _ A6.out).mono ?_); rintro e w11 ⟨rfl, hb⟩; refine ⟨_, rfl, ?_⟩; have n0_ := Aside0.mk (below_step (by repeat (first | (with_reducible first | exact HB.out | apply below_alloc | apply pw_below_drewN | apply below_drew1) | exact HB.out)) hb); clear HB; have HB := n0_; clear n0_; (try clear hb); (try clear hb2); (try clear hk); (try clear hi)) | ((with_reducible refine gate_callee (f := 10) rfl ?_); refine goesL_ (some 23) rfl rfl Try.func10 (by kernel_rfl) rfl #[.int .i64 a0, .int .i64 a1, .int .i64 a2, .slice A3 l3.length c3] rfl (by (try simp only [List.map_toArray, List.map_cons, List.map_nil]); first | done | rfl | (simp only [List.length_drop, List.length_take]; rfl)) ?_; (with_reducible refine (changeforgeref6_EventsFault.calls k a0 a1 a2 _ _ l3 t284 t285 _ ?side1 ?side2 A8.out).mono ?_); (case side1 => repeat (first | exact (Kd.C_below HR3.out HB.out) | (with_reducible refine Kd.C_alloc ?_ _) | (with_reducible refine Kd.C_drewN ?_ _) | (with_reducible refine Kd.C_drew ?_))); (case side2 => exact HC3.out); rintro e w12 ⟨rfl, hb⟩; refine ⟨_, rfl, ?_⟩; have n0_ := Aside0.mk (below_step (by repeat (first | (with_reducible first | exact HB.out | apply below_alloc | apply pw_below_drewN | apply below_drew1) | exact HB.out)) hb); clear HB; have HB := n0_; clear n0_; (try clear hb); (try clear hb2); (try clear hk); (try clear hi)) | ((with_reducible refine gate_dst (N := 11) rfl ?_); (try (refine gate_guard (by rfl) ?_; dsimp only)); refine box_event ?hg (N := 11) ?hd (cs := #[.int .i64 0, .int .i64 0]) (t := 25) ?hr ?_; (case hd => rfl); (case hg => rfl); (case hr => first | (go_simp; done) | (go_simp; rfl)); intro gb286 hg w13 hbox hb; have n0_ := Aside0.mk (below_step (by repeat (first | (with_reducible first | exact HB.out | apply below_alloc | apply pw_below_drewN | apply below_drew1) | exact HB.out)) hb); have n1_ := Aside0.mk (hbox); have n2_ := Aside0.mk ((by rw [hg]; exact (below_size (by repeat (first | (with_reducible first | exact HB.out | apply below_alloc | apply pw_below_drewN | apply below_drew1) | exact HB.out))) : w.heap.size ≤ gb286)); have n3_ := Aside0.mk ((by rw [hg]; exact (below_size (by repeat (first | (with_reducible first | exact HB.out | apply below_alloc | apply pw_below_drewN | apply below_drew1) | exact HB.out))) : w.heap.size ≤ gb286)); clear HB; have HB := n0_; have BK286 := n1_; have GW286 := n2_; have GE286 := n3_; clear n0_ n1_ n2_ n3_; clear hb hbox hg; have hcz14_0 : w13.cell? ⟨gb286, 0, none⟩ = some (.int .i64 0) := (blk_cell BK286.out 0).trans rfl; have hcz14_1 : w13.cell? ⟨gb286, 1, none⟩ = some (.int .i64 0) := (blk_cell BK286.out 1).trans rfl; have hfz14_0 := blk_frozen BK286.out 0; have hfz14_1 := blk_frozen BK286.out 1) | ((with_reducible refine gate_callee (f := 11) rfl ?_); refine goesL_ (some 29) rfl rfl Try.func11 (by kernel_rfl) rfl #[.int .i64 a0, .int .i64 a1, .int .i64 a2, .slice A3 l3.length c3] rfl (by (try simp only [List.map_toArray, List.map_cons, List.map_nil]); first | done | rfl | (simp only [List.length_drop, List.length_take]; rfl)) ?_; (with_reducible refine (workers_Play.calls a0 a1 a2 _ _ l3 t287 t290 t291 _ ?side1 ?side2 A9.out).mono ?_); (case side1 => exact Kd.C_below HR3.out (by repeat (first | (with_reducible first | exact HB.out | apply below_alloc | apply pw_below_drewN | apply below_drew1 | refine below_set ?_ GE286.out) | exact HB.out))); (case side2 => exact HC3.out); rintro e w15 ⟨v288, rfl, ho0, hb⟩; refine ⟨_, rfl, ?_⟩; have n0_ := Aside0.mk (Kd.R_lower ho0 (below_size (by repeat (first | (with_reducible first | exact HB.out | apply below_alloc | apply pw_below_drewN | apply below_drew1 | refine below_set ?_ GE286.out) | exact HB.out)))); have n1_ := Aside0.mk (blk_below (g := gb286) (o := .cells #[.int .i64 t284, .int .i64 t285] 25 (0, 0)) (by (with_reducible repeat (first | refine blk_drewN ?_ _ | refine blk_drew ?_ | refine blk_alloc ?_ _)); refine blk_put (cs := #[.int .i64 t284, .int .i64 0]) ?_ 1 _ rfl; (with_reducible repeat (first | refine blk_drewN ?_ _ | refine blk_drew ?_ | refine blk_alloc ?_ _)); refine blk_put (cs := #[.int .i64 0, .int .i64 0]) ?_ 0 _ rfl; (with_reducible repeat (first | refine blk_drewN ?_ _ | refine blk_drew ?_ | refine blk_alloc ?_ _)); exact BK286.out) hb); have n2_ := Aside0.mk (below_step (by repeat (first | (with_reducible first | exact HB.out | apply below_alloc | apply pw_below_drewN | apply below_drew1 | refine below_set ?_ GE286.out) | exact HB.out)) hb); clear BK286; clear HB; have HO289 := n0_; have BK286 := n1_; have HB := n2_; clear n0_ n1_ n2_; (try clear hb); (try clear hb2); (try clear hk); (try clear hi); (try clear ho0)) | ((with_reducible refine gate_dst (N := 13) rfl ?_); (try (refine gate_guard (by rfl) ?_; dsimp only)); refine box_event ?hg (N := 13) ?hd (cs := #[.int .i64 0, .int .i64 0]) (t := 25) ?hr ?_; (case hd => rfl); (case hg => rfl); (case hr => first | (go_simp; done) | (go_simp; rfl)); intro gb292 hg w16 hbox hb; have n0_ := Aside0.mk (Kd.R_below (by (with_reducible repeat (first | apply Kd.R_alloc | apply Kd.R_drewN | apply Kd.R_drew)); exact HO289.out) hb); have n1_ := Aside0.mk (blk_below (g := gb286) (o := .cells #[.int .i64 t284, .int .i64 t285] 25 (0, 0)) (by (with_reducible repeat (first | refine blk_drewN ?_ _ | refine blk_drew ?_ | refine blk_alloc ?_ _)); exact BK286.out) hb); have n2_ := Aside0.mk (below_step (by repeat (first | (with_reducible first | exact HB.out | apply below_alloc | apply pw_below_drewN | apply below_drew1 | refine below_set ?_ GE286.out) | exact HB.out)) hb); have n3_ := Aside0.mk (hbox); have n4_ := Aside0.mk ((by rw [hg]; exact (below_size (by repeat (first | (with_reducible first | exact HB.out | apply below_alloc | apply pw_below_drewN | apply below_drew1 | refine below_set ?_ GE286.out) | exact HB.out))) : w.heap.size ≤ gb292)); have n5_ := Aside0.mk ((by rw [hg]; exact (below_size (by repeat (first | (with_reducible first | exact HB.out | apply below_alloc | apply pw_below_drewN | apply below_drew1 | refine below_set ?_ GE286.out) | exact HB.out))) : w.heap.size ≤ gb292)); have n6_ := Aside0.mk ((by rw [hg]; exact Nat.ne_of_lt (blk_lt (g := gb286) (o := .cells #[.int .i64 t284, .int .i64 t285] 25 (0, 0)) (by (with_reducible repeat (first | refine blk_drewN ?_ _ | refine blk_drew ?_ | refine blk_alloc ?_ _)); exact BK286.out)) : gb286 ≠ gb292)); have n7_ := Aside0.mk ((by rw [hg]; exact Nat.ne_of_gt (blk_lt (g := gb286) (o := .cells #[.int .i64 t284, .int .i64 t285] 25 (0, 0)) (by (with_reducible repeat (first | refine blk_drewN ?_ _ | refine blk_drew ?_ | refine blk_alloc ?_ _)); exact BK286.out)) : gb292 ≠ gb286)); clear HO289; clear BK286; clear HB; have HO289 := n0_; have BK286 := n1_; have HB := n2_; have BK292 := n3_; have GW292 := n4_; have GE292 := n5_; have NB286_292 := n6_; have NB292_286 := n7_; clear n0_ n1_ n2_ n3_ n4_ n5_ n6_ n7_; clear hb hbox hg; have hnb17 := NB292_286.out; have hnc17 := NB286_292.out; have hcz18_0 : w16.cell? ⟨gb292, 0, none⟩ = some (.int .i64 0) := (blk_cell BK292.out 0).trans rfl; have hcz18_1 : w16.cell? ⟨gb292, 1, none⟩ = some (.int .i64 0) := (blk_cell BK292.out 1).trans rfl; have hfz18_0 := blk_frozen BK292.out 0; have hfz18_1 := blk_frozen BK292.out 1))
    (try simp only [Act.put, List.setIfInBounds_toArray, List.set_cons_zero, List.set_cons_succ])
    go_cut [55] (fun v55 wc => ∃ (kq : Nat) (x55_9 : Bool), v55 = .bool x55_9 ∧ Aside0 (changeforgelaw6_WorkersMatchSpec.j0 kq a0 a1 a2 l3 a4 t287 x55_9 t284 t285 = some r) ∧ Aside0 (kq ≤ k) ∧ Aside0 (Kd.R (Kd.int .i64) 3 wc w.heap.size (fun _ => True) v288 t287) ∧ Aside0 (wc.heap[gb286]? = some (.cells #[.int .i64 t284, .int .i64 t285] 25 (0, 0))) ∧ Aside0 (wc.heap[gb292]? = some (.cells #[.int .i64 t290, .int .i64 t291] 25 (0, 0))) ∧ Aside0 (Below w.heap.size w wc))
    case first =>
      have H := HC10.out
      clear HC10
      by_cases c19 : (!(t290 == t284) || (!(t291 == t285))) = true
      · rw [if_pos c19] at H
        have c19b0 : (!(t290 == t284) || (!(t291 == t285))) = true := c19
        clear c19
        (first | rw [c19b0] | (simp only [i64_w, i32_w]; rw [c19b0]) | skip)
        have H' := Aside0.mk H
        clear H
        have hnb20 := NB292_286.out
        have hnc20 := NB286_292.out
        have hcz21_0 : w16.cell? ⟨gb292, 0, none⟩ = some (.int .i64 0) := (blk_cell BK292.out 0).trans rfl
        have hcz21_1 : w16.cell? ⟨gb292, 1, none⟩ = some (.int .i64 0) := (blk_cell BK292.out 1).trans rfl
        have hfz21_0 := blk_frozen BK292.out 0
        have hfz21_1 := blk_frozen BK292.out 1
        have hcz22_0 : w16.cell? ⟨gb286, 0, none⟩ = some (.int .i64 t284) := (blk_cell BK286.out 0).trans rfl
        have hcz22_1 : w16.cell? ⟨gb286, 1, none⟩ = some (.int .i64 t285) := (blk_cell BK286.out 1).trans rfl
        have hfz22_0 := blk_frozen BK286.out 0
        have hfz22_1 := blk_frozen BK286.out 1
        go_wp2
        go_meet
        case rel => exact ⟨_, (true), (by first | rfl | (simp; done) | (simp [*]; done)), H', ⟨by first | omega | exact Nat.le_refl _⟩, ⟨by (with_reducible repeat (first | apply Kd.R_alloc | apply Kd.R_drewN | apply Kd.R_drew)); exact Kd.R_mono (Kd.R_far (p := ⟨gb292, 1, none⟩) (Kd.R_far (p := ⟨gb292, 0, none⟩) (Kd.R_types HO289.out BK292.out (by decide)) (fun _ hk => hk.2) (.int .i64 t290)) (fun _ hk => hk.2) (.int .i64 t291)) (fun _ hk => trivial)⟩, ⟨by (with_reducible repeat (first | refine blk_drewN ?_ _ | refine blk_drew ?_ | refine blk_alloc ?_ _)); refine blk_far ?_ NB286_292.out _; (with_reducible repeat (first | refine blk_drewN ?_ _ | refine blk_drew ?_ | refine blk_alloc ?_ _)); refine blk_far ?_ NB286_292.out _; (with_reducible repeat (first | refine blk_drewN ?_ _ | refine blk_drew ?_ | refine blk_alloc ?_ _)); exact BK286.out⟩, ⟨by (with_reducible repeat (first | refine blk_drewN ?_ _ | refine blk_drew ?_ | refine blk_alloc ?_ _)); refine blk_put (cs := #[.int .i64 t290, .int .i64 0]) ?_ 1 _ rfl; (with_reducible repeat (first | refine blk_drewN ?_ _ | refine blk_drew ?_ | refine blk_alloc ?_ _)); refine blk_put (cs := #[.int .i64 0, .int .i64 0]) ?_ 0 _ rfl; (with_reducible repeat (first | refine blk_drewN ?_ _ | refine blk_drew ?_ | refine blk_alloc ?_ _)); exact BK292.out⟩, ⟨by repeat (first | (with_reducible first | exact HB.out | apply below_alloc | apply pw_below_drewN | apply below_drew1 | refine below_set ?_ GE286.out | refine below_set ?_ GE292.out) | exact HB.out)⟩⟩
      · rw [if_neg c19] at H
        have c19b0 : (!(t290 == t284) || (!(t291 == t285))) = false := by simpa using c19
        clear c19
        (first | rw [c19b0] | (simp only [i64_w, i32_w]; rw [c19b0]) | skip)
        by_cases c23 : t284 = 0
        · rw [if_pos c23] at H
          have c23b0 : (t284 == 0) = true := beq_iff_eq.mpr c23
          have c23b1 : (t284 != 0) = false := bne_eq_false_iff_eq.mpr c23
          clear c23
          have H' := Aside0.mk H
          clear H
          have hnb24 := NB292_286.out
          have hnc24 := NB286_292.out
          have hcz25_0 : w16.cell? ⟨gb292, 0, none⟩ = some (.int .i64 0) := (blk_cell BK292.out 0).trans rfl
          have hcz25_1 : w16.cell? ⟨gb292, 1, none⟩ = some (.int .i64 0) := (blk_cell BK292.out 1).trans rfl
          have hfz25_0 := blk_frozen BK292.out 0
          have hfz25_1 := blk_frozen BK292.out 1
          have hcz26_0 : w16.cell? ⟨gb286, 0, none⟩ = some (.int .i64 t284) := (blk_cell BK286.out 0).trans rfl
          have hcz26_1 : w16.cell? ⟨gb286, 1, none⟩ = some (.int .i64 t285) := (blk_cell BK286.out 1).trans rfl
          have hfz26_0 := blk_frozen BK286.out 0
          have hfz26_1 := blk_frozen BK286.out 1
          obtain ⟨Ao27, co27, eo27⟩ := Kd.R_slice HO289.out
          subst eo27
          go_wp2
          go_meet
          case rel => exact ⟨_, (((t287.length : Int) != a0)), (by first | rfl | (simp; done) | (simp [*]; done)), H', ⟨by first | omega | exact Nat.le_refl _⟩, ⟨by (with_reducible repeat (first | apply Kd.R_alloc | apply Kd.R_drewN | apply Kd.R_drew)); exact Kd.R_mono (Kd.R_far (p := ⟨gb292, 1, none⟩) (Kd.R_far (p := ⟨gb292, 0, none⟩) (Kd.R_types HO289.out BK292.out (by decide)) (fun _ hk => hk.2) (.int .i64 t290)) (fun _ hk => hk.2) (.int .i64 t291)) (fun _ hk => trivial)⟩, ⟨by (with_reducible repeat (first | refine blk_drewN ?_ _ | refine blk_drew ?_ | refine blk_alloc ?_ _)); refine blk_far ?_ NB286_292.out _; (with_reducible repeat (first | refine blk_drewN ?_ _ | refine blk_drew ?_ | refine blk_alloc ?_ _)); refine blk_far ?_ NB286_292.out _; (with_reducible repeat (first | refine blk_drewN ?_ _ | refine blk_drew ?_ | refine blk_alloc ?_ _)); exact BK286.out⟩, ⟨by (with_reducible repeat (first | refine blk_drewN ?_ _ | refine blk_drew ?_ | refine blk_alloc ?_ _)); refine blk_put (cs := #[.int .i64 t290, .int .i64 0]) ?_ 1 _ rfl; (with_reducible repeat (first | refine blk_drewN ?_ _ | refine blk_drew ?_ | refine blk_alloc ?_ _)); refine blk_put (cs := #[.int .i64 0, .int .i64 0]) ?_ 0 _ rfl; (with_reducible repeat (first | refine blk_drewN ?_ _ | refine blk_drew ?_ | refine blk_alloc ?_ _)); exact BK292.out⟩, ⟨by repeat (first | (with_reducible first | exact HB.out | apply below_alloc | apply pw_below_drewN | apply below_drew1 | refine below_set ?_ GE286.out | refine below_set ?_ GE292.out) | exact HB.out)⟩⟩
        · rw [if_neg c23] at H
          have c23b0 : (t284 == 0) = false := beq_eq_false_iff_ne.mpr c23
          have c23b1 : (t284 != 0) = true := bne_iff_ne.mpr c23
          by_cases c28 : (t287.length : Int) > 0
          · rw [if_pos c28] at H
            have c28b0 : decide (0 < (t287.length : Int)) = true := decide_eq_true c28
            have c28b1 : decide (0 < t287.length) = true := decide_eq_true (by omega)
            clear c28
            have H' := Aside0.mk H
            clear H
            have hnb29 := NB292_286.out
            have hnc29 := NB286_292.out
            have hcz30_0 : w16.cell? ⟨gb292, 0, none⟩ = some (.int .i64 0) := (blk_cell BK292.out 0).trans rfl
            have hcz30_1 : w16.cell? ⟨gb292, 1, none⟩ = some (.int .i64 0) := (blk_cell BK292.out 1).trans rfl
            have hfz30_0 := blk_frozen BK292.out 0
            have hfz30_1 := blk_frozen BK292.out 1
            have hcz31_0 : w16.cell? ⟨gb286, 0, none⟩ = some (.int .i64 t284) := (blk_cell BK286.out 0).trans rfl
            have hcz31_1 : w16.cell? ⟨gb286, 1, none⟩ = some (.int .i64 t285) := (blk_cell BK286.out 1).trans rfl
            have hfz31_0 := blk_frozen BK286.out 0
            have hfz31_1 := blk_frozen BK286.out 1
            obtain ⟨Ao32, co32, eo32⟩ := Kd.R_slice HO289.out
            subst eo32
            go_wp2
            go_meet
            case rel => exact ⟨_, (true), (by first | rfl | (simp; done) | (simp [*]; done)), H', ⟨by first | omega | exact Nat.le_refl _⟩, ⟨by (with_reducible repeat (first | apply Kd.R_alloc | apply Kd.R_drewN | apply Kd.R_drew)); exact Kd.R_mono (Kd.R_far (p := ⟨gb292, 1, none⟩) (Kd.R_far (p := ⟨gb292, 0, none⟩) (Kd.R_types HO289.out BK292.out (by decide)) (fun _ hk => hk.2) (.int .i64 t290)) (fun _ hk => hk.2) (.int .i64 t291)) (fun _ hk => trivial)⟩, ⟨by (with_reducible repeat (first | refine blk_drewN ?_ _ | refine blk_drew ?_ | refine blk_alloc ?_ _)); refine blk_far ?_ NB286_292.out _; (with_reducible repeat (first | refine blk_drewN ?_ _ | refine blk_drew ?_ | refine blk_alloc ?_ _)); refine blk_far ?_ NB286_292.out _; (with_reducible repeat (first | refine blk_drewN ?_ _ | refine blk_drew ?_ | refine blk_alloc ?_ _)); exact BK286.out⟩, ⟨by (with_reducible repeat (first | refine blk_drewN ?_ _ | refine blk_drew ?_ | refine blk_alloc ?_ _)); refine blk_put (cs := #[.int .i64 t290, .int .i64 0]) ?_ 1 _ rfl; (with_reducible repeat (first | refine blk_drewN ?_ _ | refine blk_drew ?_ | refine blk_alloc ?_ _)); refine blk_put (cs := #[.int .i64 0, .int .i64 0]) ?_ 0 _ rfl; (with_reducible repeat (first | refine blk_drewN ?_ _ | refine blk_drew ?_ | refine blk_alloc ?_ _)); exact BK292.out⟩, ⟨by repeat (first | (with_reducible first | exact HB.out | apply below_alloc | apply pw_below_drewN | apply below_drew1 | refine below_set ?_ GE286.out | refine below_set ?_ GE292.out) | exact HB.out)⟩⟩
          · rw [if_neg c28] at H
            have c28b0 : decide (0 < (t287.length : Int)) = false := decide_eq_false c28
            have c28b1 : decide (0 < t287.length) = false := decide_eq_false (by omega)
            clear c28
            have H' := Aside0.mk H
            clear H
            have hnb33 := NB292_286.out
            have hnc33 := NB286_292.out
            have hcz34_0 : w16.cell? ⟨gb292, 0, none⟩ = some (.int .i64 0) := (blk_cell BK292.out 0).trans rfl
            have hcz34_1 : w16.cell? ⟨gb292, 1, none⟩ = some (.int .i64 0) := (blk_cell BK292.out 1).trans rfl
            have hfz34_0 := blk_frozen BK292.out 0
            have hfz34_1 := blk_frozen BK292.out 1
            have hcz35_0 : w16.cell? ⟨gb286, 0, none⟩ = some (.int .i64 t284) := (blk_cell BK286.out 0).trans rfl
            have hcz35_1 : w16.cell? ⟨gb286, 1, none⟩ = some (.int .i64 t285) := (blk_cell BK286.out 1).trans rfl
            have hfz35_0 := blk_frozen BK286.out 0
            have hfz35_1 := blk_frozen BK286.out 1
            obtain ⟨Ao36, co36, eo36⟩ := Kd.R_slice HO289.out
            subst eo36
            go_wp2
            go_meet
            case rel => exact ⟨_, (false), (by first | rfl | (simp; done) | (simp [*]; done)), H', ⟨by first | omega | exact Nat.le_refl _⟩, ⟨by (with_reducible repeat (first | apply Kd.R_alloc | apply Kd.R_drewN | apply Kd.R_drew)); exact Kd.R_mono (Kd.R_far (p := ⟨gb292, 1, none⟩) (Kd.R_far (p := ⟨gb292, 0, none⟩) (Kd.R_types HO289.out BK292.out (by decide)) (fun _ hk => hk.2) (.int .i64 t290)) (fun _ hk => hk.2) (.int .i64 t291)) (fun _ hk => trivial)⟩, ⟨by (with_reducible repeat (first | refine blk_drewN ?_ _ | refine blk_drew ?_ | refine blk_alloc ?_ _)); refine blk_far ?_ NB286_292.out _; (with_reducible repeat (first | refine blk_drewN ?_ _ | refine blk_drew ?_ | refine blk_alloc ?_ _)); refine blk_far ?_ NB286_292.out _; (with_reducible repeat (first | refine blk_drewN ?_ _ | refine blk_drew ?_ | refine blk_alloc ?_ _)); exact BK286.out⟩, ⟨by (with_reducible repeat (first | refine blk_drewN ?_ _ | refine blk_drew ?_ | refine blk_alloc ?_ _)); refine blk_put (cs := #[.int .i64 t290, .int .i64 0]) ?_ 1 _ rfl; (with_reducible repeat (first | refine blk_drewN ?_ _ | refine blk_drew ?_ | refine blk_alloc ?_ _)); refine blk_put (cs := #[.int .i64 0, .int .i64 0]) ?_ 0 _ rfl; (with_reducible repeat (first | refine blk_drewN ?_ _ | refine blk_drew ?_ | refine blk_alloc ?_ _)); exact BK292.out⟩, ⟨by repeat (first | (with_reducible first | exact HB.out | apply below_alloc | apply pw_below_drewN | apply below_drew1 | refine below_set ?_ GE286.out | refine below_set ?_ GE292.out) | exact HB.out)⟩⟩
    case rest =>
      clear HC10
      try clear c1
      try clear c2
      try clear p2
      try clear c3
      try clear c7
      try clear c9
      try clear c10
      try clear c11
      try clear c17
      try clear c19
      try clear c19b0
      try clear c20
      try clear c23
      try clear c23b0
      try clear c23b1
      try clear c24
      try clear c28
      try clear c28b0
      try clear c28b1
      try clear c29
      try clear c33
      try clear hcz14_0
      try clear hcz14_1
      try clear hcz18_0
      try clear hcz18_1
      try clear hcz21_0
      try clear hcz21_1
      try clear hcz22_0
      try clear hcz22_1
      try clear hcz25_0
      try clear hcz25_1
      try clear hcz26_0
      try clear hcz26_1
      try clear hcz30_0
      try clear hcz30_1
      try clear hcz31_0
      try clear hcz31_1
      try clear hcz34_0
      try clear hcz34_1
      try clear hcz35_0
      try clear hcz35_1
      try clear hfz14_0
      try clear hfz14_1
      try clear hfz18_0
      try clear hfz18_1
      try clear hfz21_0
      try clear hfz21_1
      try clear hfz22_0
      try clear hfz22_1
      try clear hfz25_0
      try clear hfz25_1
      try clear hfz26_0
      try clear hfz26_1
      try clear hfz30_0
      try clear hfz30_1
      try clear hfz31_0
      try clear hfz31_1
      try clear hfz34_0
      try clear hfz34_1
      try clear hfz35_0
      try clear hfz35_1
      obtain ⟨kq, x55_9, rfl, HA, HJ9, HO_12, BK286, BK292, HB⟩ := hcut
      cases kq with
      | zero => exact absurd HA.out (by simp [changeforgelaw6_WorkersMatchSpec.j0])
      | succ kj9 =>
        have H := HA.out
        clear HA
        simp only [changeforgelaw6_WorkersMatchSpec.j0] at H
        by_cases c37 : x55_9 = true
        · subst c37
          have H1 : (some false) = some r := by rw [if_pos rfl] at H; exact H
          clear H
          have H := H1
          clear H1
          obtain rfl := Option.some.inj H
          go_wp2
          go_ret
          exact ⟨by first | rfl | (simp [errW_none, errW_some] <;> rfl) | (simp [*, errW_none, errW_some] <;> rfl), by repeat (first | (with_reducible first | exact HB.out | apply below_alloc | apply pw_below_drewN | apply below_drew1 | refine below_set ?_ GE286.out | refine below_set ?_ GE292.out) | exact HB.out)⟩
        · replace c37 := Bool.eq_false_iff.mpr c37
          subst c37
          have H1 : (changeforgelaw6_WorkersMatchSpec.l0 kj9 a0 a1 a2 l3 a4 t287 0 t284 t285) = some r := by rw [if_neg (show ¬ (false = true) by decide)] at H; exact H
          clear H
          have H := H1
          clear H1
          have H' := Aside0.mk H
          clear H
          go_wp2
          go_loopg [14] kj9 (fun kq v14 w' => ∃ (x14_2 : Int), v14 = .int .i64 x14_2 ∧ Aside0 (changeforgelaw6_WorkersMatchSpec.l0 kq a0 a1 a2 l3 a4 t287 x14_2 t284 t285 = some r) ∧ Aside0 (kq ≤ kj9) ∧ Aside0 (Kd.R (Kd.int .i64) 3 w' w.heap.size (fun _ => True) v288 t287) ∧ Aside0 (w'.heap[gb286]? = some (.cells #[.int .i64 t284, .int .i64 t285] 25 (0, 0))) ∧ Aside0 (w'.heap[gb292]? = some (.cells #[.int .i64 t290, .int .i64 t291] 25 (0, 0))) ∧ Aside0 (Below w.heap.size w w'))
          case atStart => exact ⟨(0), (by first | rfl | (simp; done) | (simp [*]; done)), H', ⟨Nat.le_refl _⟩, ⟨by (with_reducible repeat (first | apply Kd.R_alloc | apply Kd.R_drewN | apply Kd.R_drew)); exact HO_12.out⟩, ⟨by (with_reducible repeat (first | refine blk_drewN ?_ _ | refine blk_drew ?_ | refine blk_alloc ?_ _)); exact BK286.out⟩, ⟨by (with_reducible repeat (first | refine blk_drewN ?_ _ | refine blk_drew ?_ | refine blk_alloc ?_ _)); exact BK292.out⟩, ⟨by repeat (first | (with_reducible first | exact HB.out | apply below_alloc | apply pw_below_drewN | apply below_drew1 | refine below_set ?_ GE286.out | refine below_set ?_ GE292.out) | exact HB.out)⟩⟩
          case round =>
            clear H'
            try clear c1
            try clear c2
            try clear p2
            try clear c3
            try clear c7
            try clear c9
            try clear c10
            try clear c11
            try clear c17
            try clear c19
            try clear c19b0
            try clear c20
            try clear c23
            try clear c23b0
            try clear c23b1
            try clear c24
            try clear c28
            try clear c28b0
            try clear c28b1
            try clear c29
            try clear c33
            try clear c37
            try clear hcz14_0
            try clear hcz14_1
            try clear hcz18_0
            try clear hcz18_1
            try clear hcz21_0
            try clear hcz21_1
            try clear hcz22_0
            try clear hcz22_1
            try clear hcz25_0
            try clear hcz25_1
            try clear hcz26_0
            try clear hcz26_1
            try clear hcz30_0
            try clear hcz30_1
            try clear hcz31_0
            try clear hcz31_1
            try clear hcz34_0
            try clear hcz34_1
            try clear hcz35_0
            try clear hcz35_1
            try clear hfz14_0
            try clear hfz14_1
            try clear hfz18_0
            try clear hfz18_1
            try clear hfz21_0
            try clear hfz21_1
            try clear hfz22_0
            try clear hfz22_1
            try clear hfz25_0
            try clear hfz25_1
            try clear hfz26_0
            try clear hfz26_1
            try clear hfz30_0
            try clear hfz30_1
            try clear hfz31_0
            try clear hfz31_1
            try clear hfz34_0
            try clear hfz34_1
            try clear hfz35_0
            try clear hfz35_1
            try clear p2
            obtain ⟨x14_2, rfl, HA, HK2, HO_12, BK286, BK292, HB⟩ := hrel
            cases gk with
            | zero => exact absurd HA.out (by simp [changeforgelaw6_WorkersMatchSpec.l0])
            | succ k2 =>
              have H := HA.out
              clear HA
              simp only [changeforgelaw6_WorkersMatchSpec.l0] at H
              by_cases c38 : x14_2 < (t287.length : Int)
              · rw [if_pos c38] at H
                have c38b0 : decide (x14_2 < (t287.length : Int)) = true := decide_eq_true c38
                clear c38
                by_cases c39 : 0 ≤ x14_2
                · rw [if_pos c39] at H
                  have c39b0 : decide (0 ≤ x14_2) = true := decide_eq_true c39
                  clear c39
                  replace H := Option.bind_eq_some_iff.mp H
                  obtain ⟨t294, A400, H⟩ := H
                  replace H : (if (rd t287 x14_2) = t294 then (changeforgelaw6_WorkersMatchSpec.l0 k2 a0 a1 a2 l3 a4 t287 (wrap64 (x14_2 + 1)) t284 t285) else (some false)) = some r := H
                  have A40 := Aside0.mk A400
                  clear A400
                  by_cases c41 : (rd t287 x14_2) = t294
                  · rw [if_pos c41] at H
                    have c41b0 : ((rd t287 x14_2) == t294) = true := beq_iff_eq.mpr c41
                    have c41b1 : ((rd t287 x14_2) != t294) = false := bne_eq_false_iff_eq.mpr c41
                    clear c41
                    have H' := Aside0.mk H
                    clear H
                    obtain ⟨Ao42, co42, eo42⟩ := Kd.R_slice HO_12.out
                    subst eo42
                    try go_wp2
                    have n0_ := Aside0.mk (Kd.R_drew HO_12.out)
                    have n1_ := Aside0.mk (blk_drew BK286.out)
                    have n2_ := Aside0.mk (blk_drew BK292.out)
                    have n3_ := Aside0.mk (below_drew1 HB.out)
                    clear HO_12
                    clear BK286
                    clear BK292
                    clear HB
                    have HO_12 := n0_
                    have BK286 := n1_
                    have BK292 := n2_
                    have HB := n3_
                    clear n0_ n1_ n2_ n3_
                    have p293 : 0 ≤ (x14_2 : Int) := of_decide_eq_true (by first | (with_reducible assumption) | assumption)
                    have q293 : x14_2 < (t287.length : Int) := of_decide_eq_true (by first | (with_reducible assumption) | assumption)
                    obtain ⟨ad293, e293, hx293_0⟩ := Kd.at_int (Kd.R_reads' HO_12.out).2.2 x14_2 p293 q293
                    cases e293
                    replace p293 := eq_true p293
                    replace q293 := eq_true q293
                    refine start_ (n := 10) (S := fun w' => w'.cell? (ad293.add (x14_2).toNat) = some (.int .i64 (rd t287 x14_2))) (ds := []) #[false, false, false, false, false, false, false, false, false, false] (by kernel_rfl) rfl rfl (hx293_0) (fun hHeld => ?_); refine with_tabW changeforgelaw6_WorkersMatchSpec.tab10 changeforgelaw6_WorkersMatchSpec.bits10 (fun HT_ HW_ => ?_)
                    generalize wr.drew = w43 at HO_12 BK286 BK292 HB hx293_0 hHeld ⊢
                    refine pure_ (i := 0) (N := some 62) (v := ?_) (a' := ?_) #[true, false, false, false, false, false, false, false, false, false] rfl rfl (any_of HT_.out (by kernel_rfl)) (fun _ _ _ h => h) (Or.inl ⟨by rfl, ?_⟩) ?_ ?_
                    rotate_left
                    · intro w'
                      go_simp
                      with_reducible rfl
                    rotate_left
                    · simp only [Act.put, List.setIfInBounds_toArray, List.set_cons_zero, List.set_cons_succ, i64_w, i32_w]
                      rfl
                    refine pure_ (i := 1) (N := some 63) (v := ?_) (a' := ?_) #[true, true, false, false, false, false, false, false, false, false] rfl rfl (any_of HT_.out (by kernel_rfl)) (fun _ _ _ h => h) (Or.inl ⟨by rfl, ?_⟩) ?_ ?_
                    rotate_left
                    · intro w'
                      go_simp
                      with_reducible rfl
                    rotate_left
                    · simp only [Act.put, List.setIfInBounds_toArray, List.set_cons_zero, List.set_cons_succ, i64_w, i32_w]
                      rfl
                    refine pure_ (i := 2) (N := some 64) (v := ?_) (a' := ?_) #[true, true, true, false, false, false, false, false, false, false] rfl rfl (any_of HT_.out (by kernel_rfl)) (fun _ _ _ h => h) (Or.inl ⟨by rfl, ?_⟩) ?_ ?_
                    rotate_left
                    · intro w'
                      go_simp
                      with_reducible rfl
                    rotate_left
                    · simp only [Act.put, List.setIfInBounds_toArray, List.set_cons_zero, List.set_cons_succ, i64_w, i32_w]
                      rfl
                    refine pure_ (i := 4) (N := some 66) (v := ?_) (a' := ?_) #[true, true, true, false, true, false, false, false, false, false] rfl rfl (any_of HT_.out (by kernel_rfl)) (fun _ _ _ h => h) (Or.inl ⟨by rfl, ?_⟩) ?_ ?_
                    rotate_left
                    · intro w'
                      go_simp
                      with_reducible rfl
                    rotate_left
                    · simp only [Act.put, List.setIfInBounds_toArray, List.set_cons_zero, List.set_cons_succ, i64_w, i32_w]
                      rfl
                    refine pure_ (i := 5) (N := some 67) (v := ?_) (a' := ?_) #[true, true, true, false, true, true, false, false, false, false] rfl rfl (any_of HT_.out (by kernel_rfl)) (fun _ _ _ h => h) (Or.inl ⟨by rfl, ?_⟩) ?_ ?_
                    rotate_left
                    · intro w'
                      go_simp
                      with_reducible rfl
                    rotate_left
                    · simp only [Act.put, List.setIfInBounds_toArray, List.set_cons_zero, List.set_cons_succ, i64_w, i32_w]
                      rfl
                    refine pure_ (i := 6) (N := some 68) (v := ?_) (a' := ?_) #[true, true, true, false, true, true, true, false, false, false] rfl rfl (any_of HT_.out (by kernel_rfl)) (fun _ _ _ h => h) (Or.inl ⟨by rfl, ?_⟩) ?_ ?_
                    rotate_left
                    · intro w'
                      go_simp
                      with_reducible rfl
                    rotate_left
                    · simp only [Act.put, List.setIfInBounds_toArray, List.set_cons_zero, List.set_cons_succ, i64_w, i32_w]
                      rfl
                    refine pure_ (i := 7) (N := some 69) (v := ?_) (a' := ?_) #[true, true, true, false, true, true, true, true, false, false] rfl rfl (any_of HT_.out (by kernel_rfl)) (fun _ _ _ h => h) (Or.inl ⟨by rfl, ?_⟩) ?_ ?_
                    rotate_left
                    · intro w'
                      go_simp
                      with_reducible rfl
                    rotate_left
                    · simp only [Act.put, List.setIfInBounds_toArray, List.set_cons_zero, List.set_cons_succ, i64_w, i32_w]
                      rfl
                    refine take_ (i := 3) (N := some 65) (v := ?_) (a' := ?_) #[true, true, true, true, true, true, true, true, false, false] rfl rfl (take_ofW HT_.out HW_.out (by kernel_rfl)) (fun _ _ _ h => h) (Or.inl ⟨by rfl, ?_⟩) hHeld ?_ ?_
                    rotate_left
                    · intro w' s0
                      go_simp
                      with_reducible rfl
                    rotate_left
                    · simp only [Act.put, List.setIfInBounds_toArray, List.set_cons_zero, List.set_cons_succ, i64_w, i32_w]
                      rfl
                    refine one_ (i := 8) (N := some 70) #[true, true, true, true, true, true, true, true, true, false] rfl rfl (one_of HT_.out (by kernel_rfl)) (by decide) (fun K hK => ?_)
                    refine goes_ Try.func12 (by kernel_rfl) rfl #[.slice A3 l3.length c3, .int .i64 a1, .int .i64 a2, .int .i64 x14_2] (by rfl) rfl rfl (by (try simp only [List.map_toArray, List.map_cons, List.map_nil]); first | done | rfl | (simp only [List.length_drop, List.length_take]; rfl)) ?_
                    with_reducible refine (changeforgeref6_Accepted.calls k2 _ _ l3 a1 a2 x14_2 t294 _ ?side1 ?side2 A40.out).mono ?_
                    (case side1 => repeat (first | exact (Kd.C_below HR3.out HB.out) | (with_reducible refine Kd.C_alloc ?_ _) | (with_reducible refine Kd.C_drewN ?_ _) | (with_reducible refine Kd.C_drew ?_)))
                    (case side2 => exact HC3.out)
                    rintro e w44 ⟨rfl, hb⟩
                    have HS0_ := (hb.cell (World.block_lt_of_cell? _ _ (hHeld))).trans (hHeld)
                    refine ⟨_, rfl, ?_⟩
                    have n0_ := Aside0.mk (Kd.R_below (by (with_reducible repeat (first | apply Kd.R_alloc | apply Kd.R_drewN | apply Kd.R_drew)); exact HO_12.out) hb)
                    have n1_ := Aside0.mk (blk_below (g := gb286) (o := .cells #[.int .i64 t284, .int .i64 t285] 25 (0, 0)) (by (with_reducible repeat (first | refine blk_drewN ?_ _ | refine blk_drew ?_ | refine blk_alloc ?_ _)); exact BK286.out) hb)
                    have n2_ := Aside0.mk (blk_below (g := gb292) (o := .cells #[.int .i64 t290, .int .i64 t291] 25 (0, 0)) (by (with_reducible repeat (first | refine blk_drewN ?_ _ | refine blk_drew ?_ | refine blk_alloc ?_ _)); exact BK292.out) hb)
                    have n3_ := Aside0.mk (below_step (by repeat (first | (with_reducible first | exact HB.out | apply below_alloc | apply pw_below_drewN | apply below_drew1 | refine below_set ?_ GE286.out | refine below_set ?_ GE292.out) | exact HB.out)) hb)
                    clear HO_12
                    clear BK286
                    clear BK292
                    clear HB
                    have HO_12 := n0_
                    have BK286 := n1_
                    have BK292 := n2_
                    have HB := n3_
                    clear n0_ n1_ n2_ n3_
                    (try clear hb)
                    (try clear hb2)
                    (try clear hk)
                    (try clear hi)
                    refine hK.out _ _ (HS0_) (fun hHeld => ?_)
                    clear hK K
                    refine norm_ (a' := ?_) ?_ ?_
                    rotate_left
                    · show Act.put _ (some 70) _ = _
                      simp only [Act.put, List.setIfInBounds_toArray, List.set_cons_zero, List.set_cons_succ, i64_w, i32_w]
                      rfl
                    refine pure_ (i := 9) (N := some 71) (v := ?_) (a' := ?_) #[true, true, true, true, true, true, true, true, true, true] rfl rfl (any_of HT_.out (by kernel_rfl)) (fun _ _ _ h => h) (Or.inl ⟨by rfl, ?_⟩) ?_ ?_
                    rotate_left
                    · intro w'
                      go_simp
                      with_reducible rfl
                    rotate_left
                    · simp only [Act.put, List.setIfInBounds_toArray, List.set_cons_zero, List.set_cons_succ, i64_w, i32_w]
                      rfl
                    refine done_ (done_of HT_.out (by kernel_rfl)) ?_
                    try go_wp2
                    go_roundg k2
                    case measure => have := HJ9.out; have := HK2.out; omega
                    case rel => exact ⟨(wrap64 (x14_2 + 1)), (by first | rfl | (simp; done) | (simp [*]; done)), H', ⟨by have := HJ9.out; have := HK2.out; omega⟩, ⟨by (with_reducible repeat (first | apply Kd.R_alloc | apply Kd.R_drewN | apply Kd.R_drew)); exact HO_12.out⟩, ⟨by (with_reducible repeat (first | refine blk_drewN ?_ _ | refine blk_drew ?_ | refine blk_alloc ?_ _)); exact BK286.out⟩, ⟨by (with_reducible repeat (first | refine blk_drewN ?_ _ | refine blk_drew ?_ | refine blk_alloc ?_ _)); exact BK292.out⟩, ⟨by repeat (first | (with_reducible first | exact HB.out | apply below_alloc | apply pw_below_drewN | apply below_drew1 | refine below_set ?_ GE286.out | refine below_set ?_ GE292.out) | exact HB.out)⟩⟩
                  · rw [if_neg c41] at H
                    have c41b0 : ((rd t287 x14_2) == t294) = false := beq_eq_false_iff_ne.mpr c41
                    have c41b1 : ((rd t287 x14_2) != t294) = true := bne_iff_ne.mpr c41
                    obtain rfl := Option.some.inj H
                    obtain ⟨Ao45, co45, eo45⟩ := Kd.R_slice HO_12.out
                    subst eo45
                    try go_wp2
                    have n0_ := Aside0.mk (Kd.R_drew HO_12.out)
                    have n1_ := Aside0.mk (blk_drew BK286.out)
                    have n2_ := Aside0.mk (blk_drew BK292.out)
                    have n3_ := Aside0.mk (below_drew1 HB.out)
                    clear HO_12
                    clear BK286
                    clear BK292
                    clear HB
                    have HO_12 := n0_
                    have BK286 := n1_
                    have BK292 := n2_
                    have HB := n3_
                    clear n0_ n1_ n2_ n3_
                    have p293 : 0 ≤ (x14_2 : Int) := of_decide_eq_true (by first | (with_reducible assumption) | assumption)
                    have q293 : x14_2 < (t287.length : Int) := of_decide_eq_true (by first | (with_reducible assumption) | assumption)
                    obtain ⟨ad293, e293, hx293_0⟩ := Kd.at_int (Kd.R_reads' HO_12.out).2.2 x14_2 p293 q293
                    cases e293
                    replace p293 := eq_true p293
                    replace q293 := eq_true q293
                    refine start_ (n := 10) (S := fun w' => w'.cell? (ad293.add (x14_2).toNat) = some (.int .i64 (rd t287 x14_2))) (ds := []) #[false, false, false, false, false, false, false, false, false, false] (by kernel_rfl) rfl rfl (hx293_0) (fun hHeld => ?_); refine with_tabW changeforgelaw6_WorkersMatchSpec.tab10 changeforgelaw6_WorkersMatchSpec.bits10 (fun HT_ HW_ => ?_)
                    generalize wr.drew = w46 at HO_12 BK286 BK292 HB hx293_0 hHeld ⊢
                    refine pure_ (i := 0) (N := some 62) (v := ?_) (a' := ?_) #[true, false, false, false, false, false, false, false, false, false] rfl rfl (any_of HT_.out (by kernel_rfl)) (fun _ _ _ h => h) (Or.inl ⟨by rfl, ?_⟩) ?_ ?_
                    rotate_left
                    · intro w'
                      go_simp
                      with_reducible rfl
                    rotate_left
                    · simp only [Act.put, List.setIfInBounds_toArray, List.set_cons_zero, List.set_cons_succ, i64_w, i32_w]
                      rfl
                    refine pure_ (i := 1) (N := some 63) (v := ?_) (a' := ?_) #[true, true, false, false, false, false, false, false, false, false] rfl rfl (any_of HT_.out (by kernel_rfl)) (fun _ _ _ h => h) (Or.inl ⟨by rfl, ?_⟩) ?_ ?_
                    rotate_left
                    · intro w'
                      go_simp
                      with_reducible rfl
                    rotate_left
                    · simp only [Act.put, List.setIfInBounds_toArray, List.set_cons_zero, List.set_cons_succ, i64_w, i32_w]
                      rfl
                    refine pure_ (i := 2) (N := some 64) (v := ?_) (a' := ?_) #[true, true, true, false, false, false, false, false, false, false] rfl rfl (any_of HT_.out (by kernel_rfl)) (fun _ _ _ h => h) (Or.inl ⟨by rfl, ?_⟩) ?_ ?_
                    rotate_left
                    · intro w'
                      go_simp
                      with_reducible rfl
                    rotate_left
                    · simp only [Act.put, List.setIfInBounds_toArray, List.set_cons_zero, List.set_cons_succ, i64_w, i32_w]
                      rfl
                    refine pure_ (i := 4) (N := some 66) (v := ?_) (a' := ?_) #[true, true, true, false, true, false, false, false, false, false] rfl rfl (any_of HT_.out (by kernel_rfl)) (fun _ _ _ h => h) (Or.inl ⟨by rfl, ?_⟩) ?_ ?_
                    rotate_left
                    · intro w'
                      go_simp
                      with_reducible rfl
                    rotate_left
                    · simp only [Act.put, List.setIfInBounds_toArray, List.set_cons_zero, List.set_cons_succ, i64_w, i32_w]
                      rfl
                    refine pure_ (i := 5) (N := some 67) (v := ?_) (a' := ?_) #[true, true, true, false, true, true, false, false, false, false] rfl rfl (any_of HT_.out (by kernel_rfl)) (fun _ _ _ h => h) (Or.inl ⟨by rfl, ?_⟩) ?_ ?_
                    rotate_left
                    · intro w'
                      go_simp
                      with_reducible rfl
                    rotate_left
                    · simp only [Act.put, List.setIfInBounds_toArray, List.set_cons_zero, List.set_cons_succ, i64_w, i32_w]
                      rfl
                    refine pure_ (i := 6) (N := some 68) (v := ?_) (a' := ?_) #[true, true, true, false, true, true, true, false, false, false] rfl rfl (any_of HT_.out (by kernel_rfl)) (fun _ _ _ h => h) (Or.inl ⟨by rfl, ?_⟩) ?_ ?_
                    rotate_left
                    · intro w'
                      go_simp
                      with_reducible rfl
                    rotate_left
                    · simp only [Act.put, List.setIfInBounds_toArray, List.set_cons_zero, List.set_cons_succ, i64_w, i32_w]
                      rfl
                    refine pure_ (i := 7) (N := some 69) (v := ?_) (a' := ?_) #[true, true, true, false, true, true, true, true, false, false] rfl rfl (any_of HT_.out (by kernel_rfl)) (fun _ _ _ h => h) (Or.inl ⟨by rfl, ?_⟩) ?_ ?_
                    rotate_left
                    · intro w'
                      go_simp
                      with_reducible rfl
                    rotate_left
                    · simp only [Act.put, List.setIfInBounds_toArray, List.set_cons_zero, List.set_cons_succ, i64_w, i32_w]
                      rfl
                    refine take_ (i := 3) (N := some 65) (v := ?_) (a' := ?_) #[true, true, true, true, true, true, true, true, false, false] rfl rfl (take_ofW HT_.out HW_.out (by kernel_rfl)) (fun _ _ _ h => h) (Or.inl ⟨by rfl, ?_⟩) hHeld ?_ ?_
                    rotate_left
                    · intro w' s0
                      go_simp
                      with_reducible rfl
                    rotate_left
                    · simp only [Act.put, List.setIfInBounds_toArray, List.set_cons_zero, List.set_cons_succ, i64_w, i32_w]
                      rfl
                    refine one_ (i := 8) (N := some 70) #[true, true, true, true, true, true, true, true, true, false] rfl rfl (one_of HT_.out (by kernel_rfl)) (by decide) (fun K hK => ?_)
                    refine goes_ Try.func12 (by kernel_rfl) rfl #[.slice A3 l3.length c3, .int .i64 a1, .int .i64 a2, .int .i64 x14_2] (by rfl) rfl rfl (by (try simp only [List.map_toArray, List.map_cons, List.map_nil]); first | done | rfl | (simp only [List.length_drop, List.length_take]; rfl)) ?_
                    with_reducible refine (changeforgeref6_Accepted.calls k2 _ _ l3 a1 a2 x14_2 t294 _ ?side1 ?side2 A40.out).mono ?_
                    (case side1 => repeat (first | exact (Kd.C_below HR3.out HB.out) | (with_reducible refine Kd.C_alloc ?_ _) | (with_reducible refine Kd.C_drewN ?_ _) | (with_reducible refine Kd.C_drew ?_)))
                    (case side2 => exact HC3.out)
                    rintro e w47 ⟨rfl, hb⟩
                    have HS0_ := (hb.cell (World.block_lt_of_cell? _ _ (hHeld))).trans (hHeld)
                    refine ⟨_, rfl, ?_⟩
                    have n0_ := Aside0.mk (Kd.R_below (by (with_reducible repeat (first | apply Kd.R_alloc | apply Kd.R_drewN | apply Kd.R_drew)); exact HO_12.out) hb)
                    have n1_ := Aside0.mk (blk_below (g := gb286) (o := .cells #[.int .i64 t284, .int .i64 t285] 25 (0, 0)) (by (with_reducible repeat (first | refine blk_drewN ?_ _ | refine blk_drew ?_ | refine blk_alloc ?_ _)); exact BK286.out) hb)
                    have n2_ := Aside0.mk (blk_below (g := gb292) (o := .cells #[.int .i64 t290, .int .i64 t291] 25 (0, 0)) (by (with_reducible repeat (first | refine blk_drewN ?_ _ | refine blk_drew ?_ | refine blk_alloc ?_ _)); exact BK292.out) hb)
                    have n3_ := Aside0.mk (below_step (by repeat (first | (with_reducible first | exact HB.out | apply below_alloc | apply pw_below_drewN | apply below_drew1 | refine below_set ?_ GE286.out | refine below_set ?_ GE292.out) | exact HB.out)) hb)
                    clear HO_12
                    clear BK286
                    clear BK292
                    clear HB
                    have HO_12 := n0_
                    have BK286 := n1_
                    have BK292 := n2_
                    have HB := n3_
                    clear n0_ n1_ n2_ n3_
                    (try clear hb)
                    (try clear hb2)
                    (try clear hk)
                    (try clear hi)
                    refine hK.out _ _ (HS0_) (fun hHeld => ?_)
                    clear hK K
                    refine norm_ (a' := ?_) ?_ ?_
                    rotate_left
                    · show Act.put _ (some 70) _ = _
                      simp only [Act.put, List.setIfInBounds_toArray, List.set_cons_zero, List.set_cons_succ, i64_w, i32_w]
                      rfl
                    refine pure_ (i := 9) (N := some 71) (v := ?_) (a' := ?_) #[true, true, true, true, true, true, true, true, true, true] rfl rfl (any_of HT_.out (by kernel_rfl)) (fun _ _ _ h => h) (Or.inl ⟨by rfl, ?_⟩) ?_ ?_
                    rotate_left
                    · intro w'
                      go_simp
                      with_reducible rfl
                    rotate_left
                    · simp only [Act.put, List.setIfInBounds_toArray, List.set_cons_zero, List.set_cons_succ, i64_w, i32_w]
                      rfl
                    refine done_ (done_of HT_.out (by kernel_rfl)) ?_
                    try go_wp2
                    go_ret
                    exact ⟨by first | rfl | (simp [errW_none, errW_some] <;> rfl) | (simp [*, errW_none, errW_some] <;> rfl), by repeat (first | (with_reducible first | exact HB.out | apply below_alloc | apply pw_below_drewN | apply below_drew1 | refine below_set ?_ GE286.out | refine below_set ?_ GE292.out) | exact HB.out)⟩
                · rw [if_neg c39] at H
                  exact absurd H (by simp)
              · rw [if_neg c38] at H
                have c38b0 : decide (x14_2 < (t287.length : Int)) = false := decide_eq_false c38
                clear c38
                have HC48 := Aside0.mk H
                clear H
                obtain ⟨Ao49, co49, eo49⟩ := Kd.R_slice HO_12.out
                subst eo49
                go_upto_region 12 with (fail)
                go_cut [81] (fun v81 wc => ∃ (kq : Nat) (x81_47 : Bool), v81 = .bool x81_47 ∧ Aside0 (changeforgelaw6_WorkersMatchSpec.j2 kq a0 a1 a2 l3 a4 x81_47 t284 t285 = some r) ∧ Aside0 (kq ≤ k2) ∧ Aside0 (wc.heap[gb286]? = some (.cells #[.int .i64 t284, .int .i64 t285] 25 (0, 0))) ∧ Aside0 (wc.heap[gb292]? = some (.cells #[.int .i64 t290, .int .i64 t291] 25 (0, 0))) ∧ Aside0 (Below w.heap.size w wc))
                case first =>
                  have H := HC48.out
                  clear HC48
                  by_cases c50 : t284 = 0
                  · rw [if_pos c50] at H
                    have c50b0 : (t284 == 0) = true := beq_iff_eq.mpr c50
                    have c50b1 : (t284 != 0) = false := bne_eq_false_iff_eq.mpr c50
                    clear c50
                    (first | rw [c50b0] | (simp only [i64_w, i32_w]; rw [c50b0]) | skip)
                    replace H := Option.bind_eq_some_iff.mp H
                    obtain ⟨t295, A510, H⟩ := H
                    replace H : (changeforgelaw6_WorkersMatchSpec.j2 k2 a0 a1 a2 l3 a4 (!t295) t284 t285) = some r := H
                    have A51 := Aside0.mk A510
                    clear A510
                    have H' := Aside0.mk H
                    clear H
                    have hnb52 := NB286_292.out
                    have hnc52 := NB292_286.out
                    have hcz53_0 : wr.cell? ⟨gb286, 0, none⟩ = some (.int .i64 t284) := (blk_cell BK286.out 0).trans rfl
                    have hcz53_1 : wr.cell? ⟨gb286, 1, none⟩ = some (.int .i64 t285) := (blk_cell BK286.out 1).trans rfl
                    have hfz53_0 := blk_frozen BK286.out 0
                    have hfz53_1 := blk_frozen BK286.out 1
                    go_wp2_with (first | (go_at_call 13; (with_reducible refine (changeforgelaw6_in.calls a4 0 (wrap64 (a0 - 1)) t295 _ A51.out).mono ?_); rintro e w' ⟨rfl, ⟨nd, rfl⟩⟩))
                    go_meet
                    case rel => exact ⟨_, (!t295), (by first | rfl | (simp; done) | (simp [*]; done)), H', ⟨by have := HJ9.out; have := HK2.out; first | omega | exact Nat.le_refl _⟩, ⟨by (with_reducible repeat (first | refine blk_drewN ?_ _ | refine blk_drew ?_ | refine blk_alloc ?_ _)); exact BK286.out⟩, ⟨by (with_reducible repeat (first | refine blk_drewN ?_ _ | refine blk_drew ?_ | refine blk_alloc ?_ _)); exact BK292.out⟩, ⟨by repeat (first | (with_reducible first | exact HB.out | apply below_alloc | apply pw_below_drewN | apply below_drew1 | refine below_set ?_ GE286.out | refine below_set ?_ GE292.out) | exact HB.out)⟩⟩
                  · rw [if_neg c50] at H
                    have c50b0 : (t284 == 0) = false := beq_eq_false_iff_ne.mpr c50
                    have c50b1 : (t284 != 0) = true := bne_iff_ne.mpr c50
                    (first | rw [c50b0] | (simp only [i64_w, i32_w]; rw [c50b0]) | skip)
                    have H' := Aside0.mk H
                    clear H
                    have hnb54 := NB286_292.out
                    have hnc54 := NB292_286.out
                    have hcz55_0 : wr.cell? ⟨gb286, 0, none⟩ = some (.int .i64 t284) := (blk_cell BK286.out 0).trans rfl
                    have hcz55_1 : wr.cell? ⟨gb286, 1, none⟩ = some (.int .i64 t285) := (blk_cell BK286.out 1).trans rfl
                    have hfz55_0 := blk_frozen BK286.out 0
                    have hfz55_1 := blk_frozen BK286.out 1
                    go_wp2
                    go_meet
                    case rel => exact ⟨_, (false), (by first | rfl | (simp; done) | (simp [*]; done)), H', ⟨by have := HJ9.out; have := HK2.out; first | omega | exact Nat.le_refl _⟩, ⟨by (with_reducible repeat (first | refine blk_drewN ?_ _ | refine blk_drew ?_ | refine blk_alloc ?_ _)); exact BK286.out⟩, ⟨by (with_reducible repeat (first | refine blk_drewN ?_ _ | refine blk_drew ?_ | refine blk_alloc ?_ _)); exact BK292.out⟩, ⟨by repeat (first | (with_reducible first | exact HB.out | apply below_alloc | apply pw_below_drewN | apply below_drew1 | refine below_set ?_ GE286.out | refine below_set ?_ GE292.out) | exact HB.out)⟩⟩
                case rest =>
                  clear HC48
                  try clear c1
                  try clear c2
                  try clear p2
                  try clear q2
                  try clear hx2
                  try clear c3
                  try clear c4
                  try clear c5
                  try clear p6
                  try clear c7
                  try clear c9
                  try clear c10
                  try clear c11
                  try clear c12
                  try clear c17
                  try clear c19
                  try clear c19b0
                  try clear c20
                  try clear c23
                  try clear c23b0
                  try clear c23b1
                  try clear c24
                  try clear c28
                  try clear c28b0
                  try clear c28b1
                  try clear c29
                  try clear p29
                  try clear q29
                  try clear hx29
                  try clear c33
                  try clear c37
                  try clear c38
                  try clear c38b0
                  try clear c39
                  try clear c39b0
                  try clear c41
                  try clear c41b0
                  try clear c41b1
                  try clear c50
                  try clear c50b0
                  try clear c50b1
                  try clear c52
                  try clear c54
                  try clear hcz14_0
                  try clear hcz14_1
                  try clear hcz18_0
                  try clear hcz18_1
                  try clear hcz21_0
                  try clear hcz21_1
                  try clear hcz22_0
                  try clear hcz22_1
                  try clear hcz25_0
                  try clear hcz25_1
                  try clear hcz26_0
                  try clear hcz26_1
                  try clear hcz30_0
                  try clear hcz30_1
                  try clear hcz31_0
                  try clear hcz31_1
                  try clear hcz34_0
                  try clear hcz34_1
                  try clear hcz35_0
                  try clear hcz35_1
                  try clear hcz53_0
                  try clear hcz53_1
                  try clear hcz55_0
                  try clear hcz55_1
                  try clear hfz14_0
                  try clear hfz14_1
                  try clear hfz18_0
                  try clear hfz18_1
                  try clear hfz21_0
                  try clear hfz21_1
                  try clear hfz22_0
                  try clear hfz22_1
                  try clear hfz25_0
                  try clear hfz25_1
                  try clear hfz26_0
                  try clear hfz26_1
                  try clear hfz30_0
                  try clear hfz30_1
                  try clear hfz31_0
                  try clear hfz31_1
                  try clear hfz34_0
                  try clear hfz34_1
                  try clear hfz35_0
                  try clear hfz35_1
                  try clear hfz53_0
                  try clear hfz53_1
                  try clear hfz55_0
                  try clear hfz55_1
                  try clear hx293_0
                  try clear p2
                  try clear p293
                  try clear q293
                  obtain ⟨kq, x81_47, rfl, HA, HJ47, BK286, BK292, HB⟩ := hcut
                  cases kq with
                  | zero => exact absurd HA.out (by simp [changeforgelaw6_WorkersMatchSpec.j2])
                  | succ kj47 =>
                    have H := HA.out
                    clear HA
                    simp only [changeforgelaw6_WorkersMatchSpec.j2] at H
                    have HC56 := Aside0.mk H
                    clear H
                    go_upto_if 81 with (fail)
                    go_cut [] (fun wc => ∃ (kq : Nat) (x287000_55 : Int) (x287001_55 : Int), Aside0 (changeforgelaw6_WorkersMatchSpec.j3 kq a0 a1 a2 l3 a4 x287000_55 x287001_55 = some r) ∧ Aside0 (kq ≤ kj47) ∧ Aside0 (wc.heap[gb286]? = some (.cells #[.int .i64 x287000_55, .int .i64 x287001_55] 25 (0, 0))) ∧ Aside0 (wc.heap[gb292]? = some (.cells #[.int .i64 t290, .int .i64 t291] 25 (0, 0))) ∧ Aside0 (Below w.heap.size w wc))
                    case first =>
                      have H := HC56.out
                      clear HC56
                      by_cases c57 : x81_47 = true
                      · subst c57
                        have H1 : ((changeforgelaw6_fault.f 3 (-2)).bind fun bt296 => (changeforgelaw6_WorkersMatchSpec.j3 kj47 a0 a1 a2 l3 a4 bt296.1 bt296.2)) = some r := by rw [if_pos rfl] at H; exact H
                        clear H
                        have H := H1
                        clear H1
                        replace H := Option.bind_eq_some_iff.mp H
                        obtain ⟨⟨t296, t297⟩, A580, H⟩ := H
                        replace H : (changeforgelaw6_WorkersMatchSpec.j3 kj47 a0 a1 a2 l3 a4 t296 t297) = some r := H
                        have A58 := Aside0.mk A580
                        clear A580
                        have H' := Aside0.mk H
                        clear H
                        go_wp2_with (first | ((with_reducible refine gate_callee (f := 14) rfl ?_); refine goesL_ (some 82) rfl rfl Try.func14 (by kernel_rfl) rfl #[.int .i64 3, .int .i64 (-2)] rfl (by (try simp only [List.map_toArray, List.map_cons, List.map_nil]); first | done | rfl | (simp only [List.length_drop, List.length_take]; rfl)) ?_; (with_reducible refine (changeforgelaw6_fault.calls 3 (-2) t296 t297 _ A58.out).mono ?_); rintro e w59 ⟨rfl, hb⟩; refine ⟨_, rfl, ?_⟩; have n0_ := Aside0.mk (blk_below (g := gb286) (o := .cells #[.int .i64 t284, .int .i64 t285] 25 (0, 0)) (by (with_reducible repeat (first | refine blk_drewN ?_ _ | refine blk_drew ?_ | refine blk_alloc ?_ _)); exact BK286.out) hb); have n1_ := Aside0.mk (blk_below (g := gb292) (o := .cells #[.int .i64 t290, .int .i64 t291] 25 (0, 0)) (by (with_reducible repeat (first | refine blk_drewN ?_ _ | refine blk_drew ?_ | refine blk_alloc ?_ _)); exact BK292.out) hb); have n2_ := Aside0.mk (below_step (by repeat (first | (with_reducible first | exact HB.out | apply below_alloc | apply pw_below_drewN | apply below_drew1 | refine below_set ?_ GE286.out | refine below_set ?_ GE292.out) | exact HB.out)) hb); clear BK286; clear BK292; clear HB; have BK286 := n0_; have BK292 := n1_; have HB := n2_; clear n0_ n1_ n2_; (try clear hb); (try clear hb2); (try clear hk); (try clear hi); have hnb60 := NB286_292.out; have hnc60 := NB292_286.out; have hcz61_0 : w59.cell? ⟨gb286, 0, none⟩ = some (.int .i64 t284) := (blk_cell BK286.out 0).trans rfl; have hcz61_1 : w59.cell? ⟨gb286, 1, none⟩ = some (.int .i64 t285) := (blk_cell BK286.out 1).trans rfl; have hfz61_0 := blk_frozen BK286.out 0; have hfz61_1 := blk_frozen BK286.out 1))
                        go_meet
                        case rel => exact ⟨_, (t296), (t297), H', ⟨by have := HJ9.out; have := HK2.out; have := HJ47.out; first | omega | exact Nat.le_refl _⟩, ⟨by (with_reducible repeat (first | refine blk_drewN ?_ _ | refine blk_drew ?_ | refine blk_alloc ?_ _)); refine blk_put (cs := #[.int .i64 t296, .int .i64 t285]) ?_ 1 _ rfl; (with_reducible repeat (first | refine blk_drewN ?_ _ | refine blk_drew ?_ | refine blk_alloc ?_ _)); refine blk_put (cs := #[.int .i64 t284, .int .i64 t285]) ?_ 0 _ rfl; (with_reducible repeat (first | refine blk_drewN ?_ _ | refine blk_drew ?_ | refine blk_alloc ?_ _)); exact BK286.out⟩, ⟨by (with_reducible repeat (first | refine blk_drewN ?_ _ | refine blk_drew ?_ | refine blk_alloc ?_ _)); refine blk_far ?_ NB292_286.out _; (with_reducible repeat (first | refine blk_drewN ?_ _ | refine blk_drew ?_ | refine blk_alloc ?_ _)); refine blk_far ?_ NB292_286.out _; (with_reducible repeat (first | refine blk_drewN ?_ _ | refine blk_drew ?_ | refine blk_alloc ?_ _)); exact BK292.out⟩, ⟨by repeat (first | (with_reducible first | exact HB.out | apply below_alloc | apply pw_below_drewN | apply below_drew1 | refine below_set ?_ GE286.out | refine below_set ?_ GE292.out) | exact HB.out)⟩⟩
                      · replace c57 := Bool.eq_false_iff.mpr c57
                        subst c57
                        have H1 : (changeforgelaw6_WorkersMatchSpec.j3 kj47 a0 a1 a2 l3 a4 t284 t285) = some r := by rw [if_neg (show ¬ (false = true) by decide)] at H; exact H
                        clear H
                        have H := H1
                        clear H1
                        have H' := Aside0.mk H
                        clear H
                        go_wp2
                        go_meet
                        case rel => exact ⟨_, (t284), (t285), H', ⟨by have := HJ9.out; have := HK2.out; have := HJ47.out; first | omega | exact Nat.le_refl _⟩, ⟨by (with_reducible repeat (first | refine blk_drewN ?_ _ | refine blk_drew ?_ | refine blk_alloc ?_ _)); exact BK286.out⟩, ⟨by (with_reducible repeat (first | refine blk_drewN ?_ _ | refine blk_drew ?_ | refine blk_alloc ?_ _)); exact BK292.out⟩, ⟨by repeat (first | (with_reducible first | exact HB.out | apply below_alloc | apply pw_below_drewN | apply below_drew1 | refine below_set ?_ GE286.out | refine below_set ?_ GE292.out) | exact HB.out)⟩⟩
                    case rest =>
                      clear HC56
                      try clear c1
                      try clear c2
                      try clear p2
                      try clear q2
                      try clear hx2
                      try clear c3
                      try clear c4
                      try clear c5
                      try clear c6
                      try clear p6
                      try clear c7
                      try clear c9
                      try clear c10
                      try clear c11
                      try clear c12
                      try clear c14
                      try clear c17
                      try clear c19
                      try clear c19b0
                      try clear c20
                      try clear c23
                      try clear c23b0
                      try clear c23b1
                      try clear c24
                      try clear c28
                      try clear c28b0
                      try clear c28b1
                      try clear c29
                      try clear p29
                      try clear q29
                      try clear hx29
                      try clear c33
                      try clear c37
                      try clear c38
                      try clear c38b0
                      try clear c39
                      try clear c39b0
                      try clear c41
                      try clear c41b0
                      try clear c41b1
                      try clear c50
                      try clear c50b0
                      try clear c50b1
                      try clear c52
                      try clear c54
                      try clear c57
                      try clear c60
                      try clear hcz14_0
                      try clear hcz14_1
                      try clear hcz18_0
                      try clear hcz18_1
                      try clear hcz21_0
                      try clear hcz21_1
                      try clear hcz22_0
                      try clear hcz22_1
                      try clear hcz25_0
                      try clear hcz25_1
                      try clear hcz26_0
                      try clear hcz26_1
                      try clear hcz30_0
                      try clear hcz30_1
                      try clear hcz31_0
                      try clear hcz31_1
                      try clear hcz34_0
                      try clear hcz34_1
                      try clear hcz35_0
                      try clear hcz35_1
                      try clear hcz53_0
                      try clear hcz53_1
                      try clear hcz55_0
                      try clear hcz55_1
                      try clear hcz61_0
                      try clear hcz61_1
                      try clear hfz14_0
                      try clear hfz14_1
                      try clear hfz18_0
                      try clear hfz18_1
                      try clear hfz21_0
                      try clear hfz21_1
                      try clear hfz22_0
                      try clear hfz22_1
                      try clear hfz25_0
                      try clear hfz25_1
                      try clear hfz26_0
                      try clear hfz26_1
                      try clear hfz30_0
                      try clear hfz30_1
                      try clear hfz31_0
                      try clear hfz31_1
                      try clear hfz34_0
                      try clear hfz34_1
                      try clear hfz35_0
                      try clear hfz35_1
                      try clear hfz53_0
                      try clear hfz53_1
                      try clear hfz55_0
                      try clear hfz55_1
                      try clear hfz61_0
                      try clear hfz61_1
                      try clear hx293_0
                      try clear p2
                      try clear p29
                      try clear p293
                      try clear p6
                      try clear q2
                      try clear q29
                      try clear q293
                      obtain ⟨kq, x287000_55, x287001_55, HA, HJ55, BK286, BK292, HB⟩ := hcut
                      cases kq with
                      | zero => exact absurd HA.out (by simp [changeforgelaw6_WorkersMatchSpec.j3])
                      | succ kj55 =>
                        have H := HA.out
                        clear HA
                        simp only [changeforgelaw6_WorkersMatchSpec.j3] at H
                        replace H := Option.bind_eq_some_iff.mp H
                        obtain ⟨⟨t298, t301, t302⟩, A620, H⟩ := H
                        replace H : (if (!(t301 == x287000_55) || (!(t302 == x287001_55))) = true then (changeforgelaw6_WorkersMatchSpec.j4 kj55 a1 l3 a4 t298 true x287000_55 x287001_55 t301 t302) else (changeforgelaw6_WorkersMatchSpec.j4 kj55 a1 l3 a4 t298 (x287000_55 != 0) x287000_55 x287001_55 t301 t302)) = some r := H
                        have A62 := Aside0.mk A620
                        clear A620
                        have HC63 := Aside0.mk H
                        clear H
                        go_upto_region 15 with (first | ((with_reducible refine gate_callee (f := 15) rfl ?_); refine goesL_ (some 89) rfl rfl Try.func15 (by kernel_rfl) rfl #[.int .i64 a0, .int .i64 a1, .int .i64 a2, .slice A3 l3.length c3, .int .i64 a4] rfl (by (try simp only [List.map_toArray, List.map_cons, List.map_nil]); first | done | rfl | (simp only [List.length_drop, List.length_take]; rfl)) ?_; (with_reducible refine (workers_Reports.calls a0 a1 a2 _ _ l3 a4 t298 t301 t302 _ ?side1 ?side2 A62.out).mono ?_); (case side1 => repeat (first | exact (Kd.C_below HR3.out HB.out) | (with_reducible refine Kd.C_alloc ?_ _) | (with_reducible refine Kd.C_drewN ?_ _) | (with_reducible refine Kd.C_drew ?_))); (case side2 => exact HC3.out); rintro e w64 ⟨v299, rfl, ho0, hb⟩; refine ⟨_, rfl, ?_⟩; have n0_ := Aside0.mk (Kd.R_lower ho0 (below_size (by repeat (first | (with_reducible first | exact HB.out | apply below_alloc | apply pw_below_drewN | apply below_drew1 | refine below_set ?_ GE286.out | refine below_set ?_ GE292.out) | exact HB.out)))); have n1_ := Aside0.mk (blk_below (g := gb286) (o := .cells #[.int .i64 x287000_55, .int .i64 x287001_55] 25 (0, 0)) (by (with_reducible repeat (first | refine blk_drewN ?_ _ | refine blk_drew ?_ | refine blk_alloc ?_ _)); exact BK286.out) hb); have n2_ := Aside0.mk (blk_below (g := gb292) (o := .cells #[.int .i64 t290, .int .i64 t291] 25 (0, 0)) (by (with_reducible repeat (first | refine blk_drewN ?_ _ | refine blk_drew ?_ | refine blk_alloc ?_ _)); exact BK292.out) hb); have n3_ := Aside0.mk (below_step (by repeat (first | (with_reducible first | exact HB.out | apply below_alloc | apply pw_below_drewN | apply below_drew1 | refine below_set ?_ GE286.out | refine below_set ?_ GE292.out) | exact HB.out)) hb); clear BK286; clear BK292; clear HB; have HO300 := n0_; have BK286 := n1_; have BK292 := n2_; have HB := n3_; clear n0_ n1_ n2_ n3_; (try clear hb); (try clear hb2); (try clear hk); (try clear hi); (try clear ho0); have hnb65 := NB292_286.out; have hnc65 := NB286_292.out; have hcz66_0 : w64.cell? ⟨gb292, 0, none⟩ = some (.int .i64 t290) := (blk_cell BK292.out 0).trans rfl; have hcz66_1 : w64.cell? ⟨gb292, 1, none⟩ = some (.int .i64 t291) := (blk_cell BK292.out 1).trans rfl; have hfz66_0 := blk_frozen BK292.out 0; have hfz66_1 := blk_frozen BK292.out 1))
                        (try simp only [Act.put, List.setIfInBounds_toArray, List.set_cons_zero, List.set_cons_succ])
                        go_cut [99] (fun v99 wc => ∃ (kq : Nat) (x99_62 : Bool), v99 = .bool x99_62 ∧ Aside0 (changeforgelaw6_WorkersMatchSpec.j4 kq a1 l3 a4 t298 x99_62 x287000_55 x287001_55 t301 t302 = some r) ∧ Aside0 (kq ≤ kj55) ∧ Aside0 (Kd.R (Kd.int .i64) 3 wc w.heap.size (fun _ => True) v299 t298) ∧ Aside0 (wc.heap[gb286]? = some (.cells #[.int .i64 x287000_55, .int .i64 x287001_55] 25 (0, 0))) ∧ Aside0 (wc.heap[gb292]? = some (.cells #[.int .i64 t301, .int .i64 t302] 25 (0, 0))) ∧ Aside0 (Below w.heap.size w wc))
                        case first =>
                          have H := HC63.out
                          clear HC63
                          by_cases c67 : (!(t301 == x287000_55) || (!(t302 == x287001_55))) = true
                          · rw [if_pos c67] at H
                            have c67b0 : (!(t301 == x287000_55) || (!(t302 == x287001_55))) = true := c67
                            clear c67
                            (first | rw [c67b0] | (simp only [i64_w, i32_w]; rw [c67b0]) | skip)
                            have H' := Aside0.mk H
                            clear H
                            have hnb68 := NB292_286.out
                            have hnc68 := NB286_292.out
                            have hcz69_0 : w64.cell? ⟨gb292, 0, none⟩ = some (.int .i64 t290) := (blk_cell BK292.out 0).trans rfl
                            have hcz69_1 : w64.cell? ⟨gb292, 1, none⟩ = some (.int .i64 t291) := (blk_cell BK292.out 1).trans rfl
                            have hfz69_0 := blk_frozen BK292.out 0
                            have hfz69_1 := blk_frozen BK292.out 1
                            have hcz70_0 : w64.cell? ⟨gb286, 0, none⟩ = some (.int .i64 x287000_55) := (blk_cell BK286.out 0).trans rfl
                            have hcz70_1 : w64.cell? ⟨gb286, 1, none⟩ = some (.int .i64 x287001_55) := (blk_cell BK286.out 1).trans rfl
                            have hfz70_0 := blk_frozen BK286.out 0
                            have hfz70_1 := blk_frozen BK286.out 1
                            go_wp2
                            go_meet
                            case rel => exact ⟨_, (true), (by first | rfl | (simp; done) | (simp [*]; done)), H', ⟨by have := HJ9.out; have := HK2.out; have := HJ47.out; have := HJ55.out; first | omega | exact Nat.le_refl _⟩, ⟨by (with_reducible repeat (first | apply Kd.R_alloc | apply Kd.R_drewN | apply Kd.R_drew)); exact Kd.R_mono (Kd.R_far (p := ⟨gb292, 1, none⟩) (Kd.R_far (p := ⟨gb292, 0, none⟩) (Kd.R_types HO300.out BK292.out (by decide)) (fun _ hk => hk.2) (.int .i64 t301)) (fun _ hk => hk.2) (.int .i64 t302)) (fun _ hk => trivial)⟩, ⟨by (with_reducible repeat (first | refine blk_drewN ?_ _ | refine blk_drew ?_ | refine blk_alloc ?_ _)); refine blk_far ?_ NB286_292.out _; (with_reducible repeat (first | refine blk_drewN ?_ _ | refine blk_drew ?_ | refine blk_alloc ?_ _)); refine blk_far ?_ NB286_292.out _; (with_reducible repeat (first | refine blk_drewN ?_ _ | refine blk_drew ?_ | refine blk_alloc ?_ _)); exact BK286.out⟩, ⟨by (with_reducible repeat (first | refine blk_drewN ?_ _ | refine blk_drew ?_ | refine blk_alloc ?_ _)); refine blk_put (cs := #[.int .i64 t301, .int .i64 t291]) ?_ 1 _ rfl; (with_reducible repeat (first | refine blk_drewN ?_ _ | refine blk_drew ?_ | refine blk_alloc ?_ _)); refine blk_put (cs := #[.int .i64 t290, .int .i64 t291]) ?_ 0 _ rfl; (with_reducible repeat (first | refine blk_drewN ?_ _ | refine blk_drew ?_ | refine blk_alloc ?_ _)); exact BK292.out⟩, ⟨by repeat (first | (with_reducible first | exact HB.out | apply below_alloc | apply pw_below_drewN | apply below_drew1 | refine below_set ?_ GE286.out | refine below_set ?_ GE292.out) | exact HB.out)⟩⟩
                          · rw [if_neg c67] at H
                            have c67b0 : (!(t301 == x287000_55) || (!(t302 == x287001_55))) = false := by simpa using c67
                            clear c67
                            (first | rw [c67b0] | (simp only [i64_w, i32_w]; rw [c67b0]) | skip)
                            have H' := Aside0.mk H
                            clear H
                            have hnb71 := NB292_286.out
                            have hnc71 := NB286_292.out
                            have hcz72_0 : w64.cell? ⟨gb292, 0, none⟩ = some (.int .i64 t290) := (blk_cell BK292.out 0).trans rfl
                            have hcz72_1 : w64.cell? ⟨gb292, 1, none⟩ = some (.int .i64 t291) := (blk_cell BK292.out 1).trans rfl
                            have hfz72_0 := blk_frozen BK292.out 0
                            have hfz72_1 := blk_frozen BK292.out 1
                            have hcz73_0 : w64.cell? ⟨gb286, 0, none⟩ = some (.int .i64 x287000_55) := (blk_cell BK286.out 0).trans rfl
                            have hcz73_1 : w64.cell? ⟨gb286, 1, none⟩ = some (.int .i64 x287001_55) := (blk_cell BK286.out 1).trans rfl
                            have hfz73_0 := blk_frozen BK286.out 0
                            have hfz73_1 := blk_frozen BK286.out 1
                            go_wp2
                            go_meet
                            case rel => exact ⟨_, ((x287000_55 != 0)), (by first | rfl | (simp; done) | (simp [*]; done)), H', ⟨by have := HJ9.out; have := HK2.out; have := HJ47.out; have := HJ55.out; first | omega | exact Nat.le_refl _⟩, ⟨by (with_reducible repeat (first | apply Kd.R_alloc | apply Kd.R_drewN | apply Kd.R_drew)); exact Kd.R_mono (Kd.R_far (p := ⟨gb292, 1, none⟩) (Kd.R_far (p := ⟨gb292, 0, none⟩) (Kd.R_types HO300.out BK292.out (by decide)) (fun _ hk => hk.2) (.int .i64 t301)) (fun _ hk => hk.2) (.int .i64 t302)) (fun _ hk => trivial)⟩, ⟨by (with_reducible repeat (first | refine blk_drewN ?_ _ | refine blk_drew ?_ | refine blk_alloc ?_ _)); refine blk_far ?_ NB286_292.out _; (with_reducible repeat (first | refine blk_drewN ?_ _ | refine blk_drew ?_ | refine blk_alloc ?_ _)); refine blk_far ?_ NB286_292.out _; (with_reducible repeat (first | refine blk_drewN ?_ _ | refine blk_drew ?_ | refine blk_alloc ?_ _)); exact BK286.out⟩, ⟨by (with_reducible repeat (first | refine blk_drewN ?_ _ | refine blk_drew ?_ | refine blk_alloc ?_ _)); refine blk_put (cs := #[.int .i64 t301, .int .i64 t291]) ?_ 1 _ rfl; (with_reducible repeat (first | refine blk_drewN ?_ _ | refine blk_drew ?_ | refine blk_alloc ?_ _)); refine blk_put (cs := #[.int .i64 t290, .int .i64 t291]) ?_ 0 _ rfl; (with_reducible repeat (first | refine blk_drewN ?_ _ | refine blk_drew ?_ | refine blk_alloc ?_ _)); exact BK292.out⟩, ⟨by repeat (first | (with_reducible first | exact HB.out | apply below_alloc | apply pw_below_drewN | apply below_drew1 | refine below_set ?_ GE286.out | refine below_set ?_ GE292.out) | exact HB.out)⟩⟩
                        case rest =>
                          clear HC63
                          try clear c1
                          try clear c2
                          try clear p2
                          try clear q2
                          try clear hx2
                          try clear c3
                          try clear c4
                          try clear c5
                          try clear c6
                          try clear p6
                          try clear c7
                          try clear c9
                          try clear c10
                          try clear c11
                          try clear c12
                          try clear c14
                          try clear c15
                          try clear c17
                          try clear c19
                          try clear c19b0
                          try clear c20
                          try clear c23
                          try clear c23b0
                          try clear c23b1
                          try clear c24
                          try clear c28
                          try clear c28b0
                          try clear c28b1
                          try clear c29
                          try clear p29
                          try clear q29
                          try clear hx29
                          try clear c33
                          try clear c37
                          try clear c38
                          try clear c38b0
                          try clear c39
                          try clear c39b0
                          try clear c41
                          try clear c41b0
                          try clear c41b1
                          try clear c50
                          try clear c50b0
                          try clear c50b1
                          try clear c52
                          try clear c54
                          try clear c57
                          try clear c60
                          try clear p64
                          try clear c65
                          try clear c67
                          try clear c67b0
                          try clear c68
                          try clear c71
                          try clear hcz14_0
                          try clear hcz14_1
                          try clear hcz18_0
                          try clear hcz18_1
                          try clear hcz21_0
                          try clear hcz21_1
                          try clear hcz22_0
                          try clear hcz22_1
                          try clear hcz25_0
                          try clear hcz25_1
                          try clear hcz26_0
                          try clear hcz26_1
                          try clear hcz30_0
                          try clear hcz30_1
                          try clear hcz31_0
                          try clear hcz31_1
                          try clear hcz34_0
                          try clear hcz34_1
                          try clear hcz35_0
                          try clear hcz35_1
                          try clear hcz53_0
                          try clear hcz53_1
                          try clear hcz55_0
                          try clear hcz55_1
                          try clear hcz61_0
                          try clear hcz61_1
                          try clear hcz66_0
                          try clear hcz66_1
                          try clear hcz69_0
                          try clear hcz69_1
                          try clear hcz70_0
                          try clear hcz70_1
                          try clear hcz72_0
                          try clear hcz72_1
                          try clear hcz73_0
                          try clear hcz73_1
                          try clear hfz14_0
                          try clear hfz14_1
                          try clear hfz18_0
                          try clear hfz18_1
                          try clear hfz21_0
                          try clear hfz21_1
                          try clear hfz22_0
                          try clear hfz22_1
                          try clear hfz25_0
                          try clear hfz25_1
                          try clear hfz26_0
                          try clear hfz26_1
                          try clear hfz30_0
                          try clear hfz30_1
                          try clear hfz31_0
                          try clear hfz31_1
                          try clear hfz34_0
                          try clear hfz34_1
                          try clear hfz35_0
                          try clear hfz35_1
                          try clear hfz53_0
                          try clear hfz53_1
                          try clear hfz55_0
                          try clear hfz55_1
                          try clear hfz61_0
                          try clear hfz61_1
                          try clear hfz66_0
                          try clear hfz66_1
                          try clear hfz69_0
                          try clear hfz69_1
                          try clear hfz70_0
                          try clear hfz70_1
                          try clear hfz72_0
                          try clear hfz72_1
                          try clear hfz73_0
                          try clear hfz73_1
                          try clear hx293_0
                          try clear p2
                          try clear p29
                          try clear p293
                          try clear p6
                          try clear q2
                          try clear q29
                          try clear q293
                          obtain ⟨kq, x99_62, rfl, HA, HJ62, HO_15, BK286, BK292, HB⟩ := hcut
                          cases kq with
                          | zero => exact absurd HA.out (by simp [changeforgelaw6_WorkersMatchSpec.j4])
                          | succ kj62 =>
                            have H := HA.out
                            clear HA
                            simp only [changeforgelaw6_WorkersMatchSpec.j4] at H
                            by_cases c74 : x99_62 = true
                            · subst c74
                              have H1 : (if (t301 == x287000_55 && (t302 == x287001_55)) = true then (some ((t298.length : Int) == 0)) else (some false)) = some r := by rw [if_pos rfl] at H; exact H
                              clear H
                              have H := H1
                              clear H1
                              by_cases c75 : (t301 == x287000_55 && (t302 == x287001_55)) = true
                              · rw [if_pos c75] at H
                                have c75b0 : (t301 == x287000_55 && (t302 == x287001_55)) = true := c75
                                (try (have c75b1 : decide (t301 = x287000_55 && (t302 == x287001_55)) = true := by simpa using c75))
                                (try (have c75b2 : (t301 == x287000_55 && (t302 == x287001_55)) = true := by simpa using c75))
                                clear c75
                                obtain rfl := Option.some.inj H
                                have hnb76 := NB292_286.out
                                have hnc76 := NB286_292.out
                                have hcz77_0 : wc.cell? ⟨gb292, 0, none⟩ = some (.int .i64 t301) := (blk_cell BK292.out 0).trans rfl
                                have hcz77_1 : wc.cell? ⟨gb292, 1, none⟩ = some (.int .i64 t302) := (blk_cell BK292.out 1).trans rfl
                                have hfz77_0 := blk_frozen BK292.out 0
                                have hfz77_1 := blk_frozen BK292.out 1
                                have hcz78_0 : wc.cell? ⟨gb286, 0, none⟩ = some (.int .i64 x287000_55) := (blk_cell BK286.out 0).trans rfl
                                have hcz78_1 : wc.cell? ⟨gb286, 1, none⟩ = some (.int .i64 x287001_55) := (blk_cell BK286.out 1).trans rfl
                                have hfz78_0 := blk_frozen BK286.out 0
                                have hfz78_1 := blk_frozen BK286.out 1
                                obtain ⟨Ao79, co79, eo79⟩ := Kd.R_slice HO_15.out
                                subst eo79
                                go_wp2
                                go_ret
                                exact ⟨by first | rfl | (simp [errW_none, errW_some] <;> rfl) | (simp [*, errW_none, errW_some] <;> rfl), by repeat (first | (with_reducible first | exact HB.out | apply below_alloc | apply pw_below_drewN | apply below_drew1 | refine below_set ?_ GE286.out | refine below_set ?_ GE292.out) | exact HB.out)⟩
                              · rw [if_neg c75] at H
                                have c75b0 : (t301 == x287000_55 && (t302 == x287001_55)) = false := by simpa using c75
                                (try (have c75b1 : decide (t301 = x287000_55 && (t302 == x287001_55)) = false := by simpa using c75))
                                (try (have c75b2 : (t301 == x287000_55 && (t302 == x287001_55)) = false := by simpa using c75))
                                (try (have c75b3 : ¬ (t301 = x287000_55 && (t302 == x287001_55)) := by simpa using c75))
                                clear c75
                                obtain rfl := Option.some.inj H
                                have hnb80 := NB292_286.out
                                have hnc80 := NB286_292.out
                                have hcz81_0 : wc.cell? ⟨gb292, 0, none⟩ = some (.int .i64 t301) := (blk_cell BK292.out 0).trans rfl
                                have hcz81_1 : wc.cell? ⟨gb292, 1, none⟩ = some (.int .i64 t302) := (blk_cell BK292.out 1).trans rfl
                                have hfz81_0 := blk_frozen BK292.out 0
                                have hfz81_1 := blk_frozen BK292.out 1
                                have hcz82_0 : wc.cell? ⟨gb286, 0, none⟩ = some (.int .i64 x287000_55) := (blk_cell BK286.out 0).trans rfl
                                have hcz82_1 : wc.cell? ⟨gb286, 1, none⟩ = some (.int .i64 x287001_55) := (blk_cell BK286.out 1).trans rfl
                                have hfz82_0 := blk_frozen BK286.out 0
                                have hfz82_1 := blk_frozen BK286.out 1
                                go_wp2
                                go_ret
                                exact ⟨by first | rfl | (simp [errW_none, errW_some] <;> rfl) | (simp [*, errW_none, errW_some] <;> rfl), by repeat (first | (with_reducible first | exact HB.out | apply below_alloc | apply pw_below_drewN | apply below_drew1 | refine below_set ?_ GE286.out | refine below_set ?_ GE292.out) | exact HB.out)⟩
                            · replace c74 := Bool.eq_false_iff.mpr c74
                              subst c74
                              have H1 : (changeforgelaw6_WorkersMatchSpec.l1 kj62 a1 l3 a4 t298 0) = some r := by rw [if_neg (show ¬ (false = true) by decide)] at H; exact H
                              clear H
                              have H := H1
                              clear H1
                              have H' := Aside0.mk H
                              clear H
                              go_wp2
                              go_loopg [16] kj62 (fun kq v16 w' => ∃ (x16_6 : Int), v16 = .int .i64 x16_6 ∧ Aside0 (changeforgelaw6_WorkersMatchSpec.l1 kq a1 l3 a4 t298 x16_6 = some r) ∧ Aside0 (kq ≤ kj62) ∧ Aside0 (Kd.R (Kd.int .i64) 3 w' w.heap.size (fun _ => True) v299 t298) ∧ Aside0 (w'.heap[gb286]? = some (.cells #[.int .i64 x287000_55, .int .i64 x287001_55] 25 (0, 0))) ∧ Aside0 (w'.heap[gb292]? = some (.cells #[.int .i64 t301, .int .i64 t302] 25 (0, 0))) ∧ Aside0 (Below w.heap.size w w'))
                              case atStart => exact ⟨(0), (by first | rfl | (simp; done) | (simp [*]; done)), H', ⟨Nat.le_refl _⟩, ⟨by (with_reducible repeat (first | apply Kd.R_alloc | apply Kd.R_drewN | apply Kd.R_drew)); exact HO_15.out⟩, ⟨by (with_reducible repeat (first | refine blk_drewN ?_ _ | refine blk_drew ?_ | refine blk_alloc ?_ _)); exact BK286.out⟩, ⟨by (with_reducible repeat (first | refine blk_drewN ?_ _ | refine blk_drew ?_ | refine blk_alloc ?_ _)); exact BK292.out⟩, ⟨by repeat (first | (with_reducible first | exact HB.out | apply below_alloc | apply pw_below_drewN | apply below_drew1 | refine below_set ?_ GE286.out | refine below_set ?_ GE292.out) | exact HB.out)⟩⟩
                              case round =>
                                clear H'
                                try clear c1
                                try clear c2
                                try clear p2
                                try clear q2
                                try clear hx2
                                try clear c3
                                try clear c4
                                try clear c5
                                try clear c6
                                try clear p6
                                try clear c7
                                try clear c8
                                try clear c9
                                try clear c10
                                try clear c11
                                try clear c12
                                try clear c14
                                try clear c15
                                try clear c17
                                try clear c19
                                try clear c19b0
                                try clear c20
                                try clear c23
                                try clear c23b0
                                try clear c23b1
                                try clear c24
                                try clear c28
                                try clear c28b0
                                try clear c28b1
                                try clear c29
                                try clear p29
                                try clear q29
                                try clear hx29
                                try clear c33
                                try clear c37
                                try clear c38
                                try clear c38b0
                                try clear c39
                                try clear c39b0
                                try clear c41
                                try clear c41b0
                                try clear c41b1
                                try clear c50
                                try clear c50b0
                                try clear c50b1
                                try clear c52
                                try clear c54
                                try clear c57
                                try clear c60
                                try clear p64
                                try clear c65
                                try clear c67
                                try clear c67b0
                                try clear c68
                                try clear c71
                                try clear c74
                                try clear c75
                                try clear c75b0
                                try clear c75b1
                                try clear c75b2
                                try clear c76
                                try clear c80
                                try clear hcz14_0
                                try clear hcz14_1
                                try clear hcz18_0
                                try clear hcz18_1
                                try clear hcz21_0
                                try clear hcz21_1
                                try clear hcz22_0
                                try clear hcz22_1
                                try clear hcz25_0
                                try clear hcz25_1
                                try clear hcz26_0
                                try clear hcz26_1
                                try clear hcz30_0
                                try clear hcz30_1
                                try clear hcz31_0
                                try clear hcz31_1
                                try clear hcz34_0
                                try clear hcz34_1
                                try clear hcz35_0
                                try clear hcz35_1
                                try clear hcz53_0
                                try clear hcz53_1
                                try clear hcz55_0
                                try clear hcz55_1
                                try clear hcz61_0
                                try clear hcz61_1
                                try clear hcz66_0
                                try clear hcz66_1
                                try clear hcz69_0
                                try clear hcz69_1
                                try clear hcz70_0
                                try clear hcz70_1
                                try clear hcz72_0
                                try clear hcz72_1
                                try clear hcz73_0
                                try clear hcz73_1
                                try clear hcz77_0
                                try clear hcz77_1
                                try clear hcz78_0
                                try clear hcz78_1
                                try clear hcz81_0
                                try clear hcz81_1
                                try clear hcz82_0
                                try clear hcz82_1
                                try clear hfz14_0
                                try clear hfz14_1
                                try clear hfz18_0
                                try clear hfz18_1
                                try clear hfz21_0
                                try clear hfz21_1
                                try clear hfz22_0
                                try clear hfz22_1
                                try clear hfz25_0
                                try clear hfz25_1
                                try clear hfz26_0
                                try clear hfz26_1
                                try clear hfz30_0
                                try clear hfz30_1
                                try clear hfz31_0
                                try clear hfz31_1
                                try clear hfz34_0
                                try clear hfz34_1
                                try clear hfz35_0
                                try clear hfz35_1
                                try clear hfz53_0
                                try clear hfz53_1
                                try clear hfz55_0
                                try clear hfz55_1
                                try clear hfz61_0
                                try clear hfz61_1
                                try clear hfz66_0
                                try clear hfz66_1
                                try clear hfz69_0
                                try clear hfz69_1
                                try clear hfz70_0
                                try clear hfz70_1
                                try clear hfz72_0
                                try clear hfz72_1
                                try clear hfz73_0
                                try clear hfz73_1
                                try clear hfz77_0
                                try clear hfz77_1
                                try clear hfz78_0
                                try clear hfz78_1
                                try clear hfz81_0
                                try clear hfz81_1
                                try clear hfz82_0
                                try clear hfz82_1
                                try clear hx293_0
                                try clear p2
                                try clear p29
                                try clear p293
                                try clear p6
                                try clear p64
                                try clear q2
                                try clear q29
                                try clear q293
                                obtain ⟨x16_6, rfl, HA, HK6, HO_15, BK286, BK292, HB⟩ := hrel
                                cases gk with
                                | zero => exact absurd HA.out (by simp [changeforgelaw6_WorkersMatchSpec.l1])
                                | succ k6 =>
                                  have H := HA.out
                                  clear HA
                                  simp only [changeforgelaw6_WorkersMatchSpec.l1] at H
                                  by_cases c83 : x16_6 < (t298.length : Int)
                                  · rw [if_pos c83] at H
                                    have c83b0 : decide (x16_6 < (t298.length : Int)) = true := decide_eq_true c83
                                    clear c83
                                    by_cases c84 : 0 ≤ x16_6
                                    · rw [if_pos c84] at H
                                      have c84b0 : decide (0 ≤ x16_6) = true := decide_eq_true c84
                                      clear c84
                                      replace H := Option.bind_eq_some_iff.mp H
                                      obtain ⟨t304, A850, H⟩ := H
                                      replace H : (if (rd t298 x16_6) = t304 then (changeforgelaw6_WorkersMatchSpec.l1 k6 a1 l3 a4 t298 (wrap64 (x16_6 + 1))) else (some false)) = some r := H
                                      have A85 := Aside0.mk A850
                                      clear A850
                                      by_cases c86 : (rd t298 x16_6) = t304
                                      · rw [if_pos c86] at H
                                        have c86b0 : ((rd t298 x16_6) == t304) = true := beq_iff_eq.mpr c86
                                        have c86b1 : ((rd t298 x16_6) != t304) = false := bne_eq_false_iff_eq.mpr c86
                                        clear c86
                                        have H' := Aside0.mk H
                                        clear H
                                        obtain ⟨Ao87, co87, eo87⟩ := Kd.R_slice HO_15.out
                                        subst eo87
                                        try go_wp2
                                        have n0_ := Aside0.mk (Kd.R_drew HO_15.out)
                                        have n1_ := Aside0.mk (blk_drew BK286.out)
                                        have n2_ := Aside0.mk (blk_drew BK292.out)
                                        have n3_ := Aside0.mk (below_drew1 HB.out)
                                        clear HO_15
                                        clear BK286
                                        clear BK292
                                        clear HB
                                        have HO_15 := n0_
                                        have BK286 := n1_
                                        have BK292 := n2_
                                        have HB := n3_
                                        clear n0_ n1_ n2_ n3_
                                        have p303 : 0 ≤ (x16_6 : Int) := of_decide_eq_true (by first | (with_reducible assumption) | assumption)
                                        have q303 : x16_6 < (t298.length : Int) := of_decide_eq_true (by first | (with_reducible assumption) | assumption)
                                        obtain ⟨ad303, e303, hx303_0⟩ := Kd.at_int (Kd.R_reads' HO_15.out).2.2 x16_6 p303 q303
                                        cases e303
                                        replace p303 := eq_true p303
                                        replace q303 := eq_true q303
                                        refine start_ (n := 9) (S := fun w' => w'.cell? (ad303.add (x16_6).toNat) = some (.int .i64 (rd t298 x16_6))) (ds := []) #[false, false, false, false, false, false, false, false, false] (by kernel_rfl) rfl rfl (hx303_0) (fun hHeld => ?_); refine with_tabW changeforgelaw6_WorkersMatchSpec.tab20 changeforgelaw6_WorkersMatchSpec.bits20 (fun HT_ HW_ => ?_)
                                        generalize wr.drew = w88 at HO_15 BK286 BK292 HB hx303_0 hHeld ⊢
                                        refine pure_ (i := 0) (N := some 114) (v := ?_) (a' := ?_) #[true, false, false, false, false, false, false, false, false] rfl rfl (any_of HT_.out (by kernel_rfl)) (fun _ _ _ h => h) (Or.inl ⟨by rfl, ?_⟩) ?_ ?_
                                        rotate_left
                                        · intro w'
                                          go_simp
                                          with_reducible rfl
                                        rotate_left
                                        · simp only [Act.put, List.setIfInBounds_toArray, List.set_cons_zero, List.set_cons_succ, i64_w, i32_w]
                                          rfl
                                        refine pure_ (i := 1) (N := some 115) (v := ?_) (a' := ?_) #[true, true, false, false, false, false, false, false, false] rfl rfl (any_of HT_.out (by kernel_rfl)) (fun _ _ _ h => h) (Or.inl ⟨by rfl, ?_⟩) ?_ ?_
                                        rotate_left
                                        · intro w'
                                          go_simp
                                          with_reducible rfl
                                        rotate_left
                                        · simp only [Act.put, List.setIfInBounds_toArray, List.set_cons_zero, List.set_cons_succ, i64_w, i32_w]
                                          rfl
                                        refine pure_ (i := 2) (N := some 116) (v := ?_) (a' := ?_) #[true, true, true, false, false, false, false, false, false] rfl rfl (any_of HT_.out (by kernel_rfl)) (fun _ _ _ h => h) (Or.inl ⟨by rfl, ?_⟩) ?_ ?_
                                        rotate_left
                                        · intro w'
                                          go_simp
                                          with_reducible rfl
                                        rotate_left
                                        · simp only [Act.put, List.setIfInBounds_toArray, List.set_cons_zero, List.set_cons_succ, i64_w, i32_w]
                                          rfl
                                        refine pure_ (i := 4) (N := some 118) (v := ?_) (a' := ?_) #[true, true, true, false, true, false, false, false, false] rfl rfl (any_of HT_.out (by kernel_rfl)) (fun _ _ _ h => h) (Or.inl ⟨by rfl, ?_⟩) ?_ ?_
                                        rotate_left
                                        · intro w'
                                          go_simp
                                          with_reducible rfl
                                        rotate_left
                                        · simp only [Act.put, List.setIfInBounds_toArray, List.set_cons_zero, List.set_cons_succ, i64_w, i32_w]
                                          rfl
                                        refine pure_ (i := 5) (N := some 119) (v := ?_) (a' := ?_) #[true, true, true, false, true, true, false, false, false] rfl rfl (any_of HT_.out (by kernel_rfl)) (fun _ _ _ h => h) (Or.inl ⟨by rfl, ?_⟩) ?_ ?_
                                        rotate_left
                                        · intro w'
                                          go_simp
                                          with_reducible rfl
                                        rotate_left
                                        · simp only [Act.put, List.setIfInBounds_toArray, List.set_cons_zero, List.set_cons_succ, i64_w, i32_w]
                                          rfl
                                        refine pure_ (i := 6) (N := some 120) (v := ?_) (a' := ?_) #[true, true, true, false, true, true, true, false, false] rfl rfl (any_of HT_.out (by kernel_rfl)) (fun _ _ _ h => h) (Or.inl ⟨by rfl, ?_⟩) ?_ ?_
                                        rotate_left
                                        · intro w'
                                          go_simp
                                          with_reducible rfl
                                        rotate_left
                                        · simp only [Act.put, List.setIfInBounds_toArray, List.set_cons_zero, List.set_cons_succ, i64_w, i32_w]
                                          rfl
                                        refine take_ (i := 3) (N := some 117) (v := ?_) (a' := ?_) #[true, true, true, true, true, true, true, false, false] rfl rfl (take_ofW HT_.out HW_.out (by kernel_rfl)) (fun _ _ _ h => h) (Or.inl ⟨by rfl, ?_⟩) hHeld ?_ ?_
                                        rotate_left
                                        · intro w' s0
                                          go_simp
                                          with_reducible rfl
                                        rotate_left
                                        · simp only [Act.put, List.setIfInBounds_toArray, List.set_cons_zero, List.set_cons_succ, i64_w, i32_w]
                                          rfl
                                        refine one_ (i := 7) (N := some 121) #[true, true, true, true, true, true, true, true, false] rfl rfl (one_of HT_.out (by kernel_rfl)) (by decide) (fun K hK => ?_)
                                        refine goes_ Try.func16 (by kernel_rfl) rfl #[.slice A3 l3.length c3, .int .i64 x16_6, .int .i64 a4] (by rfl) rfl rfl (by (try simp only [List.map_toArray, List.map_cons, List.map_nil]); first | done | rfl | (simp only [List.length_drop, List.length_take]; rfl)) ?_
                                        with_reducible refine (changeforgeref6_Reported.calls k6 _ _ l3 x16_6 a4 t304 _ ?side1 ?side2 A85.out).mono ?_
                                        (case side1 => repeat (first | exact (Kd.C_below HR3.out HB.out) | (with_reducible refine Kd.C_alloc ?_ _) | (with_reducible refine Kd.C_drewN ?_ _) | (with_reducible refine Kd.C_drew ?_)))
                                        (case side2 => exact HC3.out)
                                        rintro e w89 ⟨rfl, hb⟩
                                        have HS0_ := (hb.cell (World.block_lt_of_cell? _ _ (hHeld))).trans (hHeld)
                                        refine ⟨_, rfl, ?_⟩
                                        have n0_ := Aside0.mk (Kd.R_below (by (with_reducible repeat (first | apply Kd.R_alloc | apply Kd.R_drewN | apply Kd.R_drew)); exact HO_15.out) hb)
                                        have n1_ := Aside0.mk (blk_below (g := gb286) (o := .cells #[.int .i64 x287000_55, .int .i64 x287001_55] 25 (0, 0)) (by (with_reducible repeat (first | refine blk_drewN ?_ _ | refine blk_drew ?_ | refine blk_alloc ?_ _)); exact BK286.out) hb)
                                        have n2_ := Aside0.mk (blk_below (g := gb292) (o := .cells #[.int .i64 t301, .int .i64 t302] 25 (0, 0)) (by (with_reducible repeat (first | refine blk_drewN ?_ _ | refine blk_drew ?_ | refine blk_alloc ?_ _)); exact BK292.out) hb)
                                        have n3_ := Aside0.mk (below_step (by repeat (first | (with_reducible first | exact HB.out | apply below_alloc | apply pw_below_drewN | apply below_drew1 | refine below_set ?_ GE286.out | refine below_set ?_ GE292.out) | exact HB.out)) hb)
                                        clear HO_15
                                        clear BK286
                                        clear BK292
                                        clear HB
                                        have HO_15 := n0_
                                        have BK286 := n1_
                                        have BK292 := n2_
                                        have HB := n3_
                                        clear n0_ n1_ n2_ n3_
                                        (try clear hb)
                                        (try clear hb2)
                                        (try clear hk)
                                        (try clear hi)
                                        refine hK.out _ _ (HS0_) (fun hHeld => ?_)
                                        clear hK K
                                        refine norm_ (a' := ?_) ?_ ?_
                                        rotate_left
                                        · show Act.put _ (some 121) _ = _
                                          simp only [Act.put, List.setIfInBounds_toArray, List.set_cons_zero, List.set_cons_succ, i64_w, i32_w]
                                          rfl
                                        refine pure_ (i := 8) (N := some 122) (v := ?_) (a' := ?_) #[true, true, true, true, true, true, true, true, true] rfl rfl (any_of HT_.out (by kernel_rfl)) (fun _ _ _ h => h) (Or.inl ⟨by rfl, ?_⟩) ?_ ?_
                                        rotate_left
                                        · intro w'
                                          go_simp
                                          with_reducible rfl
                                        rotate_left
                                        · simp only [Act.put, List.setIfInBounds_toArray, List.set_cons_zero, List.set_cons_succ, i64_w, i32_w]
                                          rfl
                                        refine done_ (done_of HT_.out (by kernel_rfl)) ?_
                                        try go_wp2
                                        go_roundg k6
                                        case measure => have := HJ9.out; have := HK2.out; have := HJ47.out; have := HJ55.out; have := HJ62.out; have := HK6.out; omega
                                        case rel => exact ⟨(wrap64 (x16_6 + 1)), (by first | rfl | (simp; done) | (simp [*]; done)), H', ⟨by have := HJ9.out; have := HK2.out; have := HJ47.out; have := HJ55.out; have := HJ62.out; have := HK6.out; omega⟩, ⟨by (with_reducible repeat (first | apply Kd.R_alloc | apply Kd.R_drewN | apply Kd.R_drew)); exact HO_15.out⟩, ⟨by (with_reducible repeat (first | refine blk_drewN ?_ _ | refine blk_drew ?_ | refine blk_alloc ?_ _)); exact BK286.out⟩, ⟨by (with_reducible repeat (first | refine blk_drewN ?_ _ | refine blk_drew ?_ | refine blk_alloc ?_ _)); exact BK292.out⟩, ⟨by repeat (first | (with_reducible first | exact HB.out | apply below_alloc | apply pw_below_drewN | apply below_drew1 | refine below_set ?_ GE286.out | refine below_set ?_ GE292.out) | exact HB.out)⟩⟩
                                      · rw [if_neg c86] at H
                                        have c86b0 : ((rd t298 x16_6) == t304) = false := beq_eq_false_iff_ne.mpr c86
                                        have c86b1 : ((rd t298 x16_6) != t304) = true := bne_iff_ne.mpr c86
                                        obtain rfl := Option.some.inj H
                                        obtain ⟨Ao90, co90, eo90⟩ := Kd.R_slice HO_15.out
                                        subst eo90
                                        try go_wp2
                                        have n0_ := Aside0.mk (Kd.R_drew HO_15.out)
                                        have n1_ := Aside0.mk (blk_drew BK286.out)
                                        have n2_ := Aside0.mk (blk_drew BK292.out)
                                        have n3_ := Aside0.mk (below_drew1 HB.out)
                                        clear HO_15
                                        clear BK286
                                        clear BK292
                                        clear HB
                                        have HO_15 := n0_
                                        have BK286 := n1_
                                        have BK292 := n2_
                                        have HB := n3_
                                        clear n0_ n1_ n2_ n3_
                                        have p303 : 0 ≤ (x16_6 : Int) := of_decide_eq_true (by first | (with_reducible assumption) | assumption)
                                        have q303 : x16_6 < (t298.length : Int) := of_decide_eq_true (by first | (with_reducible assumption) | assumption)
                                        obtain ⟨ad303, e303, hx303_0⟩ := Kd.at_int (Kd.R_reads' HO_15.out).2.2 x16_6 p303 q303
                                        cases e303
                                        replace p303 := eq_true p303
                                        replace q303 := eq_true q303
                                        refine start_ (n := 9) (S := fun w' => w'.cell? (ad303.add (x16_6).toNat) = some (.int .i64 (rd t298 x16_6))) (ds := []) #[false, false, false, false, false, false, false, false, false] (by kernel_rfl) rfl rfl (hx303_0) (fun hHeld => ?_); refine with_tabW changeforgelaw6_WorkersMatchSpec.tab20 changeforgelaw6_WorkersMatchSpec.bits20 (fun HT_ HW_ => ?_)
                                        generalize wr.drew = w91 at HO_15 BK286 BK292 HB hx303_0 hHeld ⊢
                                        refine pure_ (i := 0) (N := some 114) (v := ?_) (a' := ?_) #[true, false, false, false, false, false, false, false, false] rfl rfl (any_of HT_.out (by kernel_rfl)) (fun _ _ _ h => h) (Or.inl ⟨by rfl, ?_⟩) ?_ ?_
                                        rotate_left
                                        · intro w'
                                          go_simp
                                          with_reducible rfl
                                        rotate_left
                                        · simp only [Act.put, List.setIfInBounds_toArray, List.set_cons_zero, List.set_cons_succ, i64_w, i32_w]
                                          rfl
                                        refine pure_ (i := 1) (N := some 115) (v := ?_) (a' := ?_) #[true, true, false, false, false, false, false, false, false] rfl rfl (any_of HT_.out (by kernel_rfl)) (fun _ _ _ h => h) (Or.inl ⟨by rfl, ?_⟩) ?_ ?_
                                        rotate_left
                                        · intro w'
                                          go_simp
                                          with_reducible rfl
                                        rotate_left
                                        · simp only [Act.put, List.setIfInBounds_toArray, List.set_cons_zero, List.set_cons_succ, i64_w, i32_w]
                                          rfl
                                        refine pure_ (i := 2) (N := some 116) (v := ?_) (a' := ?_) #[true, true, true, false, false, false, false, false, false] rfl rfl (any_of HT_.out (by kernel_rfl)) (fun _ _ _ h => h) (Or.inl ⟨by rfl, ?_⟩) ?_ ?_
                                        rotate_left
                                        · intro w'
                                          go_simp
                                          with_reducible rfl
                                        rotate_left
                                        · simp only [Act.put, List.setIfInBounds_toArray, List.set_cons_zero, List.set_cons_succ, i64_w, i32_w]
                                          rfl
                                        refine pure_ (i := 4) (N := some 118) (v := ?_) (a' := ?_) #[true, true, true, false, true, false, false, false, false] rfl rfl (any_of HT_.out (by kernel_rfl)) (fun _ _ _ h => h) (Or.inl ⟨by rfl, ?_⟩) ?_ ?_
                                        rotate_left
                                        · intro w'
                                          go_simp
                                          with_reducible rfl
                                        rotate_left
                                        · simp only [Act.put, List.setIfInBounds_toArray, List.set_cons_zero, List.set_cons_succ, i64_w, i32_w]
                                          rfl
                                        refine pure_ (i := 5) (N := some 119) (v := ?_) (a' := ?_) #[true, true, true, false, true, true, false, false, false] rfl rfl (any_of HT_.out (by kernel_rfl)) (fun _ _ _ h => h) (Or.inl ⟨by rfl, ?_⟩) ?_ ?_
                                        rotate_left
                                        · intro w'
                                          go_simp
                                          with_reducible rfl
                                        rotate_left
                                        · simp only [Act.put, List.setIfInBounds_toArray, List.set_cons_zero, List.set_cons_succ, i64_w, i32_w]
                                          rfl
                                        refine pure_ (i := 6) (N := some 120) (v := ?_) (a' := ?_) #[true, true, true, false, true, true, true, false, false] rfl rfl (any_of HT_.out (by kernel_rfl)) (fun _ _ _ h => h) (Or.inl ⟨by rfl, ?_⟩) ?_ ?_
                                        rotate_left
                                        · intro w'
                                          go_simp
                                          with_reducible rfl
                                        rotate_left
                                        · simp only [Act.put, List.setIfInBounds_toArray, List.set_cons_zero, List.set_cons_succ, i64_w, i32_w]
                                          rfl
                                        refine take_ (i := 3) (N := some 117) (v := ?_) (a' := ?_) #[true, true, true, true, true, true, true, false, false] rfl rfl (take_ofW HT_.out HW_.out (by kernel_rfl)) (fun _ _ _ h => h) (Or.inl ⟨by rfl, ?_⟩) hHeld ?_ ?_
                                        rotate_left
                                        · intro w' s0
                                          go_simp
                                          with_reducible rfl
                                        rotate_left
                                        · simp only [Act.put, List.setIfInBounds_toArray, List.set_cons_zero, List.set_cons_succ, i64_w, i32_w]
                                          rfl
                                        refine one_ (i := 7) (N := some 121) #[true, true, true, true, true, true, true, true, false] rfl rfl (one_of HT_.out (by kernel_rfl)) (by decide) (fun K hK => ?_)
                                        refine goes_ Try.func16 (by kernel_rfl) rfl #[.slice A3 l3.length c3, .int .i64 x16_6, .int .i64 a4] (by rfl) rfl rfl (by (try simp only [List.map_toArray, List.map_cons, List.map_nil]); first | done | rfl | (simp only [List.length_drop, List.length_take]; rfl)) ?_
                                        with_reducible refine (changeforgeref6_Reported.calls k6 _ _ l3 x16_6 a4 t304 _ ?side1 ?side2 A85.out).mono ?_
                                        (case side1 => repeat (first | exact (Kd.C_below HR3.out HB.out) | (with_reducible refine Kd.C_alloc ?_ _) | (with_reducible refine Kd.C_drewN ?_ _) | (with_reducible refine Kd.C_drew ?_)))
                                        (case side2 => exact HC3.out)
                                        rintro e w92 ⟨rfl, hb⟩
                                        have HS0_ := (hb.cell (World.block_lt_of_cell? _ _ (hHeld))).trans (hHeld)
                                        refine ⟨_, rfl, ?_⟩
                                        have n0_ := Aside0.mk (Kd.R_below (by (with_reducible repeat (first | apply Kd.R_alloc | apply Kd.R_drewN | apply Kd.R_drew)); exact HO_15.out) hb)
                                        have n1_ := Aside0.mk (blk_below (g := gb286) (o := .cells #[.int .i64 x287000_55, .int .i64 x287001_55] 25 (0, 0)) (by (with_reducible repeat (first | refine blk_drewN ?_ _ | refine blk_drew ?_ | refine blk_alloc ?_ _)); exact BK286.out) hb)
                                        have n2_ := Aside0.mk (blk_below (g := gb292) (o := .cells #[.int .i64 t301, .int .i64 t302] 25 (0, 0)) (by (with_reducible repeat (first | refine blk_drewN ?_ _ | refine blk_drew ?_ | refine blk_alloc ?_ _)); exact BK292.out) hb)
                                        have n3_ := Aside0.mk (below_step (by repeat (first | (with_reducible first | exact HB.out | apply below_alloc | apply pw_below_drewN | apply below_drew1 | refine below_set ?_ GE286.out | refine below_set ?_ GE292.out) | exact HB.out)) hb)
                                        clear HO_15
                                        clear BK286
                                        clear BK292
                                        clear HB
                                        have HO_15 := n0_
                                        have BK286 := n1_
                                        have BK292 := n2_
                                        have HB := n3_
                                        clear n0_ n1_ n2_ n3_
                                        (try clear hb)
                                        (try clear hb2)
                                        (try clear hk)
                                        (try clear hi)
                                        refine hK.out _ _ (HS0_) (fun hHeld => ?_)
                                        clear hK K
                                        refine norm_ (a' := ?_) ?_ ?_
                                        rotate_left
                                        · show Act.put _ (some 121) _ = _
                                          simp only [Act.put, List.setIfInBounds_toArray, List.set_cons_zero, List.set_cons_succ, i64_w, i32_w]
                                          rfl
                                        refine pure_ (i := 8) (N := some 122) (v := ?_) (a' := ?_) #[true, true, true, true, true, true, true, true, true] rfl rfl (any_of HT_.out (by kernel_rfl)) (fun _ _ _ h => h) (Or.inl ⟨by rfl, ?_⟩) ?_ ?_
                                        rotate_left
                                        · intro w'
                                          go_simp
                                          with_reducible rfl
                                        rotate_left
                                        · simp only [Act.put, List.setIfInBounds_toArray, List.set_cons_zero, List.set_cons_succ, i64_w, i32_w]
                                          rfl
                                        refine done_ (done_of HT_.out (by kernel_rfl)) ?_
                                        try go_wp2
                                        go_ret
                                        exact ⟨by first | rfl | (simp [errW_none, errW_some] <;> rfl) | (simp [*, errW_none, errW_some] <;> rfl), by repeat (first | (with_reducible first | exact HB.out | apply below_alloc | apply pw_below_drewN | apply below_drew1 | refine below_set ?_ GE286.out | refine below_set ?_ GE292.out) | exact HB.out)⟩
                                    · rw [if_neg c84] at H
                                      exact absurd H (by simp)
                                  · rw [if_neg c83] at H
                                    have c83b0 : decide (x16_6 < (t298.length : Int)) = false := decide_eq_false c83
                                    clear c83
                                    obtain rfl := Option.some.inj H
                                    obtain ⟨Ao93, co93, eo93⟩ := Kd.R_slice HO_15.out
                                    subst eo93
                                    go_wp2
                                    go_ret
                                    exact ⟨by first | rfl | (simp [errW_none, errW_some] <;> rfl) | (simp [*, errW_none, errW_some] <;> rfl), by repeat (first | (with_reducible first | exact HB.out | apply below_alloc | apply pw_below_drewN | apply below_drew1 | refine below_set ?_ GE286.out | refine below_set ?_ GE292.out) | exact HB.out)⟩
  · replace c7 := Bool.eq_false_iff.mpr c7
    subst c7
    have H1 : (some false) = some r := by rw [if_neg (show ¬ (false = true) by decide)] at H; exact H
    clear H
    have H := H1
    clear H1
    obtain rfl := Option.some.inj H
    go_enter Try.func3, Try.ntmps3
    go_wp2_with (first | ((with_reducible refine gate_callee (f := 9) rfl ?_); refine goesL_ (some 17) rfl rfl Try.func9 (by kernel_rfl) rfl #[] rfl (by (try simp only [List.map_toArray, List.map_cons, List.map_nil]); first | done | rfl | (simp only [List.length_drop, List.length_take]; rfl)) ?_; (with_reducible refine (changeforgelaw6_farms.calls k  false _ A6.out).mono ?_); rintro e w94 ⟨rfl, hb⟩; refine ⟨_, rfl, ?_⟩; have n0_ := Aside0.mk (below_step (by repeat (first | (with_reducible first | exact HB.out | apply below_alloc | apply pw_below_drewN | apply below_drew1) | exact HB.out)) hb); clear HB; have HB := n0_; clear n0_; (try clear hb); (try clear hb2); (try clear hk); (try clear hi)))
    go_ret
    exact ⟨by first | rfl | (simp [errW_none, errW_some] <;> rfl) | (simp [*, errW_none, errW_some] <;> rfl), by repeat (first | (with_reducible first | exact HB.out | apply below_alloc | apply pw_below_drewN | apply below_drew1) | exact HB.out)⟩

end Go.Proofs.Ytepflpmngegdiaa.H
end
