/- Texts that the law WorkersNextMatchesSpec comes to, printed and by hand, what is not used left out. -/
import Derived.Test.YtepflpmngegdiaaCWorkersNextMatchesSpec7
section
namespace Go.Proofs.Ytepflpmngegdiaa.H
open Go.RowKit Go.Proofs.YtepflpmngegdiaaW.PrintWords Go.Proofs.YtepflpmngegdiaaW.PrintLast Go.Proofs.YtepflpmngegdiaaW.PrintMore
set_option linter.unusedVariables false
set_option linter.unusedSimpArgs false

mutual
def changeforgeref6_eventCode.j0 : Nat → Int → List (S44) → Int → Bool → Int → Int → Int → Int → Option (Int)
  | 0, _, _, _, _, _, _, _, _ => none
  | k + 1, x0, x2, x3, x42, x245000, x245001, x245002, x245003 => if x42 = true then (some 5) else (if x245000 = 1 then ((changeforgeref6_in.f x245002 0 (wrap64 (x0 - 1))).bind fun t247 => (if t247 = true then (if x245000 = 2 then ((changeforgeref6_in.f x245003 0 1000000000).bind fun t248 => (changeforgeref6_eventCode.j1 k x2 x3 (!t248) x245000 x245001 x245002 x245003)) else (changeforgeref6_eventCode.j1 k x2 x3 false x245000 x245001 x245002 x245003)) else (changeforgeref6_eventCode.j1 k x2 x3 true x245000 x245001 x245002 x245003))) else (if x245000 = 2 then ((changeforgeref6_in.f x245003 0 1000000000).bind fun t249 => (changeforgeref6_eventCode.j1 k x2 x3 (!t249) x245000 x245001 x245002 x245003)) else (changeforgeref6_eventCode.j1 k x2 x3 false x245000 x245001 x245002 x245003)))
def changeforgeref6_eventCode.j1 : Nat → List (S44) → Int → Bool → Int → Int → Int → Int → Option (Int)
  | 0, _, _, _, _, _, _, _ => none
  | k + 1, x2, x3, x64, x245000, x245001, x245002, x245003 => if x64 = true then (some 3) else (if 0 ≤ x3 then (if x3 ≤ (x2.length : Int) then ((changeforgeref6_WorkingOn.f k (x2.take (x3 : Int).toNat) x245001).bind fun t254 => (if x245000 = 1 then (if t254 = (-1) then (if x245000 = 2 then (if t254 < 0 then (changeforgeref6_eventCode.j2 k x2 x3 true x245000 x245001 x245002 x245003) else (if x245000 = 3 then (if t254 = (-2) then (changeforgeref6_eventCode.j2 k x2 x3 true x245000 x245001 x245002 x245003) else (if x245000 = 4 then (changeforgeref6_eventCode.j2 k x2 x3 (t254 != (-2)) x245000 x245001 x245002 x245003) else (changeforgeref6_eventCode.j2 k x2 x3 false x245000 x245001 x245002 x245003))) else (if x245000 = 4 then (changeforgeref6_eventCode.j2 k x2 x3 (t254 != (-2)) x245000 x245001 x245002 x245003) else (changeforgeref6_eventCode.j2 k x2 x3 false x245000 x245001 x245002 x245003)))) else (if x245000 = 3 then (if t254 = (-2) then (changeforgeref6_eventCode.j2 k x2 x3 true x245000 x245001 x245002 x245003) else (if x245000 = 4 then (changeforgeref6_eventCode.j2 k x2 x3 (t254 != (-2)) x245000 x245001 x245002 x245003) else (changeforgeref6_eventCode.j2 k x2 x3 false x245000 x245001 x245002 x245003))) else (if x245000 = 4 then (changeforgeref6_eventCode.j2 k x2 x3 (t254 != (-2)) x245000 x245001 x245002 x245003) else (changeforgeref6_eventCode.j2 k x2 x3 false x245000 x245001 x245002 x245003)))) else (changeforgeref6_eventCode.j2 k x2 x3 true x245000 x245001 x245002 x245003)) else (if x245000 = 2 then (if t254 < 0 then (changeforgeref6_eventCode.j2 k x2 x3 true x245000 x245001 x245002 x245003) else (if x245000 = 3 then (if t254 = (-2) then (changeforgeref6_eventCode.j2 k x2 x3 true x245000 x245001 x245002 x245003) else (if x245000 = 4 then (changeforgeref6_eventCode.j2 k x2 x3 (t254 != (-2)) x245000 x245001 x245002 x245003) else (changeforgeref6_eventCode.j2 k x2 x3 false x245000 x245001 x245002 x245003))) else (if x245000 = 4 then (changeforgeref6_eventCode.j2 k x2 x3 (t254 != (-2)) x245000 x245001 x245002 x245003) else (changeforgeref6_eventCode.j2 k x2 x3 false x245000 x245001 x245002 x245003)))) else (if x245000 = 3 then (if t254 = (-2) then (changeforgeref6_eventCode.j2 k x2 x3 true x245000 x245001 x245002 x245003) else (if x245000 = 4 then (changeforgeref6_eventCode.j2 k x2 x3 (t254 != (-2)) x245000 x245001 x245002 x245003) else (changeforgeref6_eventCode.j2 k x2 x3 false x245000 x245001 x245002 x245003))) else (if x245000 = 4 then (changeforgeref6_eventCode.j2 k x2 x3 (t254 != (-2)) x245000 x245001 x245002 x245003) else (changeforgeref6_eventCode.j2 k x2 x3 false x245000 x245001 x245002 x245003)))))) else (none)) else (none))
def changeforgeref6_eventCode.j2 : Nat → List (S44) → Int → Bool → Int → Int → Int → Int → Option (Int)
  | 0, _, _, _, _, _, _, _ => none
  | k + 1, x2, x3, x104, x245000, x245001, x245002, x245003 => if x104 = true then (some 11) else (if x245000 = 1 then (if 0 ≤ x3 then (if x3 ≤ (x2.length : Int) then ((changeforgeref6_Reported.f k (x2.take (x3 : Int).toNat) x245001 x245002).bind fun t259 => (if t259 ≥ 0 then (some 7) else (some 0))) else (none)) else (none)) else (some 0))
end
def changeforgeref6_eventCode.f (k : Nat) (a0 : Int) (a1 : Int) (l2 : List (S44)) (a3 : Int) : Option (Int) := if 0 ≤ a3 then (if a3 < (l2.length : Int) then ((changeforgeref6_in.f ((rd_T44 l2 a3).f0) 1 4).bind fun t245 => (if t245 = true then ((changeforgeref6_in.f ((rd_T44 l2 a3).f1) 0 (wrap64 (a1 - 1))).bind fun t246 => (if t246 = true then (if ((rd_T44 l2 a3).f0) = 1 then (if ((rd_T44 l2 a3).f0) = 2 then (changeforgeref6_eventCode.j0 k a0 l2 a3 false ((rd_T44 l2 a3).f0) ((rd_T44 l2 a3).f1) ((rd_T44 l2 a3).f2) ((rd_T44 l2 a3).f3)) else (changeforgeref6_eventCode.j0 k a0 l2 a3 (((rd_T44 l2 a3).f3) != 0) ((rd_T44 l2 a3).f0) ((rd_T44 l2 a3).f1) ((rd_T44 l2 a3).f2) ((rd_T44 l2 a3).f3))) else (if ((rd_T44 l2 a3).f2) = 0 then (if ((rd_T44 l2 a3).f0) = 2 then (changeforgeref6_eventCode.j0 k a0 l2 a3 false ((rd_T44 l2 a3).f0) ((rd_T44 l2 a3).f1) ((rd_T44 l2 a3).f2) ((rd_T44 l2 a3).f3)) else (changeforgeref6_eventCode.j0 k a0 l2 a3 (((rd_T44 l2 a3).f3) != 0) ((rd_T44 l2 a3).f0) ((rd_T44 l2 a3).f1) ((rd_T44 l2 a3).f2) ((rd_T44 l2 a3).f3))) else (changeforgeref6_eventCode.j0 k a0 l2 a3 true ((rd_T44 l2 a3).f0) ((rd_T44 l2 a3).f1) ((rd_T44 l2 a3).f2) ((rd_T44 l2 a3).f3)))) else (some 3))) else (some 4))) else (none)) else (none)
theorem changeforgeref6_eventCode.mono_l : ∀ k, (∀ y0 y1 y2 y3 y4 y5 y6 y7, LeO (changeforgeref6_eventCode.j0 k y0 y1 y2 y3 y4 y5 y6 y7) (changeforgeref6_eventCode.j0 (k + 1) y0 y1 y2 y3 y4 y5 y6 y7)) ∧ (∀ y0 y1 y2 y3 y4 y5 y6, LeO (changeforgeref6_eventCode.j1 k y0 y1 y2 y3 y4 y5 y6) (changeforgeref6_eventCode.j1 (k + 1) y0 y1 y2 y3 y4 y5 y6)) ∧ (∀ y0 y1 y2 y3 y4 y5 y6, LeO (changeforgeref6_eventCode.j2 k y0 y1 y2 y3 y4 y5 y6) (changeforgeref6_eventCode.j2 (k + 1) y0 y1 y2 y3 y4 y5 y6))
  | 0 => ⟨fun _ _ _ _ _ _ _ _ r h => by simp [changeforgeref6_eventCode.j0] at h, fun _ _ _ _ _ _ _ r h => by simp [changeforgeref6_eventCode.j1] at h, fun _ _ _ _ _ _ _ r h => by simp [changeforgeref6_eventCode.j2] at h⟩
  | k + 1 => by
    obtain ⟨ih0, ih1, ih2⟩ := changeforgeref6_eventCode.mono_l k
    refine ⟨?_, ?_, ?_⟩
    · intro y0 y1 y2 y3 y4 y5 y6 y7
      unfold changeforgeref6_eventCode.j0
      repeat' first
      | (with_reducible exact ih0 _ _ _ _ _ _ _ _)
      | (with_reducible exact ih1 _ _ _ _ _ _ _)
      | (with_reducible exact ih2 _ _ _ _ _ _ _)
      | (with_reducible exact changeforgeref6_Reported.mono _ _ _ _)
      | (with_reducible exact changeforgeref6_WorkingOn.mono _ _ _)
      | (with_reducible exact LeO.refl _)
      | (with_reducible exact LeO.none _)
      | (with_reducible refine LeO.ite ?_ ?_)
      | (with_reducible refine LeO.bind ?_ (fun _ => ?_))
      | exact ih0 _ _ _ _ _ _ _ _
      | exact ih1 _ _ _ _ _ _ _
      | exact ih2 _ _ _ _ _ _ _
      | exact changeforgeref6_Reported.mono _ _ _ _
      | exact changeforgeref6_WorkingOn.mono _ _ _
      | exact LeO.none _
      | refine LeO.ite ?_ ?_
      | refine LeO.bind ?_ (fun _ => ?_)
    · intro y0 y1 y2 y3 y4 y5 y6
      unfold changeforgeref6_eventCode.j1
      repeat' first
      | (with_reducible exact ih0 _ _ _ _ _ _ _ _)
      | (with_reducible exact ih1 _ _ _ _ _ _ _)
      | (with_reducible exact ih2 _ _ _ _ _ _ _)
      | (with_reducible exact changeforgeref6_Reported.mono _ _ _ _)
      | (with_reducible exact changeforgeref6_WorkingOn.mono _ _ _)
      | (with_reducible exact LeO.refl _)
      | (with_reducible exact LeO.none _)
      | (with_reducible refine LeO.ite ?_ ?_)
      | (with_reducible refine LeO.bind ?_ (fun _ => ?_))
      | exact ih0 _ _ _ _ _ _ _ _
      | exact ih1 _ _ _ _ _ _ _
      | exact ih2 _ _ _ _ _ _ _
      | exact changeforgeref6_Reported.mono _ _ _ _
      | exact changeforgeref6_WorkingOn.mono _ _ _
      | exact LeO.none _
      | refine LeO.ite ?_ ?_
      | refine LeO.bind ?_ (fun _ => ?_)
    · intro y0 y1 y2 y3 y4 y5 y6
      unfold changeforgeref6_eventCode.j2
      repeat' first
      | (with_reducible exact ih0 _ _ _ _ _ _ _ _)
      | (with_reducible exact ih1 _ _ _ _ _ _ _)
      | (with_reducible exact ih2 _ _ _ _ _ _ _)
      | (with_reducible exact changeforgeref6_Reported.mono _ _ _ _)
      | (with_reducible exact changeforgeref6_WorkingOn.mono _ _ _)
      | (with_reducible exact LeO.refl _)
      | (with_reducible exact LeO.none _)
      | (with_reducible refine LeO.ite ?_ ?_)
      | (with_reducible refine LeO.bind ?_ (fun _ => ?_))
      | exact ih0 _ _ _ _ _ _ _ _
      | exact ih1 _ _ _ _ _ _ _
      | exact ih2 _ _ _ _ _ _ _
      | exact changeforgeref6_Reported.mono _ _ _ _
      | exact changeforgeref6_WorkingOn.mono _ _ _
      | exact LeO.none _
      | refine LeO.ite ?_ ?_
      | refine LeO.bind ?_ (fun _ => ?_)
theorem changeforgeref6_eventCode.mono : ∀ a0 a1 a2 a3 k, LeO (changeforgeref6_eventCode.f k a0 a1 a2 a3) (changeforgeref6_eventCode.f (k + 1) a0 a1 a2 a3) := by
  intro a0 a1 a2 a3 k
  obtain ⟨ih0, ih1, ih2⟩ := changeforgeref6_eventCode.mono_l k
  unfold changeforgeref6_eventCode.f
  repeat' first
      | (with_reducible exact ih0 _ _ _ _ _ _ _ _)
      | (with_reducible exact ih1 _ _ _ _ _ _ _)
      | (with_reducible exact ih2 _ _ _ _ _ _ _)
      | (with_reducible exact changeforgeref6_Reported.mono _ _ _ _)
      | (with_reducible exact changeforgeref6_WorkingOn.mono _ _ _)
      | (with_reducible exact LeO.refl _)
      | (with_reducible exact LeO.none _)
      | (with_reducible refine LeO.ite ?_ ?_)
      | (with_reducible refine LeO.bind ?_ (fun _ => ?_))
      | exact ih0 _ _ _ _ _ _ _ _
      | exact ih1 _ _ _ _ _ _ _
      | exact ih2 _ _ _ _ _ _ _
      | exact changeforgeref6_Reported.mono _ _ _ _
      | exact changeforgeref6_WorkingOn.mono _ _ _
      | exact LeO.none _
      | refine LeO.ite ?_ ?_
      | refine LeO.bind ?_ (fun _ => ?_)
def changeforgeref6_eventCode.T13 : Bool × List (List Nat × List Nat) := (true, [([], []), ([0], [0]), ([1], [1]), ([2], [2]), ([3], [3]), ([3], [3]), ([4, 5, 3], [3, 4, 5]), ([3], [3]), ([7, 3], [3, 7]), ([3], [3]), ([9, 3], [3, 9]), ([6, 8, 10, 3, 3], [3, 6, 8, 10]), ([11, 3], [3, 11]), ([3, 12], [3, 12])])
def changeforgeref6_eventCode.B13 : List Nat := [0, 1, 3, 7, 15, 15, 63, 15, 143, 15, 527, 2047, 4095, 8191]
theorem changeforgeref6_eventCode.tab13 : rtab .any (opsOf Try.f25 13) = changeforgeref6_eventCode.T13 := by kernel_rfl
theorem changeforgeref6_eventCode.bits13 : waitsOk changeforgeref6_eventCode.T13.2 changeforgeref6_eventCode.B13 = true := by kernel_rfl
set_option maxHeartbeats 8000000 in
set_option maxRecDepth 100000 in
theorem changeforgeref6_eventCode.calls (k : Nat) (a0 : Int) (a1 : Int) (A2 : Option Addr) (c2 : Nat) (l2 : List (S44)) (a3 : Int) (r : Int) (w : World) (hr2 : Kd.C k44 w A2 l2.length l2) (hc2 : l2.length ≤ c2) (h : changeforgeref6_eventCode.f k a0 a1 l2 a3 = some r) :
    Calls Try.prog 25 #[.int .i64 a0, .int .i64 a1, .slice A2 l2.length c2, .int .i64 a3] w fun e w' => e = .returned (.int .i64 r) ∧ Below w.heap.size w w' := by
  have hu44 := Try.underlying44
  have HR2 := Aside0.mk hr2
  have HC2 := Aside0.mk hc2
  clear hr2 hc2
  have HB := Aside0.mk (Below.refl w.heap.size w)
  have H : (if 0 ≤ a3 then (if a3 < (l2.length : Int) then ((changeforgeref6_in.f ((rd_T44 l2 a3).f0) 1 4).bind fun t245 => (if t245 = true then ((changeforgeref6_in.f ((rd_T44 l2 a3).f1) 0 (wrap64 (a1 - 1))).bind fun t246 => (if t246 = true then (if ((rd_T44 l2 a3).f0) = 1 then (if ((rd_T44 l2 a3).f0) = 2 then (changeforgeref6_eventCode.j0 k a0 l2 a3 false ((rd_T44 l2 a3).f0) ((rd_T44 l2 a3).f1) ((rd_T44 l2 a3).f2) ((rd_T44 l2 a3).f3)) else (changeforgeref6_eventCode.j0 k a0 l2 a3 (((rd_T44 l2 a3).f3) != 0) ((rd_T44 l2 a3).f0) ((rd_T44 l2 a3).f1) ((rd_T44 l2 a3).f2) ((rd_T44 l2 a3).f3))) else (if ((rd_T44 l2 a3).f2) = 0 then (if ((rd_T44 l2 a3).f0) = 2 then (changeforgeref6_eventCode.j0 k a0 l2 a3 false ((rd_T44 l2 a3).f0) ((rd_T44 l2 a3).f1) ((rd_T44 l2 a3).f2) ((rd_T44 l2 a3).f3)) else (changeforgeref6_eventCode.j0 k a0 l2 a3 (((rd_T44 l2 a3).f3) != 0) ((rd_T44 l2 a3).f0) ((rd_T44 l2 a3).f1) ((rd_T44 l2 a3).f2) ((rd_T44 l2 a3).f3))) else (changeforgeref6_eventCode.j0 k a0 l2 a3 true ((rd_T44 l2 a3).f0) ((rd_T44 l2 a3).f1) ((rd_T44 l2 a3).f2) ((rd_T44 l2 a3).f3)))) else (some 3))) else (some 4))) else (none)) else (none)) = some r := h
  clear h
  by_cases c5 : 0 ≤ a3
  · rw [if_pos c5] at H
    have c5b0 : decide (0 ≤ a3) = true := decide_eq_true c5
    clear c5
    by_cases c6 : a3 < (l2.length : Int)
    · rw [if_pos c6] at H
      have c6b0 : decide (a3 < (l2.length : Int)) = true := decide_eq_true c6
      clear c6
      replace H := Option.bind_eq_some_iff.mp H
      obtain ⟨t245, A70, H⟩ := H
      replace H : (if t245 = true then ((changeforgeref6_in.f ((rd_T44 l2 a3).f1) 0 (wrap64 (a1 - 1))).bind fun t246 => (if t246 = true then (if ((rd_T44 l2 a3).f0) = 1 then (if ((rd_T44 l2 a3).f0) = 2 then (changeforgeref6_eventCode.j0 k a0 l2 a3 false ((rd_T44 l2 a3).f0) ((rd_T44 l2 a3).f1) ((rd_T44 l2 a3).f2) ((rd_T44 l2 a3).f3)) else (changeforgeref6_eventCode.j0 k a0 l2 a3 (((rd_T44 l2 a3).f3) != 0) ((rd_T44 l2 a3).f0) ((rd_T44 l2 a3).f1) ((rd_T44 l2 a3).f2) ((rd_T44 l2 a3).f3))) else (if ((rd_T44 l2 a3).f2) = 0 then (if ((rd_T44 l2 a3).f0) = 2 then (changeforgeref6_eventCode.j0 k a0 l2 a3 false ((rd_T44 l2 a3).f0) ((rd_T44 l2 a3).f1) ((rd_T44 l2 a3).f2) ((rd_T44 l2 a3).f3)) else (changeforgeref6_eventCode.j0 k a0 l2 a3 (((rd_T44 l2 a3).f3) != 0) ((rd_T44 l2 a3).f0) ((rd_T44 l2 a3).f1) ((rd_T44 l2 a3).f2) ((rd_T44 l2 a3).f3))) else (changeforgeref6_eventCode.j0 k a0 l2 a3 true ((rd_T44 l2 a3).f0) ((rd_T44 l2 a3).f1) ((rd_T44 l2 a3).f2) ((rd_T44 l2 a3).f3)))) else (some 3))) else (some 4)) = some r := H
      have A7 := Aside0.mk A70
      clear A70
      by_cases c8 : t245 = true
      · subst c8
        have H1 : ((changeforgeref6_in.f ((rd_T44 l2 a3).f1) 0 (wrap64 (a1 - 1))).bind fun t246 => (if t246 = true then (if ((rd_T44 l2 a3).f0) = 1 then (if ((rd_T44 l2 a3).f0) = 2 then (changeforgeref6_eventCode.j0 k a0 l2 a3 false ((rd_T44 l2 a3).f0) ((rd_T44 l2 a3).f1) ((rd_T44 l2 a3).f2) ((rd_T44 l2 a3).f3)) else (changeforgeref6_eventCode.j0 k a0 l2 a3 (((rd_T44 l2 a3).f3) != 0) ((rd_T44 l2 a3).f0) ((rd_T44 l2 a3).f1) ((rd_T44 l2 a3).f2) ((rd_T44 l2 a3).f3))) else (if ((rd_T44 l2 a3).f2) = 0 then (if ((rd_T44 l2 a3).f0) = 2 then (changeforgeref6_eventCode.j0 k a0 l2 a3 false ((rd_T44 l2 a3).f0) ((rd_T44 l2 a3).f1) ((rd_T44 l2 a3).f2) ((rd_T44 l2 a3).f3)) else (changeforgeref6_eventCode.j0 k a0 l2 a3 (((rd_T44 l2 a3).f3) != 0) ((rd_T44 l2 a3).f0) ((rd_T44 l2 a3).f1) ((rd_T44 l2 a3).f2) ((rd_T44 l2 a3).f3))) else (changeforgeref6_eventCode.j0 k a0 l2 a3 true ((rd_T44 l2 a3).f0) ((rd_T44 l2 a3).f1) ((rd_T44 l2 a3).f2) ((rd_T44 l2 a3).f3)))) else (some 3))) = some r := by rw [if_pos rfl] at H; exact H
        clear H
        have H := H1
        clear H1
        replace H := Option.bind_eq_some_iff.mp H
        obtain ⟨t246, A90, H⟩ := H
        replace H : (if t246 = true then (if ((rd_T44 l2 a3).f0) = 1 then (if ((rd_T44 l2 a3).f0) = 2 then (changeforgeref6_eventCode.j0 k a0 l2 a3 false ((rd_T44 l2 a3).f0) ((rd_T44 l2 a3).f1) ((rd_T44 l2 a3).f2) ((rd_T44 l2 a3).f3)) else (changeforgeref6_eventCode.j0 k a0 l2 a3 (((rd_T44 l2 a3).f3) != 0) ((rd_T44 l2 a3).f0) ((rd_T44 l2 a3).f1) ((rd_T44 l2 a3).f2) ((rd_T44 l2 a3).f3))) else (if ((rd_T44 l2 a3).f2) = 0 then (if ((rd_T44 l2 a3).f0) = 2 then (changeforgeref6_eventCode.j0 k a0 l2 a3 false ((rd_T44 l2 a3).f0) ((rd_T44 l2 a3).f1) ((rd_T44 l2 a3).f2) ((rd_T44 l2 a3).f3)) else (changeforgeref6_eventCode.j0 k a0 l2 a3 (((rd_T44 l2 a3).f3) != 0) ((rd_T44 l2 a3).f0) ((rd_T44 l2 a3).f1) ((rd_T44 l2 a3).f2) ((rd_T44 l2 a3).f3))) else (changeforgeref6_eventCode.j0 k a0 l2 a3 true ((rd_T44 l2 a3).f0) ((rd_T44 l2 a3).f1) ((rd_T44 l2 a3).f2) ((rd_T44 l2 a3).f3)))) else (some 3)) = some r := H
        have A9 := Aside0.mk A90
        clear A90
        by_cases c10 : t246 = true
        · subst c10
          have H1 : (if ((rd_T44 l2 a3).f0) = 1 then (if ((rd_T44 l2 a3).f0) = 2 then (changeforgeref6_eventCode.j0 k a0 l2 a3 false ((rd_T44 l2 a3).f0) ((rd_T44 l2 a3).f1) ((rd_T44 l2 a3).f2) ((rd_T44 l2 a3).f3)) else (changeforgeref6_eventCode.j0 k a0 l2 a3 (((rd_T44 l2 a3).f3) != 0) ((rd_T44 l2 a3).f0) ((rd_T44 l2 a3).f1) ((rd_T44 l2 a3).f2) ((rd_T44 l2 a3).f3))) else (if ((rd_T44 l2 a3).f2) = 0 then (if ((rd_T44 l2 a3).f0) = 2 then (changeforgeref6_eventCode.j0 k a0 l2 a3 false ((rd_T44 l2 a3).f0) ((rd_T44 l2 a3).f1) ((rd_T44 l2 a3).f2) ((rd_T44 l2 a3).f3)) else (changeforgeref6_eventCode.j0 k a0 l2 a3 (((rd_T44 l2 a3).f3) != 0) ((rd_T44 l2 a3).f0) ((rd_T44 l2 a3).f1) ((rd_T44 l2 a3).f2) ((rd_T44 l2 a3).f3))) else (changeforgeref6_eventCode.j0 k a0 l2 a3 true ((rd_T44 l2 a3).f0) ((rd_T44 l2 a3).f1) ((rd_T44 l2 a3).f2) ((rd_T44 l2 a3).f3)))) = some r := by rw [if_pos rfl] at H; exact H
          clear H
          have H := H1
          clear H1
          have HC11 := Aside0.mk H
          clear H
          have p243 : 0 ≤ (a3 : Int) := of_decide_eq_true (by first | (with_reducible assumption) | assumption)
          have q243 : a3 < (l2.length : Int) := of_decide_eq_true (by first | (with_reducible assumption) | assumption)
          obtain ⟨ad243, e243, hx243_0, hx243_1, hx243_2, hx243_3⟩ := at_T44 HR2.out a3 p243 q243
          cases e243
          replace p243 := eq_true p243
          replace q243 := eq_true q243
          go_enter Try.func25, Try.ntmps25
          go_upto_region 6 with (first | ((with_reducible refine gate_dst (N := 9) rfl ?_); refine box_event ?hg (N := 9) ?hd (cs := #[.int .i64 0, .int .i64 0, .int .i64 0, .int .i64 0]) (t := 44) ?hr ?_; (case hd => rfl); (case hg => rfl); (case hr => first | (go_simp; done) | (go_simp; rfl)); intro gb244 hg w12 hbox hb; have n0_ := Aside0.mk (below_step (by repeat (first | (with_reducible first | exact HB.out | apply below_alloc | apply pw_below_drewN | apply below_drew1) | exact HB.out)) hb); have n1_ := Aside0.mk (hbox); have n2_ := Aside0.mk ((by rw [hg]; exact (below_size (by repeat (first | (with_reducible first | exact HB.out | apply below_alloc | apply pw_below_drewN | apply below_drew1) | exact HB.out))) : w.heap.size ≤ gb244)); have n3_ := Aside0.mk ((by rw [hg]; exact (below_size (by repeat (first | (with_reducible first | exact HB.out | apply below_alloc | apply pw_below_drewN | apply below_drew1) | exact HB.out))) : w.heap.size ≤ gb244)); clear HB; have HB := n0_; have BK244 := n1_; have GW244 := n2_; have GE244 := n3_; clear n0_ n1_ n2_ n3_; clear hb hbox hg; have hcz13_0 : w12.cell? ⟨gb244, 0, none⟩ = some (.int .i64 0) := (blk_cell BK244.out 0).trans rfl; have hcz13_1 : w12.cell? ⟨gb244, 1, none⟩ = some (.int .i64 0) := (blk_cell BK244.out 1).trans rfl; have hcz13_2 : w12.cell? ⟨gb244, 2, none⟩ = some (.int .i64 0) := (blk_cell BK244.out 2).trans rfl; have hcz13_3 : w12.cell? ⟨gb244, 3, none⟩ = some (.int .i64 0) := (blk_cell BK244.out 3).trans rfl; have hfz13_0 := blk_frozen BK244.out 0; have hfz13_1 := blk_frozen BK244.out 1; have hfz13_2 := blk_frozen BK244.out 2; have hfz13_3 := blk_frozen BK244.out 3) | ((with_reducible refine gate_callee (f := 27) rfl ?_); refine goesL_ (some 17) rfl rfl Try.func27 (by kernel_rfl) rfl #[.int .i64 ((rd_T44 l2 a3).f0), .int .i64 1, .int .i64 4] rfl (by (try simp only [List.map_toArray, List.map_cons, List.map_nil]); first | done | rfl | (simp only [List.length_drop, List.length_take]; rfl) | (simp only [KY100.out]; rfl) | (simp only [KY43.out]; rfl) | (simp only [KY97.out]; rfl) | (go_simp; rw [KY100.out, KY43.out]) | (go_simp; rw [KY100.out, KY97.out]) | (go_simp; rw [KY43.out, KY100.out]) | (go_simp; rw [KY43.out, KY97.out]) | (go_simp; rw [KY97.out, KY100.out]) | (go_simp; rw [KY97.out, KY43.out])) ?_; (with_reducible refine (changeforgeref6_in.calls ((rd_T44 l2 a3).f0) 1 4 true _ A7.out).mono ?_); rintro e w' ⟨rfl, ⟨nd, rfl⟩⟩; refine ⟨_, rfl, ?_⟩) | ((with_reducible refine gate_callee (f := 27) rfl ?_); refine goesL_ (some 23) rfl rfl Try.func27 (by kernel_rfl) rfl #[.int .i64 ((rd_T44 l2 a3).f1), .int .i64 0, .int .i64 (wrap64 (a1 - 1))] rfl (by (try simp only [List.map_toArray, List.map_cons, List.map_nil]); first | done | rfl | (simp only [List.length_drop, List.length_take]; rfl) | (simp only [KY100.out]; rfl) | (simp only [KY43.out]; rfl) | (simp only [KY97.out]; rfl) | (go_simp; rw [KY100.out, KY43.out]) | (go_simp; rw [KY100.out, KY97.out]) | (go_simp; rw [KY43.out, KY100.out]) | (go_simp; rw [KY43.out, KY97.out]) | (go_simp; rw [KY97.out, KY100.out]) | (go_simp; rw [KY97.out, KY43.out])) ?_; (with_reducible refine (changeforgeref6_in.calls ((rd_T44 l2 a3).f1) 0 (wrap64 (a1 - 1)) true _ A9.out).mono ?_); rintro e w' ⟨rfl, ⟨nd, rfl⟩⟩; refine ⟨_, rfl, ?_⟩))
          (try simp only [Act.put, List.setIfInBounds_toArray, List.set_cons_zero, List.set_cons_succ])
          go_cut [42] (fun v42 wc => ∃ (kq : Nat) (x42_10 : Bool), v42 = .bool x42_10 ∧ Aside0 (changeforgeref6_eventCode.j0 kq a0 l2 a3 x42_10 ((rd_T44 l2 a3).f0) ((rd_T44 l2 a3).f1) ((rd_T44 l2 a3).f2) ((rd_T44 l2 a3).f3) = some r) ∧ Aside0 (kq ≤ k) ∧ Aside0 (wc.heap[gb244]? = some (.cells #[.int .i64 ((rd_T44 l2 a3).f0), .int .i64 ((rd_T44 l2 a3).f1), .int .i64 ((rd_T44 l2 a3).f2), .int .i64 ((rd_T44 l2 a3).f3)] 44 (0, 0))) ∧ Aside0 (Below w.heap.size w wc))
          case first =>
            have H := HC11.out
            clear HC11
            by_cases c14 : ((rd_T44 l2 a3).f0) = 1
            · rw [if_pos c14] at H
              have c14b0 : (((rd_T44 l2 a3).f0) == 1) = true := beq_iff_eq.mpr c14
              have c14b1 : (((rd_T44 l2 a3).f0) != 1) = false := bne_eq_false_iff_eq.mpr c14
              clear c14
              (first | rw [c14b0] | (simp only [i64_w, i32_w]; rw [c14b0]) | skip)
              by_cases c15 : ((rd_T44 l2 a3).f0) = 2
              · rw [if_pos c15] at H
                have c15b0 : (((rd_T44 l2 a3).f0) == 2) = true := beq_iff_eq.mpr c15
                have c15b1 : (((rd_T44 l2 a3).f0) != 2) = false := bne_eq_false_iff_eq.mpr c15
                clear c15
                have H' := Aside0.mk H
                clear H
                have hcz16_0 : w12.cell? ⟨gb244, 0, none⟩ = some (.int .i64 0) := (blk_cell BK244.out 0).trans rfl
                have hcz16_1 : w12.cell? ⟨gb244, 1, none⟩ = some (.int .i64 0) := (blk_cell BK244.out 1).trans rfl
                have hcz16_2 : w12.cell? ⟨gb244, 2, none⟩ = some (.int .i64 0) := (blk_cell BK244.out 2).trans rfl
                have hcz16_3 : w12.cell? ⟨gb244, 3, none⟩ = some (.int .i64 0) := (blk_cell BK244.out 3).trans rfl
                have hfz16_0 := blk_frozen BK244.out 0
                have hfz16_1 := blk_frozen BK244.out 1
                have hfz16_2 := blk_frozen BK244.out 2
                have hfz16_3 := blk_frozen BK244.out 3
                go_wp2
                go_meet
                case rel => exact ⟨_, (false), (by first | rfl | (simp; done) | (simp [*]; done)), H', ⟨by first | omega | exact Nat.le_refl _⟩, ⟨by (with_reducible repeat (first | refine blk_drewN ?_ _ | refine blk_drew ?_ | refine blk_alloc ?_ _)); refine blk_put (cs := #[.int .i64 ((rd_T44 l2 a3).f0), .int .i64 ((rd_T44 l2 a3).f1), .int .i64 ((rd_T44 l2 a3).f2), .int .i64 0]) ?_ 3 _ rfl; (with_reducible repeat (first | refine blk_drewN ?_ _ | refine blk_drew ?_ | refine blk_alloc ?_ _)); refine blk_put (cs := #[.int .i64 ((rd_T44 l2 a3).f0), .int .i64 ((rd_T44 l2 a3).f1), .int .i64 0, .int .i64 0]) ?_ 2 _ rfl; (with_reducible repeat (first | refine blk_drewN ?_ _ | refine blk_drew ?_ | refine blk_alloc ?_ _)); refine blk_put (cs := #[.int .i64 ((rd_T44 l2 a3).f0), .int .i64 0, .int .i64 0, .int .i64 0]) ?_ 1 _ rfl; (with_reducible repeat (first | refine blk_drewN ?_ _ | refine blk_drew ?_ | refine blk_alloc ?_ _)); refine blk_put (cs := #[.int .i64 0, .int .i64 0, .int .i64 0, .int .i64 0]) ?_ 0 _ rfl; (with_reducible repeat (first | refine blk_drewN ?_ _ | refine blk_drew ?_ | refine blk_alloc ?_ _)); exact BK244.out⟩, ⟨by repeat (first | (with_reducible first | exact HB.out | apply below_alloc | apply pw_below_drewN | apply below_drew1 | refine below_set ?_ GE244.out) | exact HB.out)⟩⟩
              · rw [if_neg c15] at H
                have c15b0 : (((rd_T44 l2 a3).f0) == 2) = false := beq_eq_false_iff_ne.mpr c15
                have c15b1 : (((rd_T44 l2 a3).f0) != 2) = true := bne_iff_ne.mpr c15
                have H' := Aside0.mk H
                clear H
                have hcz17_0 : w12.cell? ⟨gb244, 0, none⟩ = some (.int .i64 0) := (blk_cell BK244.out 0).trans rfl
                have hcz17_1 : w12.cell? ⟨gb244, 1, none⟩ = some (.int .i64 0) := (blk_cell BK244.out 1).trans rfl
                have hcz17_2 : w12.cell? ⟨gb244, 2, none⟩ = some (.int .i64 0) := (blk_cell BK244.out 2).trans rfl
                have hcz17_3 : w12.cell? ⟨gb244, 3, none⟩ = some (.int .i64 0) := (blk_cell BK244.out 3).trans rfl
                have hfz17_0 := blk_frozen BK244.out 0
                have hfz17_1 := blk_frozen BK244.out 1
                have hfz17_2 := blk_frozen BK244.out 2
                have hfz17_3 := blk_frozen BK244.out 3
                go_wp2
                go_meet
                case rel => exact ⟨_, ((((rd_T44 l2 a3).f3) != 0)), (by first | rfl | (simp; done) | (simp [*]; done)), H', ⟨by first | omega | exact Nat.le_refl _⟩, ⟨by (with_reducible repeat (first | refine blk_drewN ?_ _ | refine blk_drew ?_ | refine blk_alloc ?_ _)); refine blk_put (cs := #[.int .i64 ((rd_T44 l2 a3).f0), .int .i64 ((rd_T44 l2 a3).f1), .int .i64 ((rd_T44 l2 a3).f2), .int .i64 0]) ?_ 3 _ rfl; (with_reducible repeat (first | refine blk_drewN ?_ _ | refine blk_drew ?_ | refine blk_alloc ?_ _)); refine blk_put (cs := #[.int .i64 ((rd_T44 l2 a3).f0), .int .i64 ((rd_T44 l2 a3).f1), .int .i64 0, .int .i64 0]) ?_ 2 _ rfl; (with_reducible repeat (first | refine blk_drewN ?_ _ | refine blk_drew ?_ | refine blk_alloc ?_ _)); refine blk_put (cs := #[.int .i64 ((rd_T44 l2 a3).f0), .int .i64 0, .int .i64 0, .int .i64 0]) ?_ 1 _ rfl; (with_reducible repeat (first | refine blk_drewN ?_ _ | refine blk_drew ?_ | refine blk_alloc ?_ _)); refine blk_put (cs := #[.int .i64 0, .int .i64 0, .int .i64 0, .int .i64 0]) ?_ 0 _ rfl; (with_reducible repeat (first | refine blk_drewN ?_ _ | refine blk_drew ?_ | refine blk_alloc ?_ _)); exact BK244.out⟩, ⟨by repeat (first | (with_reducible first | exact HB.out | apply below_alloc | apply pw_below_drewN | apply below_drew1 | refine below_set ?_ GE244.out) | exact HB.out)⟩⟩
            · rw [if_neg c14] at H
              have c14b0 : (((rd_T44 l2 a3).f0) == 1) = false := beq_eq_false_iff_ne.mpr c14
              have c14b1 : (((rd_T44 l2 a3).f0) != 1) = true := bne_iff_ne.mpr c14
              (first | rw [c14b0] | (simp only [i64_w, i32_w]; rw [c14b0]) | skip)
              by_cases c18 : ((rd_T44 l2 a3).f2) = 0
              · rw [if_pos c18] at H
                have c18b0 : (((rd_T44 l2 a3).f2) == 0) = true := beq_iff_eq.mpr c18
                have c18b1 : (((rd_T44 l2 a3).f2) != 0) = false := bne_eq_false_iff_eq.mpr c18
                clear c18
                by_cases c19 : ((rd_T44 l2 a3).f0) = 2
                · rw [if_pos c19] at H
                  have c19b0 : (((rd_T44 l2 a3).f0) == 2) = true := beq_iff_eq.mpr c19
                  have c19b1 : (((rd_T44 l2 a3).f0) != 2) = false := bne_eq_false_iff_eq.mpr c19
                  clear c19
                  have H' := Aside0.mk H
                  clear H
                  have hcz20_0 : w12.cell? ⟨gb244, 0, none⟩ = some (.int .i64 0) := (blk_cell BK244.out 0).trans rfl
                  have hcz20_1 : w12.cell? ⟨gb244, 1, none⟩ = some (.int .i64 0) := (blk_cell BK244.out 1).trans rfl
                  have hcz20_2 : w12.cell? ⟨gb244, 2, none⟩ = some (.int .i64 0) := (blk_cell BK244.out 2).trans rfl
                  have hcz20_3 : w12.cell? ⟨gb244, 3, none⟩ = some (.int .i64 0) := (blk_cell BK244.out 3).trans rfl
                  have hfz20_0 := blk_frozen BK244.out 0
                  have hfz20_1 := blk_frozen BK244.out 1
                  have hfz20_2 := blk_frozen BK244.out 2
                  have hfz20_3 := blk_frozen BK244.out 3
                  go_wp2
                  go_meet
                  case rel => exact ⟨_, (false), (by first | rfl | (simp; done) | (simp [*]; done)), H', ⟨by first | omega | exact Nat.le_refl _⟩, ⟨by (with_reducible repeat (first | refine blk_drewN ?_ _ | refine blk_drew ?_ | refine blk_alloc ?_ _)); refine blk_put (cs := #[.int .i64 ((rd_T44 l2 a3).f0), .int .i64 ((rd_T44 l2 a3).f1), .int .i64 ((rd_T44 l2 a3).f2), .int .i64 0]) ?_ 3 _ rfl; (with_reducible repeat (first | refine blk_drewN ?_ _ | refine blk_drew ?_ | refine blk_alloc ?_ _)); refine blk_put (cs := #[.int .i64 ((rd_T44 l2 a3).f0), .int .i64 ((rd_T44 l2 a3).f1), .int .i64 0, .int .i64 0]) ?_ 2 _ rfl; (with_reducible repeat (first | refine blk_drewN ?_ _ | refine blk_drew ?_ | refine blk_alloc ?_ _)); refine blk_put (cs := #[.int .i64 ((rd_T44 l2 a3).f0), .int .i64 0, .int .i64 0, .int .i64 0]) ?_ 1 _ rfl; (with_reducible repeat (first | refine blk_drewN ?_ _ | refine blk_drew ?_ | refine blk_alloc ?_ _)); refine blk_put (cs := #[.int .i64 0, .int .i64 0, .int .i64 0, .int .i64 0]) ?_ 0 _ rfl; (with_reducible repeat (first | refine blk_drewN ?_ _ | refine blk_drew ?_ | refine blk_alloc ?_ _)); exact BK244.out⟩, ⟨by repeat (first | (with_reducible first | exact HB.out | apply below_alloc | apply pw_below_drewN | apply below_drew1 | refine below_set ?_ GE244.out) | exact HB.out)⟩⟩
                · rw [if_neg c19] at H
                  have c19b0 : (((rd_T44 l2 a3).f0) == 2) = false := beq_eq_false_iff_ne.mpr c19
                  have c19b1 : (((rd_T44 l2 a3).f0) != 2) = true := bne_iff_ne.mpr c19
                  have H' := Aside0.mk H
                  clear H
                  have hcz21_0 : w12.cell? ⟨gb244, 0, none⟩ = some (.int .i64 0) := (blk_cell BK244.out 0).trans rfl
                  have hcz21_1 : w12.cell? ⟨gb244, 1, none⟩ = some (.int .i64 0) := (blk_cell BK244.out 1).trans rfl
                  have hcz21_2 : w12.cell? ⟨gb244, 2, none⟩ = some (.int .i64 0) := (blk_cell BK244.out 2).trans rfl
                  have hcz21_3 : w12.cell? ⟨gb244, 3, none⟩ = some (.int .i64 0) := (blk_cell BK244.out 3).trans rfl
                  have hfz21_0 := blk_frozen BK244.out 0
                  have hfz21_1 := blk_frozen BK244.out 1
                  have hfz21_2 := blk_frozen BK244.out 2
                  have hfz21_3 := blk_frozen BK244.out 3
                  go_wp2
                  go_meet
                  case rel => exact ⟨_, ((((rd_T44 l2 a3).f3) != 0)), (by first | rfl | (simp; done) | (simp [*]; done)), H', ⟨by first | omega | exact Nat.le_refl _⟩, ⟨by (with_reducible repeat (first | refine blk_drewN ?_ _ | refine blk_drew ?_ | refine blk_alloc ?_ _)); refine blk_put (cs := #[.int .i64 ((rd_T44 l2 a3).f0), .int .i64 ((rd_T44 l2 a3).f1), .int .i64 ((rd_T44 l2 a3).f2), .int .i64 0]) ?_ 3 _ rfl; (with_reducible repeat (first | refine blk_drewN ?_ _ | refine blk_drew ?_ | refine blk_alloc ?_ _)); refine blk_put (cs := #[.int .i64 ((rd_T44 l2 a3).f0), .int .i64 ((rd_T44 l2 a3).f1), .int .i64 0, .int .i64 0]) ?_ 2 _ rfl; (with_reducible repeat (first | refine blk_drewN ?_ _ | refine blk_drew ?_ | refine blk_alloc ?_ _)); refine blk_put (cs := #[.int .i64 ((rd_T44 l2 a3).f0), .int .i64 0, .int .i64 0, .int .i64 0]) ?_ 1 _ rfl; (with_reducible repeat (first | refine blk_drewN ?_ _ | refine blk_drew ?_ | refine blk_alloc ?_ _)); refine blk_put (cs := #[.int .i64 0, .int .i64 0, .int .i64 0, .int .i64 0]) ?_ 0 _ rfl; (with_reducible repeat (first | refine blk_drewN ?_ _ | refine blk_drew ?_ | refine blk_alloc ?_ _)); exact BK244.out⟩, ⟨by repeat (first | (with_reducible first | exact HB.out | apply below_alloc | apply pw_below_drewN | apply below_drew1 | refine below_set ?_ GE244.out) | exact HB.out)⟩⟩
              · rw [if_neg c18] at H
                have c18b0 : (((rd_T44 l2 a3).f2) == 0) = false := beq_eq_false_iff_ne.mpr c18
                have c18b1 : (((rd_T44 l2 a3).f2) != 0) = true := bne_iff_ne.mpr c18
                have H' := Aside0.mk H
                clear H
                have hcz22_0 : w12.cell? ⟨gb244, 0, none⟩ = some (.int .i64 0) := (blk_cell BK244.out 0).trans rfl
                have hcz22_1 : w12.cell? ⟨gb244, 1, none⟩ = some (.int .i64 0) := (blk_cell BK244.out 1).trans rfl
                have hcz22_2 : w12.cell? ⟨gb244, 2, none⟩ = some (.int .i64 0) := (blk_cell BK244.out 2).trans rfl
                have hcz22_3 : w12.cell? ⟨gb244, 3, none⟩ = some (.int .i64 0) := (blk_cell BK244.out 3).trans rfl
                have hfz22_0 := blk_frozen BK244.out 0
                have hfz22_1 := blk_frozen BK244.out 1
                have hfz22_2 := blk_frozen BK244.out 2
                have hfz22_3 := blk_frozen BK244.out 3
                go_wp2
                go_meet
                case rel => exact ⟨_, (true), (by first | rfl | (simp; done) | (simp [*]; done)), H', ⟨by first | omega | exact Nat.le_refl _⟩, ⟨by (with_reducible repeat (first | refine blk_drewN ?_ _ | refine blk_drew ?_ | refine blk_alloc ?_ _)); refine blk_put (cs := #[.int .i64 ((rd_T44 l2 a3).f0), .int .i64 ((rd_T44 l2 a3).f1), .int .i64 ((rd_T44 l2 a3).f2), .int .i64 0]) ?_ 3 _ rfl; (with_reducible repeat (first | refine blk_drewN ?_ _ | refine blk_drew ?_ | refine blk_alloc ?_ _)); refine blk_put (cs := #[.int .i64 ((rd_T44 l2 a3).f0), .int .i64 ((rd_T44 l2 a3).f1), .int .i64 0, .int .i64 0]) ?_ 2 _ rfl; (with_reducible repeat (first | refine blk_drewN ?_ _ | refine blk_drew ?_ | refine blk_alloc ?_ _)); refine blk_put (cs := #[.int .i64 ((rd_T44 l2 a3).f0), .int .i64 0, .int .i64 0, .int .i64 0]) ?_ 1 _ rfl; (with_reducible repeat (first | refine blk_drewN ?_ _ | refine blk_drew ?_ | refine blk_alloc ?_ _)); refine blk_put (cs := #[.int .i64 0, .int .i64 0, .int .i64 0, .int .i64 0]) ?_ 0 _ rfl; (with_reducible repeat (first | refine blk_drewN ?_ _ | refine blk_drew ?_ | refine blk_alloc ?_ _)); exact BK244.out⟩, ⟨by repeat (first | (with_reducible first | exact HB.out | apply below_alloc | apply pw_below_drewN | apply below_drew1 | refine below_set ?_ GE244.out) | exact HB.out)⟩⟩
          case rest =>
            clear HC11
            try clear c1
            try clear c2
            try clear p2
            try clear q2
            try clear hx2
            try clear c5
            try clear c5b0
            try clear c6
            try clear c6b0
            try clear p6
            try clear c8
            try clear c10
            try clear c14
            try clear c14b0
            try clear c14b1
            try clear c15
            try clear c15b0
            try clear c15b1
            try clear c18
            try clear c18b0
            try clear c18b1
            try clear c19
            try clear c19b0
            try clear c19b1
            try clear hcz13_0
            try clear hcz13_1
            try clear hcz13_2
            try clear hcz13_3
            try clear hcz16_0
            try clear hcz16_1
            try clear hcz16_2
            try clear hcz16_3
            try clear hcz17_0
            try clear hcz17_1
            try clear hcz17_2
            try clear hcz17_3
            try clear hcz20_0
            try clear hcz20_1
            try clear hcz20_2
            try clear hcz20_3
            try clear hcz21_0
            try clear hcz21_1
            try clear hcz21_2
            try clear hcz21_3
            try clear hcz22_0
            try clear hcz22_1
            try clear hcz22_2
            try clear hcz22_3
            try clear hfz13_0
            try clear hfz13_1
            try clear hfz13_2
            try clear hfz13_3
            try clear hfz16_0
            try clear hfz16_1
            try clear hfz16_2
            try clear hfz16_3
            try clear hfz17_0
            try clear hfz17_1
            try clear hfz17_2
            try clear hfz17_3
            try clear hfz20_0
            try clear hfz20_1
            try clear hfz20_2
            try clear hfz20_3
            try clear hfz21_0
            try clear hfz21_1
            try clear hfz21_2
            try clear hfz21_3
            try clear hfz22_0
            try clear hfz22_1
            try clear hfz22_2
            try clear hfz22_3
            try clear hx243_0
            try clear hx243_1
            try clear hx243_2
            try clear hx243_3
            try clear p243
            try clear q243
            obtain ⟨kq, x42_10, rfl, HA, HJ10, BK244, HB⟩ := hcut
            cases kq with
            | zero => exact absurd HA.out (by simp [changeforgeref6_eventCode.j0])
            | succ kj10 =>
              have H := HA.out
              clear HA
              simp only [changeforgeref6_eventCode.j0] at H
              by_cases c23 : x42_10 = true
              · subst c23
                have H1 : (some 5) = some r := by rw [if_pos rfl] at H; exact H
                clear H
                have H := H1
                clear H1
                obtain rfl := Option.some.inj H
                go_wp2
                go_ret
                exact ⟨by first | rfl | (simp [errW_none, errW_some] <;> rfl) | (simp [*, errW_none, errW_some] <;> rfl), by repeat (first | (with_reducible first | exact HB.out | apply below_alloc | apply pw_below_drewN | apply below_drew1 | refine below_set ?_ GE244.out) | exact HB.out)⟩
              · replace c23 := Bool.eq_false_iff.mpr c23
                subst c23
                have H1 : (if ((rd_T44 l2 a3).f0) = 1 then ((changeforgeref6_in.f ((rd_T44 l2 a3).f2) 0 (wrap64 (a0 - 1))).bind fun t247 => (if t247 = true then (if ((rd_T44 l2 a3).f0) = 2 then ((changeforgeref6_in.f ((rd_T44 l2 a3).f3) 0 1000000000).bind fun t248 => (changeforgeref6_eventCode.j1 kj10 l2 a3 (!t248) ((rd_T44 l2 a3).f0) ((rd_T44 l2 a3).f1) ((rd_T44 l2 a3).f2) ((rd_T44 l2 a3).f3))) else (changeforgeref6_eventCode.j1 kj10 l2 a3 false ((rd_T44 l2 a3).f0) ((rd_T44 l2 a3).f1) ((rd_T44 l2 a3).f2) ((rd_T44 l2 a3).f3))) else (changeforgeref6_eventCode.j1 kj10 l2 a3 true ((rd_T44 l2 a3).f0) ((rd_T44 l2 a3).f1) ((rd_T44 l2 a3).f2) ((rd_T44 l2 a3).f3)))) else (if ((rd_T44 l2 a3).f0) = 2 then ((changeforgeref6_in.f ((rd_T44 l2 a3).f3) 0 1000000000).bind fun t249 => (changeforgeref6_eventCode.j1 kj10 l2 a3 (!t249) ((rd_T44 l2 a3).f0) ((rd_T44 l2 a3).f1) ((rd_T44 l2 a3).f2) ((rd_T44 l2 a3).f3))) else (changeforgeref6_eventCode.j1 kj10 l2 a3 false ((rd_T44 l2 a3).f0) ((rd_T44 l2 a3).f1) ((rd_T44 l2 a3).f2) ((rd_T44 l2 a3).f3)))) = some r := by rw [if_neg (show ¬ (false = true) by decide)] at H; exact H
                clear H
                have H := H1
                clear H1
                have HC24 := Aside0.mk H
                clear H
                go_upto_region 8 with (fail)
                go_cut [64] (fun v64 wc => ∃ (kq : Nat) (x64_23 : Bool), v64 = .bool x64_23 ∧ Aside0 (changeforgeref6_eventCode.j1 kq l2 a3 x64_23 ((rd_T44 l2 a3).f0) ((rd_T44 l2 a3).f1) ((rd_T44 l2 a3).f2) ((rd_T44 l2 a3).f3) = some r) ∧ Aside0 (kq ≤ kj10) ∧ Aside0 (wc.heap[gb244]? = some (.cells #[.int .i64 ((rd_T44 l2 a3).f0), .int .i64 ((rd_T44 l2 a3).f1), .int .i64 ((rd_T44 l2 a3).f2), .int .i64 ((rd_T44 l2 a3).f3)] 44 (0, 0))) ∧ Aside0 (Below w.heap.size w wc))
                case first =>
                  have H := HC24.out
                  clear HC24
                  by_cases c25 : ((rd_T44 l2 a3).f0) = 1
                  · rw [if_pos c25] at H
                    have c25b0 : (((rd_T44 l2 a3).f0) == 1) = true := beq_iff_eq.mpr c25
                    have c25b1 : (((rd_T44 l2 a3).f0) != 1) = false := bne_eq_false_iff_eq.mpr c25
                    clear c25
                    (first | rw [c25b0] | (simp only [i64_w, i32_w]; rw [c25b0]) | skip)
                    replace H := Option.bind_eq_some_iff.mp H
                    obtain ⟨t247, A260, H⟩ := H
                    replace H : (if t247 = true then (if ((rd_T44 l2 a3).f0) = 2 then ((changeforgeref6_in.f ((rd_T44 l2 a3).f3) 0 1000000000).bind fun t248 => (changeforgeref6_eventCode.j1 kj10 l2 a3 (!t248) ((rd_T44 l2 a3).f0) ((rd_T44 l2 a3).f1) ((rd_T44 l2 a3).f2) ((rd_T44 l2 a3).f3))) else (changeforgeref6_eventCode.j1 kj10 l2 a3 false ((rd_T44 l2 a3).f0) ((rd_T44 l2 a3).f1) ((rd_T44 l2 a3).f2) ((rd_T44 l2 a3).f3))) else (changeforgeref6_eventCode.j1 kj10 l2 a3 true ((rd_T44 l2 a3).f0) ((rd_T44 l2 a3).f1) ((rd_T44 l2 a3).f2) ((rd_T44 l2 a3).f3))) = some r := H
                    have A26 := Aside0.mk A260
                    clear A260
                    by_cases c27 : t247 = true
                    · subst c27
                      have H1 : (if ((rd_T44 l2 a3).f0) = 2 then ((changeforgeref6_in.f ((rd_T44 l2 a3).f3) 0 1000000000).bind fun t248 => (changeforgeref6_eventCode.j1 kj10 l2 a3 (!t248) ((rd_T44 l2 a3).f0) ((rd_T44 l2 a3).f1) ((rd_T44 l2 a3).f2) ((rd_T44 l2 a3).f3))) else (changeforgeref6_eventCode.j1 kj10 l2 a3 false ((rd_T44 l2 a3).f0) ((rd_T44 l2 a3).f1) ((rd_T44 l2 a3).f2) ((rd_T44 l2 a3).f3))) = some r := by rw [if_pos rfl] at H; exact H
                      clear H
                      have H := H1
                      clear H1
                      by_cases c28 : ((rd_T44 l2 a3).f0) = 2
                      · rw [if_pos c28] at H
                        have c28b0 : (((rd_T44 l2 a3).f0) == 2) = true := beq_iff_eq.mpr c28
                        have c28b1 : (((rd_T44 l2 a3).f0) != 2) = false := bne_eq_false_iff_eq.mpr c28
                        clear c28
                        replace H := Option.bind_eq_some_iff.mp H
                        obtain ⟨t248, A290, H⟩ := H
                        replace H : (changeforgeref6_eventCode.j1 kj10 l2 a3 (!t248) ((rd_T44 l2 a3).f0) ((rd_T44 l2 a3).f1) ((rd_T44 l2 a3).f2) ((rd_T44 l2 a3).f3)) = some r := H
                        have A29 := Aside0.mk A290
                        clear A290
                        have H' := Aside0.mk H
                        clear H
                        have hcz30_0 : wc.cell? ⟨gb244, 0, none⟩ = some (.int .i64 ((rd_T44 l2 a3).f0)) := (blk_cell BK244.out 0).trans rfl
                        have hcz30_1 : wc.cell? ⟨gb244, 1, none⟩ = some (.int .i64 ((rd_T44 l2 a3).f1)) := (blk_cell BK244.out 1).trans rfl
                        have hcz30_2 : wc.cell? ⟨gb244, 2, none⟩ = some (.int .i64 ((rd_T44 l2 a3).f2)) := (blk_cell BK244.out 2).trans rfl
                        have hcz30_3 : wc.cell? ⟨gb244, 3, none⟩ = some (.int .i64 ((rd_T44 l2 a3).f3)) := (blk_cell BK244.out 3).trans rfl
                        have hfz30_0 := blk_frozen BK244.out 0
                        have hfz30_1 := blk_frozen BK244.out 1
                        have hfz30_2 := blk_frozen BK244.out 2
                        have hfz30_3 := blk_frozen BK244.out 3
                        go_wp2_with (first | (go_at_call 27; (with_reducible refine (changeforgeref6_in.calls ((rd_T44 l2 a3).f2) 0 (wrap64 (a0 - 1)) true _ A26.out).mono ?_); rintro e w' ⟨rfl, ⟨nd, rfl⟩⟩) | (go_at_call 27; (with_reducible refine (changeforgeref6_in.calls ((rd_T44 l2 a3).f3) 0 1000000000 t248 _ A29.out).mono ?_); rintro e w' ⟨rfl, ⟨nd, rfl⟩⟩))
                        go_meet
                        case rel => exact ⟨_, (!t248), (by first | rfl | (simp; done) | (simp [*]; done)), H', ⟨by have := HJ10.out; first | omega | exact Nat.le_refl _⟩, ⟨by (with_reducible repeat (first | refine blk_drewN ?_ _ | refine blk_drew ?_ | refine blk_alloc ?_ _)); exact BK244.out⟩, ⟨by repeat (first | (with_reducible first | exact HB.out | apply below_alloc | apply pw_below_drewN | apply below_drew1 | refine below_set ?_ GE244.out) | exact HB.out)⟩⟩
                      · rw [if_neg c28] at H
                        have c28b0 : (((rd_T44 l2 a3).f0) == 2) = false := beq_eq_false_iff_ne.mpr c28
                        have c28b1 : (((rd_T44 l2 a3).f0) != 2) = true := bne_iff_ne.mpr c28
                        have H' := Aside0.mk H
                        clear H
                        have hcz31_0 : wc.cell? ⟨gb244, 0, none⟩ = some (.int .i64 ((rd_T44 l2 a3).f0)) := (blk_cell BK244.out 0).trans rfl
                        have hcz31_1 : wc.cell? ⟨gb244, 1, none⟩ = some (.int .i64 ((rd_T44 l2 a3).f1)) := (blk_cell BK244.out 1).trans rfl
                        have hcz31_2 : wc.cell? ⟨gb244, 2, none⟩ = some (.int .i64 ((rd_T44 l2 a3).f2)) := (blk_cell BK244.out 2).trans rfl
                        have hcz31_3 : wc.cell? ⟨gb244, 3, none⟩ = some (.int .i64 ((rd_T44 l2 a3).f3)) := (blk_cell BK244.out 3).trans rfl
                        have hfz31_0 := blk_frozen BK244.out 0
                        have hfz31_1 := blk_frozen BK244.out 1
                        have hfz31_2 := blk_frozen BK244.out 2
                        have hfz31_3 := blk_frozen BK244.out 3
                        go_wp2_with (first | (go_at_call 27; (with_reducible refine (changeforgeref6_in.calls ((rd_T44 l2 a3).f2) 0 (wrap64 (a0 - 1)) true _ A26.out).mono ?_); rintro e w' ⟨rfl, ⟨nd, rfl⟩⟩))
                        go_meet
                        case rel => exact ⟨_, (false), (by first | rfl | (simp; done) | (simp [*]; done)), H', ⟨by have := HJ10.out; first | omega | exact Nat.le_refl _⟩, ⟨by (with_reducible repeat (first | refine blk_drewN ?_ _ | refine blk_drew ?_ | refine blk_alloc ?_ _)); exact BK244.out⟩, ⟨by repeat (first | (with_reducible first | exact HB.out | apply below_alloc | apply pw_below_drewN | apply below_drew1 | refine below_set ?_ GE244.out) | exact HB.out)⟩⟩
                    · replace c27 := Bool.eq_false_iff.mpr c27
                      subst c27
                      have H1 : (changeforgeref6_eventCode.j1 kj10 l2 a3 true ((rd_T44 l2 a3).f0) ((rd_T44 l2 a3).f1) ((rd_T44 l2 a3).f2) ((rd_T44 l2 a3).f3)) = some r := by rw [if_neg (show ¬ (false = true) by decide)] at H; exact H
                      clear H
                      have H := H1
                      clear H1
                      have H' := Aside0.mk H
                      clear H
                      have hcz32_0 : wc.cell? ⟨gb244, 0, none⟩ = some (.int .i64 ((rd_T44 l2 a3).f0)) := (blk_cell BK244.out 0).trans rfl
                      have hcz32_1 : wc.cell? ⟨gb244, 1, none⟩ = some (.int .i64 ((rd_T44 l2 a3).f1)) := (blk_cell BK244.out 1).trans rfl
                      have hcz32_2 : wc.cell? ⟨gb244, 2, none⟩ = some (.int .i64 ((rd_T44 l2 a3).f2)) := (blk_cell BK244.out 2).trans rfl
                      have hcz32_3 : wc.cell? ⟨gb244, 3, none⟩ = some (.int .i64 ((rd_T44 l2 a3).f3)) := (blk_cell BK244.out 3).trans rfl
                      have hfz32_0 := blk_frozen BK244.out 0
                      have hfz32_1 := blk_frozen BK244.out 1
                      have hfz32_2 := blk_frozen BK244.out 2
                      have hfz32_3 := blk_frozen BK244.out 3
                      go_wp2_with (first | (go_at_call 27; (with_reducible refine (changeforgeref6_in.calls ((rd_T44 l2 a3).f2) 0 (wrap64 (a0 - 1)) false _ A26.out).mono ?_); rintro e w' ⟨rfl, ⟨nd, rfl⟩⟩))
                      go_meet
                      case rel => exact ⟨_, (true), (by first | rfl | (simp; done) | (simp [*]; done)), H', ⟨by have := HJ10.out; first | omega | exact Nat.le_refl _⟩, ⟨by (with_reducible repeat (first | refine blk_drewN ?_ _ | refine blk_drew ?_ | refine blk_alloc ?_ _)); exact BK244.out⟩, ⟨by repeat (first | (with_reducible first | exact HB.out | apply below_alloc | apply pw_below_drewN | apply below_drew1 | refine below_set ?_ GE244.out) | exact HB.out)⟩⟩
                  · rw [if_neg c25] at H
                    have c25b0 : (((rd_T44 l2 a3).f0) == 1) = false := beq_eq_false_iff_ne.mpr c25
                    have c25b1 : (((rd_T44 l2 a3).f0) != 1) = true := bne_iff_ne.mpr c25
                    (first | rw [c25b0] | (simp only [i64_w, i32_w]; rw [c25b0]) | skip)
                    by_cases c33 : ((rd_T44 l2 a3).f0) = 2
                    · rw [if_pos c33] at H
                      have c33b0 : (((rd_T44 l2 a3).f0) == 2) = true := beq_iff_eq.mpr c33
                      have c33b1 : (((rd_T44 l2 a3).f0) != 2) = false := bne_eq_false_iff_eq.mpr c33
                      clear c33
                      replace H := Option.bind_eq_some_iff.mp H
                      obtain ⟨t249, A340, H⟩ := H
                      replace H : (changeforgeref6_eventCode.j1 kj10 l2 a3 (!t249) ((rd_T44 l2 a3).f0) ((rd_T44 l2 a3).f1) ((rd_T44 l2 a3).f2) ((rd_T44 l2 a3).f3)) = some r := H
                      have A34 := Aside0.mk A340
                      clear A340
                      have H' := Aside0.mk H
                      clear H
                      have hcz35_0 : wc.cell? ⟨gb244, 0, none⟩ = some (.int .i64 ((rd_T44 l2 a3).f0)) := (blk_cell BK244.out 0).trans rfl
                      have hcz35_1 : wc.cell? ⟨gb244, 1, none⟩ = some (.int .i64 ((rd_T44 l2 a3).f1)) := (blk_cell BK244.out 1).trans rfl
                      have hcz35_2 : wc.cell? ⟨gb244, 2, none⟩ = some (.int .i64 ((rd_T44 l2 a3).f2)) := (blk_cell BK244.out 2).trans rfl
                      have hcz35_3 : wc.cell? ⟨gb244, 3, none⟩ = some (.int .i64 ((rd_T44 l2 a3).f3)) := (blk_cell BK244.out 3).trans rfl
                      have hfz35_0 := blk_frozen BK244.out 0
                      have hfz35_1 := blk_frozen BK244.out 1
                      have hfz35_2 := blk_frozen BK244.out 2
                      have hfz35_3 := blk_frozen BK244.out 3
                      go_wp2_with (first | (go_at_call 27; (with_reducible refine (changeforgeref6_in.calls ((rd_T44 l2 a3).f3) 0 1000000000 t249 _ A34.out).mono ?_); rintro e w' ⟨rfl, ⟨nd, rfl⟩⟩))
                      go_meet
                      case rel => exact ⟨_, (!t249), (by first | rfl | (simp; done) | (simp [*]; done)), H', ⟨by have := HJ10.out; first | omega | exact Nat.le_refl _⟩, ⟨by (with_reducible repeat (first | refine blk_drewN ?_ _ | refine blk_drew ?_ | refine blk_alloc ?_ _)); exact BK244.out⟩, ⟨by repeat (first | (with_reducible first | exact HB.out | apply below_alloc | apply pw_below_drewN | apply below_drew1 | refine below_set ?_ GE244.out) | exact HB.out)⟩⟩
                    · rw [if_neg c33] at H
                      have c33b0 : (((rd_T44 l2 a3).f0) == 2) = false := beq_eq_false_iff_ne.mpr c33
                      have c33b1 : (((rd_T44 l2 a3).f0) != 2) = true := bne_iff_ne.mpr c33
                      have H' := Aside0.mk H
                      clear H
                      have hcz36_0 : wc.cell? ⟨gb244, 0, none⟩ = some (.int .i64 ((rd_T44 l2 a3).f0)) := (blk_cell BK244.out 0).trans rfl
                      have hcz36_1 : wc.cell? ⟨gb244, 1, none⟩ = some (.int .i64 ((rd_T44 l2 a3).f1)) := (blk_cell BK244.out 1).trans rfl
                      have hcz36_2 : wc.cell? ⟨gb244, 2, none⟩ = some (.int .i64 ((rd_T44 l2 a3).f2)) := (blk_cell BK244.out 2).trans rfl
                      have hcz36_3 : wc.cell? ⟨gb244, 3, none⟩ = some (.int .i64 ((rd_T44 l2 a3).f3)) := (blk_cell BK244.out 3).trans rfl
                      have hfz36_0 := blk_frozen BK244.out 0
                      have hfz36_1 := blk_frozen BK244.out 1
                      have hfz36_2 := blk_frozen BK244.out 2
                      have hfz36_3 := blk_frozen BK244.out 3
                      go_wp2
                      go_meet
                      case rel => exact ⟨_, (false), (by first | rfl | (simp; done) | (simp [*]; done)), H', ⟨by have := HJ10.out; first | omega | exact Nat.le_refl _⟩, ⟨by (with_reducible repeat (first | refine blk_drewN ?_ _ | refine blk_drew ?_ | refine blk_alloc ?_ _)); exact BK244.out⟩, ⟨by repeat (first | (with_reducible first | exact HB.out | apply below_alloc | apply pw_below_drewN | apply below_drew1 | refine below_set ?_ GE244.out) | exact HB.out)⟩⟩
                case rest =>
                  clear HC24
                  try clear c1
                  try clear c2
                  try clear p2
                  try clear q2
                  try clear hx2
                  try clear c3
                  try clear c5
                  try clear c5b0
                  try clear c6
                  try clear c6b0
                  try clear p6
                  try clear c8
                  try clear c10
                  try clear c14
                  try clear c14b0
                  try clear c14b1
                  try clear c15
                  try clear c15b0
                  try clear c15b1
                  try clear c18
                  try clear c18b0
                  try clear c18b1
                  try clear c19
                  try clear c19b0
                  try clear c19b1
                  try clear c23
                  try clear p24
                  try clear q24
                  try clear hx24
                  try clear c25
                  try clear c25b0
                  try clear c25b1
                  try clear c27
                  try clear c28
                  try clear c28b0
                  try clear c28b1
                  try clear c33
                  try clear c33b0
                  try clear c33b1
                  try clear hcz13_0
                  try clear hcz13_1
                  try clear hcz13_2
                  try clear hcz13_3
                  try clear hcz16_0
                  try clear hcz16_1
                  try clear hcz16_2
                  try clear hcz16_3
                  try clear hcz17_0
                  try clear hcz17_1
                  try clear hcz17_2
                  try clear hcz17_3
                  try clear hcz20_0
                  try clear hcz20_1
                  try clear hcz20_2
                  try clear hcz20_3
                  try clear hcz21_0
                  try clear hcz21_1
                  try clear hcz21_2
                  try clear hcz21_3
                  try clear hcz22_0
                  try clear hcz22_1
                  try clear hcz22_2
                  try clear hcz22_3
                  try clear hcz30_0
                  try clear hcz30_1
                  try clear hcz30_2
                  try clear hcz30_3
                  try clear hcz31_0
                  try clear hcz31_1
                  try clear hcz31_2
                  try clear hcz31_3
                  try clear hcz32_0
                  try clear hcz32_1
                  try clear hcz32_2
                  try clear hcz32_3
                  try clear hcz35_0
                  try clear hcz35_1
                  try clear hcz35_2
                  try clear hcz35_3
                  try clear hcz36_0
                  try clear hcz36_1
                  try clear hcz36_2
                  try clear hcz36_3
                  try clear hfz13_0
                  try clear hfz13_1
                  try clear hfz13_2
                  try clear hfz13_3
                  try clear hfz16_0
                  try clear hfz16_1
                  try clear hfz16_2
                  try clear hfz16_3
                  try clear hfz17_0
                  try clear hfz17_1
                  try clear hfz17_2
                  try clear hfz17_3
                  try clear hfz20_0
                  try clear hfz20_1
                  try clear hfz20_2
                  try clear hfz20_3
                  try clear hfz21_0
                  try clear hfz21_1
                  try clear hfz21_2
                  try clear hfz21_3
                  try clear hfz22_0
                  try clear hfz22_1
                  try clear hfz22_2
                  try clear hfz22_3
                  try clear hfz30_0
                  try clear hfz30_1
                  try clear hfz30_2
                  try clear hfz30_3
                  try clear hfz31_0
                  try clear hfz31_1
                  try clear hfz31_2
                  try clear hfz31_3
                  try clear hfz32_0
                  try clear hfz32_1
                  try clear hfz32_2
                  try clear hfz32_3
                  try clear hfz35_0
                  try clear hfz35_1
                  try clear hfz35_2
                  try clear hfz35_3
                  try clear hfz36_0
                  try clear hfz36_1
                  try clear hfz36_2
                  try clear hfz36_3
                  try clear hx243_0
                  try clear hx243_1
                  try clear hx243_2
                  try clear hx243_3
                  try clear p2
                  try clear p243
                  try clear p6
                  try clear q2
                  try clear q243
                  obtain ⟨kq, x64_23, rfl, HA, HJ23, BK244, HB⟩ := hcut
                  cases kq with
                  | zero => exact absurd HA.out (by simp [changeforgeref6_eventCode.j1])
                  | succ kj23 =>
                    have H := HA.out
                    clear HA
                    simp only [changeforgeref6_eventCode.j1] at H
                    by_cases c37 : x64_23 = true
                    · subst c37
                      have H1 : (some 3) = some r := by rw [if_pos rfl] at H; exact H
                      clear H
                      have H := H1
                      clear H1
                      obtain rfl := Option.some.inj H
                      go_wp2
                      go_ret
                      exact ⟨by first | rfl | (simp [errW_none, errW_some] <;> rfl) | (simp [*, errW_none, errW_some] <;> rfl), by repeat (first | (with_reducible first | exact HB.out | apply below_alloc | apply pw_below_drewN | apply below_drew1 | refine below_set ?_ GE244.out) | exact HB.out)⟩
                    · replace c37 := Bool.eq_false_iff.mpr c37
                      subst c37
                      have H1 : (if 0 ≤ a3 then (if a3 ≤ (l2.length : Int) then ((changeforgeref6_WorkingOn.f kj23 (l2.take (a3 : Int).toNat) ((rd_T44 l2 a3).f1)).bind fun t254 => (if ((rd_T44 l2 a3).f0) = 1 then (if t254 = (-1) then (if ((rd_T44 l2 a3).f0) = 2 then (if t254 < 0 then (changeforgeref6_eventCode.j2 kj23 l2 a3 true ((rd_T44 l2 a3).f0) ((rd_T44 l2 a3).f1) ((rd_T44 l2 a3).f2) ((rd_T44 l2 a3).f3)) else (if ((rd_T44 l2 a3).f0) = 3 then (if t254 = (-2) then (changeforgeref6_eventCode.j2 kj23 l2 a3 true ((rd_T44 l2 a3).f0) ((rd_T44 l2 a3).f1) ((rd_T44 l2 a3).f2) ((rd_T44 l2 a3).f3)) else (if ((rd_T44 l2 a3).f0) = 4 then (changeforgeref6_eventCode.j2 kj23 l2 a3 (t254 != (-2)) ((rd_T44 l2 a3).f0) ((rd_T44 l2 a3).f1) ((rd_T44 l2 a3).f2) ((rd_T44 l2 a3).f3)) else (changeforgeref6_eventCode.j2 kj23 l2 a3 false ((rd_T44 l2 a3).f0) ((rd_T44 l2 a3).f1) ((rd_T44 l2 a3).f2) ((rd_T44 l2 a3).f3)))) else (if ((rd_T44 l2 a3).f0) = 4 then (changeforgeref6_eventCode.j2 kj23 l2 a3 (t254 != (-2)) ((rd_T44 l2 a3).f0) ((rd_T44 l2 a3).f1) ((rd_T44 l2 a3).f2) ((rd_T44 l2 a3).f3)) else (changeforgeref6_eventCode.j2 kj23 l2 a3 false ((rd_T44 l2 a3).f0) ((rd_T44 l2 a3).f1) ((rd_T44 l2 a3).f2) ((rd_T44 l2 a3).f3))))) else (if ((rd_T44 l2 a3).f0) = 3 then (if t254 = (-2) then (changeforgeref6_eventCode.j2 kj23 l2 a3 true ((rd_T44 l2 a3).f0) ((rd_T44 l2 a3).f1) ((rd_T44 l2 a3).f2) ((rd_T44 l2 a3).f3)) else (if ((rd_T44 l2 a3).f0) = 4 then (changeforgeref6_eventCode.j2 kj23 l2 a3 (t254 != (-2)) ((rd_T44 l2 a3).f0) ((rd_T44 l2 a3).f1) ((rd_T44 l2 a3).f2) ((rd_T44 l2 a3).f3)) else (changeforgeref6_eventCode.j2 kj23 l2 a3 false ((rd_T44 l2 a3).f0) ((rd_T44 l2 a3).f1) ((rd_T44 l2 a3).f2) ((rd_T44 l2 a3).f3)))) else (if ((rd_T44 l2 a3).f0) = 4 then (changeforgeref6_eventCode.j2 kj23 l2 a3 (t254 != (-2)) ((rd_T44 l2 a3).f0) ((rd_T44 l2 a3).f1) ((rd_T44 l2 a3).f2) ((rd_T44 l2 a3).f3)) else (changeforgeref6_eventCode.j2 kj23 l2 a3 false ((rd_T44 l2 a3).f0) ((rd_T44 l2 a3).f1) ((rd_T44 l2 a3).f2) ((rd_T44 l2 a3).f3))))) else (changeforgeref6_eventCode.j2 kj23 l2 a3 true ((rd_T44 l2 a3).f0) ((rd_T44 l2 a3).f1) ((rd_T44 l2 a3).f2) ((rd_T44 l2 a3).f3))) else (if ((rd_T44 l2 a3).f0) = 2 then (if t254 < 0 then (changeforgeref6_eventCode.j2 kj23 l2 a3 true ((rd_T44 l2 a3).f0) ((rd_T44 l2 a3).f1) ((rd_T44 l2 a3).f2) ((rd_T44 l2 a3).f3)) else (if ((rd_T44 l2 a3).f0) = 3 then (if t254 = (-2) then (changeforgeref6_eventCode.j2 kj23 l2 a3 true ((rd_T44 l2 a3).f0) ((rd_T44 l2 a3).f1) ((rd_T44 l2 a3).f2) ((rd_T44 l2 a3).f3)) else (if ((rd_T44 l2 a3).f0) = 4 then (changeforgeref6_eventCode.j2 kj23 l2 a3 (t254 != (-2)) ((rd_T44 l2 a3).f0) ((rd_T44 l2 a3).f1) ((rd_T44 l2 a3).f2) ((rd_T44 l2 a3).f3)) else (changeforgeref6_eventCode.j2 kj23 l2 a3 false ((rd_T44 l2 a3).f0) ((rd_T44 l2 a3).f1) ((rd_T44 l2 a3).f2) ((rd_T44 l2 a3).f3)))) else (if ((rd_T44 l2 a3).f0) = 4 then (changeforgeref6_eventCode.j2 kj23 l2 a3 (t254 != (-2)) ((rd_T44 l2 a3).f0) ((rd_T44 l2 a3).f1) ((rd_T44 l2 a3).f2) ((rd_T44 l2 a3).f3)) else (changeforgeref6_eventCode.j2 kj23 l2 a3 false ((rd_T44 l2 a3).f0) ((rd_T44 l2 a3).f1) ((rd_T44 l2 a3).f2) ((rd_T44 l2 a3).f3))))) else (if ((rd_T44 l2 a3).f0) = 3 then (if t254 = (-2) then (changeforgeref6_eventCode.j2 kj23 l2 a3 true ((rd_T44 l2 a3).f0) ((rd_T44 l2 a3).f1) ((rd_T44 l2 a3).f2) ((rd_T44 l2 a3).f3)) else (if ((rd_T44 l2 a3).f0) = 4 then (changeforgeref6_eventCode.j2 kj23 l2 a3 (t254 != (-2)) ((rd_T44 l2 a3).f0) ((rd_T44 l2 a3).f1) ((rd_T44 l2 a3).f2) ((rd_T44 l2 a3).f3)) else (changeforgeref6_eventCode.j2 kj23 l2 a3 false ((rd_T44 l2 a3).f0) ((rd_T44 l2 a3).f1) ((rd_T44 l2 a3).f2) ((rd_T44 l2 a3).f3)))) else (if ((rd_T44 l2 a3).f0) = 4 then (changeforgeref6_eventCode.j2 kj23 l2 a3 (t254 != (-2)) ((rd_T44 l2 a3).f0) ((rd_T44 l2 a3).f1) ((rd_T44 l2 a3).f2) ((rd_T44 l2 a3).f3)) else (changeforgeref6_eventCode.j2 kj23 l2 a3 false ((rd_T44 l2 a3).f0) ((rd_T44 l2 a3).f1) ((rd_T44 l2 a3).f2) ((rd_T44 l2 a3).f3))))))) else (none)) else (none)) = some r := by rw [if_neg (show ¬ (false = true) by decide)] at H; exact H
                      clear H
                      have H := H1
                      clear H1
                      by_cases c38 : 0 ≤ a3
                      · rw [if_pos c38] at H
                        have c38b0 := eq_true c38
                        have c38b1 : decide (0 ≤ a3) = true := decide_eq_true c38
                        clear c38
                        by_cases c39 : a3 ≤ (l2.length : Int)
                        · rw [if_pos c39] at H
                          have c39b0 := eq_true c39
                          have c39b1 : decide (a3 ≤ (l2.length : Int)) = true := decide_eq_true c39
                          clear c39
                          obtain ⟨y250, hy250⟩ : ∃ y_ : List (S44), y_ = (l2.take (a3 : Int).toNat) := ⟨_, rfl⟩
                          replace H : ((changeforgeref6_WorkingOn.f kj23 y250 ((rd_T44 l2 a3).f1)).bind fun t254 => (if ((rd_T44 l2 a3).f0) = 1 then (if t254 = (-1) then (if ((rd_T44 l2 a3).f0) = 2 then (if t254 < 0 then (changeforgeref6_eventCode.j2 kj23 l2 a3 true ((rd_T44 l2 a3).f0) ((rd_T44 l2 a3).f1) ((rd_T44 l2 a3).f2) ((rd_T44 l2 a3).f3)) else (if ((rd_T44 l2 a3).f0) = 3 then (if t254 = (-2) then (changeforgeref6_eventCode.j2 kj23 l2 a3 true ((rd_T44 l2 a3).f0) ((rd_T44 l2 a3).f1) ((rd_T44 l2 a3).f2) ((rd_T44 l2 a3).f3)) else (if ((rd_T44 l2 a3).f0) = 4 then (changeforgeref6_eventCode.j2 kj23 l2 a3 (t254 != (-2)) ((rd_T44 l2 a3).f0) ((rd_T44 l2 a3).f1) ((rd_T44 l2 a3).f2) ((rd_T44 l2 a3).f3)) else (changeforgeref6_eventCode.j2 kj23 l2 a3 false ((rd_T44 l2 a3).f0) ((rd_T44 l2 a3).f1) ((rd_T44 l2 a3).f2) ((rd_T44 l2 a3).f3)))) else (if ((rd_T44 l2 a3).f0) = 4 then (changeforgeref6_eventCode.j2 kj23 l2 a3 (t254 != (-2)) ((rd_T44 l2 a3).f0) ((rd_T44 l2 a3).f1) ((rd_T44 l2 a3).f2) ((rd_T44 l2 a3).f3)) else (changeforgeref6_eventCode.j2 kj23 l2 a3 false ((rd_T44 l2 a3).f0) ((rd_T44 l2 a3).f1) ((rd_T44 l2 a3).f2) ((rd_T44 l2 a3).f3))))) else (if ((rd_T44 l2 a3).f0) = 3 then (if t254 = (-2) then (changeforgeref6_eventCode.j2 kj23 l2 a3 true ((rd_T44 l2 a3).f0) ((rd_T44 l2 a3).f1) ((rd_T44 l2 a3).f2) ((rd_T44 l2 a3).f3)) else (if ((rd_T44 l2 a3).f0) = 4 then (changeforgeref6_eventCode.j2 kj23 l2 a3 (t254 != (-2)) ((rd_T44 l2 a3).f0) ((rd_T44 l2 a3).f1) ((rd_T44 l2 a3).f2) ((rd_T44 l2 a3).f3)) else (changeforgeref6_eventCode.j2 kj23 l2 a3 false ((rd_T44 l2 a3).f0) ((rd_T44 l2 a3).f1) ((rd_T44 l2 a3).f2) ((rd_T44 l2 a3).f3)))) else (if ((rd_T44 l2 a3).f0) = 4 then (changeforgeref6_eventCode.j2 kj23 l2 a3 (t254 != (-2)) ((rd_T44 l2 a3).f0) ((rd_T44 l2 a3).f1) ((rd_T44 l2 a3).f2) ((rd_T44 l2 a3).f3)) else (changeforgeref6_eventCode.j2 kj23 l2 a3 false ((rd_T44 l2 a3).f0) ((rd_T44 l2 a3).f1) ((rd_T44 l2 a3).f2) ((rd_T44 l2 a3).f3))))) else (changeforgeref6_eventCode.j2 kj23 l2 a3 true ((rd_T44 l2 a3).f0) ((rd_T44 l2 a3).f1) ((rd_T44 l2 a3).f2) ((rd_T44 l2 a3).f3))) else (if ((rd_T44 l2 a3).f0) = 2 then (if t254 < 0 then (changeforgeref6_eventCode.j2 kj23 l2 a3 true ((rd_T44 l2 a3).f0) ((rd_T44 l2 a3).f1) ((rd_T44 l2 a3).f2) ((rd_T44 l2 a3).f3)) else (if ((rd_T44 l2 a3).f0) = 3 then (if t254 = (-2) then (changeforgeref6_eventCode.j2 kj23 l2 a3 true ((rd_T44 l2 a3).f0) ((rd_T44 l2 a3).f1) ((rd_T44 l2 a3).f2) ((rd_T44 l2 a3).f3)) else (if ((rd_T44 l2 a3).f0) = 4 then (changeforgeref6_eventCode.j2 kj23 l2 a3 (t254 != (-2)) ((rd_T44 l2 a3).f0) ((rd_T44 l2 a3).f1) ((rd_T44 l2 a3).f2) ((rd_T44 l2 a3).f3)) else (changeforgeref6_eventCode.j2 kj23 l2 a3 false ((rd_T44 l2 a3).f0) ((rd_T44 l2 a3).f1) ((rd_T44 l2 a3).f2) ((rd_T44 l2 a3).f3)))) else (if ((rd_T44 l2 a3).f0) = 4 then (changeforgeref6_eventCode.j2 kj23 l2 a3 (t254 != (-2)) ((rd_T44 l2 a3).f0) ((rd_T44 l2 a3).f1) ((rd_T44 l2 a3).f2) ((rd_T44 l2 a3).f3)) else (changeforgeref6_eventCode.j2 kj23 l2 a3 false ((rd_T44 l2 a3).f0) ((rd_T44 l2 a3).f1) ((rd_T44 l2 a3).f2) ((rd_T44 l2 a3).f3))))) else (if ((rd_T44 l2 a3).f0) = 3 then (if t254 = (-2) then (changeforgeref6_eventCode.j2 kj23 l2 a3 true ((rd_T44 l2 a3).f0) ((rd_T44 l2 a3).f1) ((rd_T44 l2 a3).f2) ((rd_T44 l2 a3).f3)) else (if ((rd_T44 l2 a3).f0) = 4 then (changeforgeref6_eventCode.j2 kj23 l2 a3 (t254 != (-2)) ((rd_T44 l2 a3).f0) ((rd_T44 l2 a3).f1) ((rd_T44 l2 a3).f2) ((rd_T44 l2 a3).f3)) else (changeforgeref6_eventCode.j2 kj23 l2 a3 false ((rd_T44 l2 a3).f0) ((rd_T44 l2 a3).f1) ((rd_T44 l2 a3).f2) ((rd_T44 l2 a3).f3)))) else (if ((rd_T44 l2 a3).f0) = 4 then (changeforgeref6_eventCode.j2 kj23 l2 a3 (t254 != (-2)) ((rd_T44 l2 a3).f0) ((rd_T44 l2 a3).f1) ((rd_T44 l2 a3).f2) ((rd_T44 l2 a3).f3)) else (changeforgeref6_eventCode.j2 kj23 l2 a3 false ((rd_T44 l2 a3).f0) ((rd_T44 l2 a3).f1) ((rd_T44 l2 a3).f2) ((rd_T44 l2 a3).f3))))))) = some r := by first | (rw [hy250]; with_reducible exact H) | (have H2_ := (Option.bind_some _ _).symm.trans H; rw [hy250]; with_reducible exact H2_) | (have H2_ := (Option.bind_some _ _).symm.trans H; with_reducible exact H2_) | with_reducible exact H | (rw [hy250]; exact H) | exact H
                          have Ny250 := Aside0.mk hy250
                          clear hy250
                          replace H := Option.bind_eq_some_iff.mp H
                          obtain ⟨t254, A400, H⟩ := H
                          replace H : (if ((rd_T44 l2 a3).f0) = 1 then (if t254 = (-1) then (if ((rd_T44 l2 a3).f0) = 2 then (if t254 < 0 then (changeforgeref6_eventCode.j2 kj23 l2 a3 true ((rd_T44 l2 a3).f0) ((rd_T44 l2 a3).f1) ((rd_T44 l2 a3).f2) ((rd_T44 l2 a3).f3)) else (if ((rd_T44 l2 a3).f0) = 3 then (if t254 = (-2) then (changeforgeref6_eventCode.j2 kj23 l2 a3 true ((rd_T44 l2 a3).f0) ((rd_T44 l2 a3).f1) ((rd_T44 l2 a3).f2) ((rd_T44 l2 a3).f3)) else (if ((rd_T44 l2 a3).f0) = 4 then (changeforgeref6_eventCode.j2 kj23 l2 a3 (t254 != (-2)) ((rd_T44 l2 a3).f0) ((rd_T44 l2 a3).f1) ((rd_T44 l2 a3).f2) ((rd_T44 l2 a3).f3)) else (changeforgeref6_eventCode.j2 kj23 l2 a3 false ((rd_T44 l2 a3).f0) ((rd_T44 l2 a3).f1) ((rd_T44 l2 a3).f2) ((rd_T44 l2 a3).f3)))) else (if ((rd_T44 l2 a3).f0) = 4 then (changeforgeref6_eventCode.j2 kj23 l2 a3 (t254 != (-2)) ((rd_T44 l2 a3).f0) ((rd_T44 l2 a3).f1) ((rd_T44 l2 a3).f2) ((rd_T44 l2 a3).f3)) else (changeforgeref6_eventCode.j2 kj23 l2 a3 false ((rd_T44 l2 a3).f0) ((rd_T44 l2 a3).f1) ((rd_T44 l2 a3).f2) ((rd_T44 l2 a3).f3))))) else (if ((rd_T44 l2 a3).f0) = 3 then (if t254 = (-2) then (changeforgeref6_eventCode.j2 kj23 l2 a3 true ((rd_T44 l2 a3).f0) ((rd_T44 l2 a3).f1) ((rd_T44 l2 a3).f2) ((rd_T44 l2 a3).f3)) else (if ((rd_T44 l2 a3).f0) = 4 then (changeforgeref6_eventCode.j2 kj23 l2 a3 (t254 != (-2)) ((rd_T44 l2 a3).f0) ((rd_T44 l2 a3).f1) ((rd_T44 l2 a3).f2) ((rd_T44 l2 a3).f3)) else (changeforgeref6_eventCode.j2 kj23 l2 a3 false ((rd_T44 l2 a3).f0) ((rd_T44 l2 a3).f1) ((rd_T44 l2 a3).f2) ((rd_T44 l2 a3).f3)))) else (if ((rd_T44 l2 a3).f0) = 4 then (changeforgeref6_eventCode.j2 kj23 l2 a3 (t254 != (-2)) ((rd_T44 l2 a3).f0) ((rd_T44 l2 a3).f1) ((rd_T44 l2 a3).f2) ((rd_T44 l2 a3).f3)) else (changeforgeref6_eventCode.j2 kj23 l2 a3 false ((rd_T44 l2 a3).f0) ((rd_T44 l2 a3).f1) ((rd_T44 l2 a3).f2) ((rd_T44 l2 a3).f3))))) else (changeforgeref6_eventCode.j2 kj23 l2 a3 true ((rd_T44 l2 a3).f0) ((rd_T44 l2 a3).f1) ((rd_T44 l2 a3).f2) ((rd_T44 l2 a3).f3))) else (if ((rd_T44 l2 a3).f0) = 2 then (if t254 < 0 then (changeforgeref6_eventCode.j2 kj23 l2 a3 true ((rd_T44 l2 a3).f0) ((rd_T44 l2 a3).f1) ((rd_T44 l2 a3).f2) ((rd_T44 l2 a3).f3)) else (if ((rd_T44 l2 a3).f0) = 3 then (if t254 = (-2) then (changeforgeref6_eventCode.j2 kj23 l2 a3 true ((rd_T44 l2 a3).f0) ((rd_T44 l2 a3).f1) ((rd_T44 l2 a3).f2) ((rd_T44 l2 a3).f3)) else (if ((rd_T44 l2 a3).f0) = 4 then (changeforgeref6_eventCode.j2 kj23 l2 a3 (t254 != (-2)) ((rd_T44 l2 a3).f0) ((rd_T44 l2 a3).f1) ((rd_T44 l2 a3).f2) ((rd_T44 l2 a3).f3)) else (changeforgeref6_eventCode.j2 kj23 l2 a3 false ((rd_T44 l2 a3).f0) ((rd_T44 l2 a3).f1) ((rd_T44 l2 a3).f2) ((rd_T44 l2 a3).f3)))) else (if ((rd_T44 l2 a3).f0) = 4 then (changeforgeref6_eventCode.j2 kj23 l2 a3 (t254 != (-2)) ((rd_T44 l2 a3).f0) ((rd_T44 l2 a3).f1) ((rd_T44 l2 a3).f2) ((rd_T44 l2 a3).f3)) else (changeforgeref6_eventCode.j2 kj23 l2 a3 false ((rd_T44 l2 a3).f0) ((rd_T44 l2 a3).f1) ((rd_T44 l2 a3).f2) ((rd_T44 l2 a3).f3))))) else (if ((rd_T44 l2 a3).f0) = 3 then (if t254 = (-2) then (changeforgeref6_eventCode.j2 kj23 l2 a3 true ((rd_T44 l2 a3).f0) ((rd_T44 l2 a3).f1) ((rd_T44 l2 a3).f2) ((rd_T44 l2 a3).f3)) else (if ((rd_T44 l2 a3).f0) = 4 then (changeforgeref6_eventCode.j2 kj23 l2 a3 (t254 != (-2)) ((rd_T44 l2 a3).f0) ((rd_T44 l2 a3).f1) ((rd_T44 l2 a3).f2) ((rd_T44 l2 a3).f3)) else (changeforgeref6_eventCode.j2 kj23 l2 a3 false ((rd_T44 l2 a3).f0) ((rd_T44 l2 a3).f1) ((rd_T44 l2 a3).f2) ((rd_T44 l2 a3).f3)))) else (if ((rd_T44 l2 a3).f0) = 4 then (changeforgeref6_eventCode.j2 kj23 l2 a3 (t254 != (-2)) ((rd_T44 l2 a3).f0) ((rd_T44 l2 a3).f1) ((rd_T44 l2 a3).f2) ((rd_T44 l2 a3).f3)) else (changeforgeref6_eventCode.j2 kj23 l2 a3 false ((rd_T44 l2 a3).f0) ((rd_T44 l2 a3).f1) ((rd_T44 l2 a3).f2) ((rd_T44 l2 a3).f3)))))) = some r := H
                          have A40 := Aside0.mk A400
                          clear A400
                          have HC41 := Aside0.mk H
                          clear H
                          try go_wp2
                          have n0_ := Aside0.mk (blk_drew BK244.out)
                          have n1_ := Aside0.mk (below_drew1 HB.out)
                          clear BK244
                          clear HB
                          have BK244 := n0_
                          have HB := n1_
                          clear n0_ n1_
                          have q43 : (a3 : Int) ≤ ((l2.length : Int) : Int) := of_decide_eq_true (by first | (with_reducible assumption) | assumption)
                          obtain ⟨i043, hi043, _, hsz43, _⟩ := info_parts info44
                          have hroom43 : l2.length ≤ c2 := HC2.out
                          have hC43 : Kd.C k44 _ (some ad243) l2.length l2 := HR2.out
                          have hcut43 := cut_to (P := Try.prog) 22 44 .i64 Try.underlying22 hi043 (some ad243) l2.length c2 a3 (of_decide_eq_true (by first | (with_reducible assumption) | assumption)) q43 hroom43
                          have hr43 := Kd.C_take (m := (a3 : Int).toNat) hC43 (by omega)
                          have hy43 : y250.length = (a3 : Int).toNat := (by rw [Ny250.out, List.length_take]; omega)
                          rw [← Ny250.out] at hr43
                          rw [← hy43] at hcut43
                          have HR253 := Aside0.mk hr43
                          have HC253 := Aside0.mk (show y250.length ≤ c2 from by omega)
                          clear hr43 hC43 hroom43 hi043 hsz43
                          have KY43 := Aside0.mk hy43
                          clear hy43
                          replace q43 := eq_true q43
                          refine start_ (n := 7) (S := fun w' => w'.cell? ⟨gb244, 0, none⟩ = some (.int .i64 ((rd_T44 l2 a3).f0)) ∧ w'.cell? ⟨gb244, 1, none⟩ = some (.int .i64 ((rd_T44 l2 a3).f1)) ∧ w'.cell? ⟨gb244, 2, none⟩ = some (.int .i64 ((rd_T44 l2 a3).f2)) ∧ w'.cell? ⟨gb244, 3, none⟩ = some (.int .i64 ((rd_T44 l2 a3).f3))) (ds := []) #[false, false, false, false, false, false, false] (by kernel_rfl) rfl rfl ⟨(blk_cell BK244.out 0).trans rfl, (blk_cell BK244.out 1).trans rfl, (blk_cell BK244.out 2).trans rfl, (blk_cell BK244.out 3).trans rfl⟩ (fun hHeld => ?_)
                          generalize wc.drew = w42 at BK244 HB HR253 hHeld ⊢
                          refine pure_ (i := 0) (N := some 65) (v := ?_) (a' := ?_) #[true, false, false, false, false, false, false] rfl rfl (by kernel_rfl) (fun _ _ _ h => h) (Or.inl ⟨by rfl, ?_⟩) ?_ ?_
                          rotate_left
                          · intro w'
                            go_simp
                            with_reducible rfl
                          rotate_left
                          · simp only [Act.put, List.setIfInBounds_toArray, List.set_cons_zero, List.set_cons_succ, i64_w, i32_w]
                            rfl
                          refine pure_ (i := 1) (N := some 66) (v := ?_) (a' := ?_) #[true, true, false, false, false, false, false] rfl rfl (by kernel_rfl) (fun _ _ _ h => h) (Or.inl ⟨by rfl, ?_⟩) ?_ ?_
                          rotate_left
                          · intro w'
                            go_simp
                            with_reducible rfl
                          rotate_left
                          · simp only [Act.put, List.setIfInBounds_toArray, List.set_cons_zero, List.set_cons_succ, i64_w, i32_w]
                            rfl
                          refine pure_ (i := 2) (N := some 67) (v := ?_) (a' := ?_) #[true, true, true, false, false, false, false] rfl rfl (by kernel_rfl) (fun _ _ _ h => h) (Or.inl ⟨by rfl, ?_⟩) ?_ ?_
                          rotate_left
                          · intro w'
                            go_simp
                            with_reducible rfl
                          rotate_left
                          · simp only [Act.put, List.setIfInBounds_toArray, List.set_cons_zero, List.set_cons_succ, i64_w, i32_w]
                            rfl
                          refine pure_ (i := 3) (N := some 68) (v := ?_) (a' := ?_) #[true, true, true, true, false, false, false] rfl rfl (by kernel_rfl) (fun _ _ _ h => h) (Or.inl ⟨by rfl, ?_⟩) ?_ ?_
                          rotate_left
                          · intro w'
                            go_simp
                            with_reducible rfl
                          rotate_left
                          · simp only [Act.put, List.setIfInBounds_toArray, List.set_cons_zero, List.set_cons_succ, i64_w, i32_w]
                            rfl
                          refine take_ (i := 4) (N := some 69) (v := ?_) (a' := ?_) #[true, true, true, true, true, false, false] rfl rfl (by kernel_rfl) (fun _ _ _ h => h) (Or.inl ⟨by rfl, ?_⟩) hHeld ?_ ?_
                          rotate_left
                          · rintro w' ⟨s0, s1, s2, s3⟩
                            go_simp
                            with_reducible rfl
                          rotate_left
                          · simp only [Act.put, List.setIfInBounds_toArray, List.set_cons_zero, List.set_cons_succ, i64_w, i32_w]
                            rfl
                          refine one_ (i := 5) (N := some 70) #[true, true, true, true, true, true, false] rfl rfl (by kernel_rfl) (by decide) (fun K hK => ?_)
                          refine goes_ Try.func20 (by kernel_rfl) rfl #[.slice (some ad243) y250.length c2, .int .i64 ((rd_T44 l2 a3).f1)] (by rfl) rfl rfl (by (try simp only [List.map_toArray, List.map_cons, List.map_nil]); first | done | rfl | (simp only [List.length_drop, List.length_take]; rfl) | (simp only [KY100.out]; rfl) | (simp only [KY43.out]; rfl) | (simp only [KY97.out]; rfl) | (go_simp; rw [KY100.out, KY43.out]) | (go_simp; rw [KY100.out, KY97.out]) | (go_simp; rw [KY43.out, KY100.out]) | (go_simp; rw [KY43.out, KY97.out]) | (go_simp; rw [KY97.out, KY100.out]) | (go_simp; rw [KY97.out, KY43.out])) ?_
                          with_reducible refine (changeforgeref6_WorkingOn.calls kj23 _ _ y250 ((rd_T44 l2 a3).f1) t254 _ ?side1 ?side2 A40.out).mono ?_
                          (case side1 => repeat (first | exact (Kd.C_below HR253.out HB.out) | (with_reducible refine Kd.C_alloc ?_ _) | (with_reducible refine Kd.C_drewN ?_ _) | (with_reducible refine Kd.C_drew ?_)))
                          (case side2 => exact HC253.out)
                          rintro e w44 ⟨rfl, hb⟩
                          refine ⟨_, rfl, ?_⟩
                          have n0_ := Aside0.mk (blk_below (g := gb244) (o := .cells #[.int .i64 ((rd_T44 l2 a3).f0), .int .i64 ((rd_T44 l2 a3).f1), .int .i64 ((rd_T44 l2 a3).f2), .int .i64 ((rd_T44 l2 a3).f3)] 44 (0, 0)) (by (with_reducible repeat (first | refine blk_drewN ?_ _ | refine blk_drew ?_ | refine blk_alloc ?_ _)); exact BK244.out) hb)
                          have n1_ := Aside0.mk (below_step (by repeat (first | (with_reducible first | exact HB.out | apply below_alloc | apply pw_below_drewN | apply below_drew1 | refine below_set ?_ GE244.out) | exact HB.out)) hb)
                          clear BK244
                          clear HB
                          have BK244 := n0_
                          have HB := n1_
                          clear n0_ n1_
                          (try clear hb)
                          (try clear hb2)
                          (try clear hk)
                          (try clear hi)
                          refine hK.out _ _ ⟨(blk_cell BK244.out 0).trans rfl, (blk_cell BK244.out 1).trans rfl, (blk_cell BK244.out 2).trans rfl, (blk_cell BK244.out 3).trans rfl⟩ (fun hHeld => ?_)
                          clear hK K
                          refine norm_ (a' := ?_) ?_ ?_
                          rotate_left
                          · show Act.put _ (some 70) _ = _
                            simp only [Act.put, List.setIfInBounds_toArray, List.set_cons_zero, List.set_cons_succ, i64_w, i32_w]
                            rfl
                          refine pure_ (i := 6) (N := some 10) (v := ?_) (a' := ?_) #[true, true, true, true, true, true, true] rfl rfl (by kernel_rfl) (fun _ _ _ h => h) (Or.inl ⟨by rfl, ?_⟩) ?_ ?_
                          rotate_left
                          · intro w'
                            go_simp
                            with_reducible rfl
                          rotate_left
                          · simp only [Act.put, List.setIfInBounds_toArray, List.set_cons_zero, List.set_cons_succ, i64_w, i32_w]
                            rfl
                          refine done_ (by kernel_rfl) ?_
                          go_upto_region 11 with (fail)
                          go_cut [104] (fun v104 wc => ∃ (kq : Nat) (x104_40 : Bool), v104 = .bool x104_40 ∧ Aside0 (changeforgeref6_eventCode.j2 kq l2 a3 x104_40 ((rd_T44 l2 a3).f0) ((rd_T44 l2 a3).f1) ((rd_T44 l2 a3).f2) ((rd_T44 l2 a3).f3) = some r) ∧ Aside0 (kq ≤ kj23) ∧ Aside0 (wc.heap[gb244]? = some (.cells #[.int .i64 ((rd_T44 l2 a3).f0), .int .i64 ((rd_T44 l2 a3).f1), .int .i64 ((rd_T44 l2 a3).f2), .int .i64 ((rd_T44 l2 a3).f3)] 44 (0, 0))) ∧ Aside0 (Below w.heap.size w wc))
                          case first =>
                            have H := HC41.out
                            clear HC41
                            by_cases c45 : ((rd_T44 l2 a3).f0) = 1
                            · rw [if_pos c45] at H
                              have c45b0 : (((rd_T44 l2 a3).f0) == 1) = true := beq_iff_eq.mpr c45
                              have c45b1 : (((rd_T44 l2 a3).f0) != 1) = false := bne_eq_false_iff_eq.mpr c45
                              clear c45
                              (first | rw [c45b0] | (simp only [i64_w, i32_w]; rw [c45b0]) | skip)
                              by_cases c46 : t254 = (-1)
                              · rw [if_pos c46] at H
                                have c46b0 : (t254 == (-1)) = true := beq_iff_eq.mpr c46
                                have c46b1 : (t254 != (-1)) = false := bne_eq_false_iff_eq.mpr c46
                                clear c46
                                by_cases c47 : ((rd_T44 l2 a3).f0) = 2
                                · rw [if_pos c47] at H
                                  have c47b0 : (((rd_T44 l2 a3).f0) == 2) = true := beq_iff_eq.mpr c47
                                  have c47b1 : (((rd_T44 l2 a3).f0) != 2) = false := bne_eq_false_iff_eq.mpr c47
                                  clear c47
                                  by_cases c48 : t254 < 0
                                  · rw [if_pos c48] at H
                                    have c48b0 : decide (t254 < 0) = true := decide_eq_true c48
                                    clear c48
                                    have H' := Aside0.mk H
                                    clear H
                                    have hcz49_0 : w44.cell? ⟨gb244, 0, none⟩ = some (.int .i64 ((rd_T44 l2 a3).f0)) := (blk_cell BK244.out 0).trans rfl
                                    have hcz49_1 : w44.cell? ⟨gb244, 1, none⟩ = some (.int .i64 ((rd_T44 l2 a3).f1)) := (blk_cell BK244.out 1).trans rfl
                                    have hcz49_2 : w44.cell? ⟨gb244, 2, none⟩ = some (.int .i64 ((rd_T44 l2 a3).f2)) := (blk_cell BK244.out 2).trans rfl
                                    have hcz49_3 : w44.cell? ⟨gb244, 3, none⟩ = some (.int .i64 ((rd_T44 l2 a3).f3)) := (blk_cell BK244.out 3).trans rfl
                                    have hfz49_0 := blk_frozen BK244.out 0
                                    have hfz49_1 := blk_frozen BK244.out 1
                                    have hfz49_2 := blk_frozen BK244.out 2
                                    have hfz49_3 := blk_frozen BK244.out 3
                                    go_wp2
                                    go_meet
                                    case rel => exact ⟨_, (true), (by first | rfl | (simp; done) | (simp [*]; done)), H', ⟨by have := HJ10.out; have := HJ23.out; first | omega | exact Nat.le_refl _⟩, ⟨by (with_reducible repeat (first | refine blk_drewN ?_ _ | refine blk_drew ?_ | refine blk_alloc ?_ _)); exact BK244.out⟩, ⟨by repeat (first | (with_reducible first | exact HB.out | apply below_alloc | apply pw_below_drewN | apply below_drew1 | refine below_set ?_ GE244.out) | exact HB.out)⟩⟩
                                  · rw [if_neg c48] at H
                                    have c48b0 : decide (t254 < 0) = false := decide_eq_false c48
                                    clear c48
                                    by_cases c50 : ((rd_T44 l2 a3).f0) = 3
                                    · rw [if_pos c50] at H
                                      have c50b0 : (((rd_T44 l2 a3).f0) == 3) = true := beq_iff_eq.mpr c50
                                      have c50b1 : (((rd_T44 l2 a3).f0) != 3) = false := bne_eq_false_iff_eq.mpr c50
                                      clear c50
                                      by_cases c51 : t254 = (-2)
                                      · rw [if_pos c51] at H
                                        have c51b0 : (t254 == (-2)) = true := beq_iff_eq.mpr c51
                                        have c51b1 : (t254 != (-2)) = false := bne_eq_false_iff_eq.mpr c51
                                        clear c51
                                        have H' := Aside0.mk H
                                        clear H
                                        have hcz52_0 : w44.cell? ⟨gb244, 0, none⟩ = some (.int .i64 ((rd_T44 l2 a3).f0)) := (blk_cell BK244.out 0).trans rfl
                                        have hcz52_1 : w44.cell? ⟨gb244, 1, none⟩ = some (.int .i64 ((rd_T44 l2 a3).f1)) := (blk_cell BK244.out 1).trans rfl
                                        have hcz52_2 : w44.cell? ⟨gb244, 2, none⟩ = some (.int .i64 ((rd_T44 l2 a3).f2)) := (blk_cell BK244.out 2).trans rfl
                                        have hcz52_3 : w44.cell? ⟨gb244, 3, none⟩ = some (.int .i64 ((rd_T44 l2 a3).f3)) := (blk_cell BK244.out 3).trans rfl
                                        have hfz52_0 := blk_frozen BK244.out 0
                                        have hfz52_1 := blk_frozen BK244.out 1
                                        have hfz52_2 := blk_frozen BK244.out 2
                                        have hfz52_3 := blk_frozen BK244.out 3
                                        go_wp2
                                        go_meet
                                        case rel => exact ⟨_, (true), (by first | rfl | (simp; done) | (simp [*]; done)), H', ⟨by have := HJ10.out; have := HJ23.out; first | omega | exact Nat.le_refl _⟩, ⟨by (with_reducible repeat (first | refine blk_drewN ?_ _ | refine blk_drew ?_ | refine blk_alloc ?_ _)); exact BK244.out⟩, ⟨by repeat (first | (with_reducible first | exact HB.out | apply below_alloc | apply pw_below_drewN | apply below_drew1 | refine below_set ?_ GE244.out) | exact HB.out)⟩⟩
                                      · rw [if_neg c51] at H
                                        have c51b0 : (t254 == (-2)) = false := beq_eq_false_iff_ne.mpr c51
                                        have c51b1 : (t254 != (-2)) = true := bne_iff_ne.mpr c51
                                        by_cases c53 : ((rd_T44 l2 a3).f0) = 4
                                        · rw [if_pos c53] at H
                                          have c53b0 : (((rd_T44 l2 a3).f0) == 4) = true := beq_iff_eq.mpr c53
                                          have c53b1 : (((rd_T44 l2 a3).f0) != 4) = false := bne_eq_false_iff_eq.mpr c53
                                          clear c53
                                          have H' := Aside0.mk H
                                          clear H
                                          have hcz54_0 : w44.cell? ⟨gb244, 0, none⟩ = some (.int .i64 ((rd_T44 l2 a3).f0)) := (blk_cell BK244.out 0).trans rfl
                                          have hcz54_1 : w44.cell? ⟨gb244, 1, none⟩ = some (.int .i64 ((rd_T44 l2 a3).f1)) := (blk_cell BK244.out 1).trans rfl
                                          have hcz54_2 : w44.cell? ⟨gb244, 2, none⟩ = some (.int .i64 ((rd_T44 l2 a3).f2)) := (blk_cell BK244.out 2).trans rfl
                                          have hcz54_3 : w44.cell? ⟨gb244, 3, none⟩ = some (.int .i64 ((rd_T44 l2 a3).f3)) := (blk_cell BK244.out 3).trans rfl
                                          have hfz54_0 := blk_frozen BK244.out 0
                                          have hfz54_1 := blk_frozen BK244.out 1
                                          have hfz54_2 := blk_frozen BK244.out 2
                                          have hfz54_3 := blk_frozen BK244.out 3
                                          go_wp2
                                          go_meet
                                          case rel => exact ⟨_, ((t254 != (-2))), (by first | rfl | (simp; done) | (simp [*]; done)), H', ⟨by have := HJ10.out; have := HJ23.out; first | omega | exact Nat.le_refl _⟩, ⟨by (with_reducible repeat (first | refine blk_drewN ?_ _ | refine blk_drew ?_ | refine blk_alloc ?_ _)); exact BK244.out⟩, ⟨by repeat (first | (with_reducible first | exact HB.out | apply below_alloc | apply pw_below_drewN | apply below_drew1 | refine below_set ?_ GE244.out) | exact HB.out)⟩⟩
                                        · rw [if_neg c53] at H
                                          have c53b0 : (((rd_T44 l2 a3).f0) == 4) = false := beq_eq_false_iff_ne.mpr c53
                                          have c53b1 : (((rd_T44 l2 a3).f0) != 4) = true := bne_iff_ne.mpr c53
                                          have H' := Aside0.mk H
                                          clear H
                                          have hcz55_0 : w44.cell? ⟨gb244, 0, none⟩ = some (.int .i64 ((rd_T44 l2 a3).f0)) := (blk_cell BK244.out 0).trans rfl
                                          have hcz55_1 : w44.cell? ⟨gb244, 1, none⟩ = some (.int .i64 ((rd_T44 l2 a3).f1)) := (blk_cell BK244.out 1).trans rfl
                                          have hcz55_2 : w44.cell? ⟨gb244, 2, none⟩ = some (.int .i64 ((rd_T44 l2 a3).f2)) := (blk_cell BK244.out 2).trans rfl
                                          have hcz55_3 : w44.cell? ⟨gb244, 3, none⟩ = some (.int .i64 ((rd_T44 l2 a3).f3)) := (blk_cell BK244.out 3).trans rfl
                                          have hfz55_0 := blk_frozen BK244.out 0
                                          have hfz55_1 := blk_frozen BK244.out 1
                                          have hfz55_2 := blk_frozen BK244.out 2
                                          have hfz55_3 := blk_frozen BK244.out 3
                                          go_wp2
                                          go_meet
                                          case rel => exact ⟨_, (false), (by first | rfl | (simp; done) | (simp [*]; done)), H', ⟨by have := HJ10.out; have := HJ23.out; first | omega | exact Nat.le_refl _⟩, ⟨by (with_reducible repeat (first | refine blk_drewN ?_ _ | refine blk_drew ?_ | refine blk_alloc ?_ _)); exact BK244.out⟩, ⟨by repeat (first | (with_reducible first | exact HB.out | apply below_alloc | apply pw_below_drewN | apply below_drew1 | refine below_set ?_ GE244.out) | exact HB.out)⟩⟩
                                    · rw [if_neg c50] at H
                                      have c50b0 : (((rd_T44 l2 a3).f0) == 3) = false := beq_eq_false_iff_ne.mpr c50
                                      have c50b1 : (((rd_T44 l2 a3).f0) != 3) = true := bne_iff_ne.mpr c50
                                      by_cases c56 : ((rd_T44 l2 a3).f0) = 4
                                      · rw [if_pos c56] at H
                                        have c56b0 : (((rd_T44 l2 a3).f0) == 4) = true := beq_iff_eq.mpr c56
                                        have c56b1 : (((rd_T44 l2 a3).f0) != 4) = false := bne_eq_false_iff_eq.mpr c56
                                        clear c56
                                        have H' := Aside0.mk H
                                        clear H
                                        have hcz57_0 : w44.cell? ⟨gb244, 0, none⟩ = some (.int .i64 ((rd_T44 l2 a3).f0)) := (blk_cell BK244.out 0).trans rfl
                                        have hcz57_1 : w44.cell? ⟨gb244, 1, none⟩ = some (.int .i64 ((rd_T44 l2 a3).f1)) := (blk_cell BK244.out 1).trans rfl
                                        have hcz57_2 : w44.cell? ⟨gb244, 2, none⟩ = some (.int .i64 ((rd_T44 l2 a3).f2)) := (blk_cell BK244.out 2).trans rfl
                                        have hcz57_3 : w44.cell? ⟨gb244, 3, none⟩ = some (.int .i64 ((rd_T44 l2 a3).f3)) := (blk_cell BK244.out 3).trans rfl
                                        have hfz57_0 := blk_frozen BK244.out 0
                                        have hfz57_1 := blk_frozen BK244.out 1
                                        have hfz57_2 := blk_frozen BK244.out 2
                                        have hfz57_3 := blk_frozen BK244.out 3
                                        go_wp2
                                        go_meet
                                        case rel => exact ⟨_, ((t254 != (-2))), (by first | rfl | (simp; done) | (simp [*]; done)), H', ⟨by have := HJ10.out; have := HJ23.out; first | omega | exact Nat.le_refl _⟩, ⟨by (with_reducible repeat (first | refine blk_drewN ?_ _ | refine blk_drew ?_ | refine blk_alloc ?_ _)); exact BK244.out⟩, ⟨by repeat (first | (with_reducible first | exact HB.out | apply below_alloc | apply pw_below_drewN | apply below_drew1 | refine below_set ?_ GE244.out) | exact HB.out)⟩⟩
                                      · rw [if_neg c56] at H
                                        have c56b0 : (((rd_T44 l2 a3).f0) == 4) = false := beq_eq_false_iff_ne.mpr c56
                                        have c56b1 : (((rd_T44 l2 a3).f0) != 4) = true := bne_iff_ne.mpr c56
                                        have H' := Aside0.mk H
                                        clear H
                                        have hcz58_0 : w44.cell? ⟨gb244, 0, none⟩ = some (.int .i64 ((rd_T44 l2 a3).f0)) := (blk_cell BK244.out 0).trans rfl
                                        have hcz58_1 : w44.cell? ⟨gb244, 1, none⟩ = some (.int .i64 ((rd_T44 l2 a3).f1)) := (blk_cell BK244.out 1).trans rfl
                                        have hcz58_2 : w44.cell? ⟨gb244, 2, none⟩ = some (.int .i64 ((rd_T44 l2 a3).f2)) := (blk_cell BK244.out 2).trans rfl
                                        have hcz58_3 : w44.cell? ⟨gb244, 3, none⟩ = some (.int .i64 ((rd_T44 l2 a3).f3)) := (blk_cell BK244.out 3).trans rfl
                                        have hfz58_0 := blk_frozen BK244.out 0
                                        have hfz58_1 := blk_frozen BK244.out 1
                                        have hfz58_2 := blk_frozen BK244.out 2
                                        have hfz58_3 := blk_frozen BK244.out 3
                                        go_wp2
                                        go_meet
                                        case rel => exact ⟨_, (false), (by first | rfl | (simp; done) | (simp [*]; done)), H', ⟨by have := HJ10.out; have := HJ23.out; first | omega | exact Nat.le_refl _⟩, ⟨by (with_reducible repeat (first | refine blk_drewN ?_ _ | refine blk_drew ?_ | refine blk_alloc ?_ _)); exact BK244.out⟩, ⟨by repeat (first | (with_reducible first | exact HB.out | apply below_alloc | apply pw_below_drewN | apply below_drew1 | refine below_set ?_ GE244.out) | exact HB.out)⟩⟩
                                · rw [if_neg c47] at H
                                  have c47b0 : (((rd_T44 l2 a3).f0) == 2) = false := beq_eq_false_iff_ne.mpr c47
                                  have c47b1 : (((rd_T44 l2 a3).f0) != 2) = true := bne_iff_ne.mpr c47
                                  by_cases c59 : ((rd_T44 l2 a3).f0) = 3
                                  · rw [if_pos c59] at H
                                    have c59b0 : (((rd_T44 l2 a3).f0) == 3) = true := beq_iff_eq.mpr c59
                                    have c59b1 : (((rd_T44 l2 a3).f0) != 3) = false := bne_eq_false_iff_eq.mpr c59
                                    clear c59
                                    by_cases c60 : t254 = (-2)
                                    · rw [if_pos c60] at H
                                      have c60b0 : (t254 == (-2)) = true := beq_iff_eq.mpr c60
                                      have c60b1 : (t254 != (-2)) = false := bne_eq_false_iff_eq.mpr c60
                                      clear c60
                                      have H' := Aside0.mk H
                                      clear H
                                      have hcz61_0 : w44.cell? ⟨gb244, 0, none⟩ = some (.int .i64 ((rd_T44 l2 a3).f0)) := (blk_cell BK244.out 0).trans rfl
                                      have hcz61_1 : w44.cell? ⟨gb244, 1, none⟩ = some (.int .i64 ((rd_T44 l2 a3).f1)) := (blk_cell BK244.out 1).trans rfl
                                      have hcz61_2 : w44.cell? ⟨gb244, 2, none⟩ = some (.int .i64 ((rd_T44 l2 a3).f2)) := (blk_cell BK244.out 2).trans rfl
                                      have hcz61_3 : w44.cell? ⟨gb244, 3, none⟩ = some (.int .i64 ((rd_T44 l2 a3).f3)) := (blk_cell BK244.out 3).trans rfl
                                      have hfz61_0 := blk_frozen BK244.out 0
                                      have hfz61_1 := blk_frozen BK244.out 1
                                      have hfz61_2 := blk_frozen BK244.out 2
                                      have hfz61_3 := blk_frozen BK244.out 3
                                      go_wp2
                                      go_meet
                                      case rel => exact ⟨_, (true), (by first | rfl | (simp; done) | (simp [*]; done)), H', ⟨by have := HJ10.out; have := HJ23.out; first | omega | exact Nat.le_refl _⟩, ⟨by (with_reducible repeat (first | refine blk_drewN ?_ _ | refine blk_drew ?_ | refine blk_alloc ?_ _)); exact BK244.out⟩, ⟨by repeat (first | (with_reducible first | exact HB.out | apply below_alloc | apply pw_below_drewN | apply below_drew1 | refine below_set ?_ GE244.out) | exact HB.out)⟩⟩
                                    · rw [if_neg c60] at H
                                      have c60b0 : (t254 == (-2)) = false := beq_eq_false_iff_ne.mpr c60
                                      have c60b1 : (t254 != (-2)) = true := bne_iff_ne.mpr c60
                                      by_cases c62 : ((rd_T44 l2 a3).f0) = 4
                                      · rw [if_pos c62] at H
                                        have c62b0 : (((rd_T44 l2 a3).f0) == 4) = true := beq_iff_eq.mpr c62
                                        have c62b1 : (((rd_T44 l2 a3).f0) != 4) = false := bne_eq_false_iff_eq.mpr c62
                                        clear c62
                                        have H' := Aside0.mk H
                                        clear H
                                        have hcz63_0 : w44.cell? ⟨gb244, 0, none⟩ = some (.int .i64 ((rd_T44 l2 a3).f0)) := (blk_cell BK244.out 0).trans rfl
                                        have hcz63_1 : w44.cell? ⟨gb244, 1, none⟩ = some (.int .i64 ((rd_T44 l2 a3).f1)) := (blk_cell BK244.out 1).trans rfl
                                        have hcz63_2 : w44.cell? ⟨gb244, 2, none⟩ = some (.int .i64 ((rd_T44 l2 a3).f2)) := (blk_cell BK244.out 2).trans rfl
                                        have hcz63_3 : w44.cell? ⟨gb244, 3, none⟩ = some (.int .i64 ((rd_T44 l2 a3).f3)) := (blk_cell BK244.out 3).trans rfl
                                        have hfz63_0 := blk_frozen BK244.out 0
                                        have hfz63_1 := blk_frozen BK244.out 1
                                        have hfz63_2 := blk_frozen BK244.out 2
                                        have hfz63_3 := blk_frozen BK244.out 3
                                        go_wp2
                                        go_meet
                                        case rel => exact ⟨_, ((t254 != (-2))), (by first | rfl | (simp; done) | (simp [*]; done)), H', ⟨by have := HJ10.out; have := HJ23.out; first | omega | exact Nat.le_refl _⟩, ⟨by (with_reducible repeat (first | refine blk_drewN ?_ _ | refine blk_drew ?_ | refine blk_alloc ?_ _)); exact BK244.out⟩, ⟨by repeat (first | (with_reducible first | exact HB.out | apply below_alloc | apply pw_below_drewN | apply below_drew1 | refine below_set ?_ GE244.out) | exact HB.out)⟩⟩
                                      · rw [if_neg c62] at H
                                        have c62b0 : (((rd_T44 l2 a3).f0) == 4) = false := beq_eq_false_iff_ne.mpr c62
                                        have c62b1 : (((rd_T44 l2 a3).f0) != 4) = true := bne_iff_ne.mpr c62
                                        have H' := Aside0.mk H
                                        clear H
                                        have hcz64_0 : w44.cell? ⟨gb244, 0, none⟩ = some (.int .i64 ((rd_T44 l2 a3).f0)) := (blk_cell BK244.out 0).trans rfl
                                        have hcz64_1 : w44.cell? ⟨gb244, 1, none⟩ = some (.int .i64 ((rd_T44 l2 a3).f1)) := (blk_cell BK244.out 1).trans rfl
                                        have hcz64_2 : w44.cell? ⟨gb244, 2, none⟩ = some (.int .i64 ((rd_T44 l2 a3).f2)) := (blk_cell BK244.out 2).trans rfl
                                        have hcz64_3 : w44.cell? ⟨gb244, 3, none⟩ = some (.int .i64 ((rd_T44 l2 a3).f3)) := (blk_cell BK244.out 3).trans rfl
                                        have hfz64_0 := blk_frozen BK244.out 0
                                        have hfz64_1 := blk_frozen BK244.out 1
                                        have hfz64_2 := blk_frozen BK244.out 2
                                        have hfz64_3 := blk_frozen BK244.out 3
                                        go_wp2
                                        go_meet
                                        case rel => exact ⟨_, (false), (by first | rfl | (simp; done) | (simp [*]; done)), H', ⟨by have := HJ10.out; have := HJ23.out; first | omega | exact Nat.le_refl _⟩, ⟨by (with_reducible repeat (first | refine blk_drewN ?_ _ | refine blk_drew ?_ | refine blk_alloc ?_ _)); exact BK244.out⟩, ⟨by repeat (first | (with_reducible first | exact HB.out | apply below_alloc | apply pw_below_drewN | apply below_drew1 | refine below_set ?_ GE244.out) | exact HB.out)⟩⟩
                                  · rw [if_neg c59] at H
                                    have c59b0 : (((rd_T44 l2 a3).f0) == 3) = false := beq_eq_false_iff_ne.mpr c59
                                    have c59b1 : (((rd_T44 l2 a3).f0) != 3) = true := bne_iff_ne.mpr c59
                                    by_cases c65 : ((rd_T44 l2 a3).f0) = 4
                                    · rw [if_pos c65] at H
                                      have c65b0 : (((rd_T44 l2 a3).f0) == 4) = true := beq_iff_eq.mpr c65
                                      have c65b1 : (((rd_T44 l2 a3).f0) != 4) = false := bne_eq_false_iff_eq.mpr c65
                                      clear c65
                                      have H' := Aside0.mk H
                                      clear H
                                      have hcz66_0 : w44.cell? ⟨gb244, 0, none⟩ = some (.int .i64 ((rd_T44 l2 a3).f0)) := (blk_cell BK244.out 0).trans rfl
                                      have hcz66_1 : w44.cell? ⟨gb244, 1, none⟩ = some (.int .i64 ((rd_T44 l2 a3).f1)) := (blk_cell BK244.out 1).trans rfl
                                      have hcz66_2 : w44.cell? ⟨gb244, 2, none⟩ = some (.int .i64 ((rd_T44 l2 a3).f2)) := (blk_cell BK244.out 2).trans rfl
                                      have hcz66_3 : w44.cell? ⟨gb244, 3, none⟩ = some (.int .i64 ((rd_T44 l2 a3).f3)) := (blk_cell BK244.out 3).trans rfl
                                      have hfz66_0 := blk_frozen BK244.out 0
                                      have hfz66_1 := blk_frozen BK244.out 1
                                      have hfz66_2 := blk_frozen BK244.out 2
                                      have hfz66_3 := blk_frozen BK244.out 3
                                      go_wp2
                                      go_meet
                                      case rel => exact ⟨_, ((t254 != (-2))), (by first | rfl | (simp; done) | (simp [*]; done)), H', ⟨by have := HJ10.out; have := HJ23.out; first | omega | exact Nat.le_refl _⟩, ⟨by (with_reducible repeat (first | refine blk_drewN ?_ _ | refine blk_drew ?_ | refine blk_alloc ?_ _)); exact BK244.out⟩, ⟨by repeat (first | (with_reducible first | exact HB.out | apply below_alloc | apply pw_below_drewN | apply below_drew1 | refine below_set ?_ GE244.out) | exact HB.out)⟩⟩
                                    · rw [if_neg c65] at H
                                      have c65b0 : (((rd_T44 l2 a3).f0) == 4) = false := beq_eq_false_iff_ne.mpr c65
                                      have c65b1 : (((rd_T44 l2 a3).f0) != 4) = true := bne_iff_ne.mpr c65
                                      have H' := Aside0.mk H
                                      clear H
                                      have hcz67_0 : w44.cell? ⟨gb244, 0, none⟩ = some (.int .i64 ((rd_T44 l2 a3).f0)) := (blk_cell BK244.out 0).trans rfl
                                      have hcz67_1 : w44.cell? ⟨gb244, 1, none⟩ = some (.int .i64 ((rd_T44 l2 a3).f1)) := (blk_cell BK244.out 1).trans rfl
                                      have hcz67_2 : w44.cell? ⟨gb244, 2, none⟩ = some (.int .i64 ((rd_T44 l2 a3).f2)) := (blk_cell BK244.out 2).trans rfl
                                      have hcz67_3 : w44.cell? ⟨gb244, 3, none⟩ = some (.int .i64 ((rd_T44 l2 a3).f3)) := (blk_cell BK244.out 3).trans rfl
                                      have hfz67_0 := blk_frozen BK244.out 0
                                      have hfz67_1 := blk_frozen BK244.out 1
                                      have hfz67_2 := blk_frozen BK244.out 2
                                      have hfz67_3 := blk_frozen BK244.out 3
                                      go_wp2
                                      go_meet
                                      case rel => exact ⟨_, (false), (by first | rfl | (simp; done) | (simp [*]; done)), H', ⟨by have := HJ10.out; have := HJ23.out; first | omega | exact Nat.le_refl _⟩, ⟨by (with_reducible repeat (first | refine blk_drewN ?_ _ | refine blk_drew ?_ | refine blk_alloc ?_ _)); exact BK244.out⟩, ⟨by repeat (first | (with_reducible first | exact HB.out | apply below_alloc | apply pw_below_drewN | apply below_drew1 | refine below_set ?_ GE244.out) | exact HB.out)⟩⟩
                              · rw [if_neg c46] at H
                                have c46b0 : (t254 == (-1)) = false := beq_eq_false_iff_ne.mpr c46
                                have c46b1 : (t254 != (-1)) = true := bne_iff_ne.mpr c46
                                have H' := Aside0.mk H
                                clear H
                                have hcz68_0 : w44.cell? ⟨gb244, 0, none⟩ = some (.int .i64 ((rd_T44 l2 a3).f0)) := (blk_cell BK244.out 0).trans rfl
                                have hcz68_1 : w44.cell? ⟨gb244, 1, none⟩ = some (.int .i64 ((rd_T44 l2 a3).f1)) := (blk_cell BK244.out 1).trans rfl
                                have hcz68_2 : w44.cell? ⟨gb244, 2, none⟩ = some (.int .i64 ((rd_T44 l2 a3).f2)) := (blk_cell BK244.out 2).trans rfl
                                have hcz68_3 : w44.cell? ⟨gb244, 3, none⟩ = some (.int .i64 ((rd_T44 l2 a3).f3)) := (blk_cell BK244.out 3).trans rfl
                                have hfz68_0 := blk_frozen BK244.out 0
                                have hfz68_1 := blk_frozen BK244.out 1
                                have hfz68_2 := blk_frozen BK244.out 2
                                have hfz68_3 := blk_frozen BK244.out 3
                                go_wp2
                                go_meet
                                case rel => exact ⟨_, (true), (by first | rfl | (simp; done) | (simp [*]; done)), H', ⟨by have := HJ10.out; have := HJ23.out; first | omega | exact Nat.le_refl _⟩, ⟨by (with_reducible repeat (first | refine blk_drewN ?_ _ | refine blk_drew ?_ | refine blk_alloc ?_ _)); exact BK244.out⟩, ⟨by repeat (first | (with_reducible first | exact HB.out | apply below_alloc | apply pw_below_drewN | apply below_drew1 | refine below_set ?_ GE244.out) | exact HB.out)⟩⟩
                            · rw [if_neg c45] at H
                              have c45b0 : (((rd_T44 l2 a3).f0) == 1) = false := beq_eq_false_iff_ne.mpr c45
                              have c45b1 : (((rd_T44 l2 a3).f0) != 1) = true := bne_iff_ne.mpr c45
                              (first | rw [c45b0] | (simp only [i64_w, i32_w]; rw [c45b0]) | skip)
                              by_cases c69 : ((rd_T44 l2 a3).f0) = 2
                              · rw [if_pos c69] at H
                                have c69b0 : (((rd_T44 l2 a3).f0) == 2) = true := beq_iff_eq.mpr c69
                                have c69b1 : (((rd_T44 l2 a3).f0) != 2) = false := bne_eq_false_iff_eq.mpr c69
                                clear c69
                                by_cases c70 : t254 < 0
                                · rw [if_pos c70] at H
                                  have c70b0 : decide (t254 < 0) = true := decide_eq_true c70
                                  clear c70
                                  have H' := Aside0.mk H
                                  clear H
                                  have hcz71_0 : w44.cell? ⟨gb244, 0, none⟩ = some (.int .i64 ((rd_T44 l2 a3).f0)) := (blk_cell BK244.out 0).trans rfl
                                  have hcz71_1 : w44.cell? ⟨gb244, 1, none⟩ = some (.int .i64 ((rd_T44 l2 a3).f1)) := (blk_cell BK244.out 1).trans rfl
                                  have hcz71_2 : w44.cell? ⟨gb244, 2, none⟩ = some (.int .i64 ((rd_T44 l2 a3).f2)) := (blk_cell BK244.out 2).trans rfl
                                  have hcz71_3 : w44.cell? ⟨gb244, 3, none⟩ = some (.int .i64 ((rd_T44 l2 a3).f3)) := (blk_cell BK244.out 3).trans rfl
                                  have hfz71_0 := blk_frozen BK244.out 0
                                  have hfz71_1 := blk_frozen BK244.out 1
                                  have hfz71_2 := blk_frozen BK244.out 2
                                  have hfz71_3 := blk_frozen BK244.out 3
                                  go_wp2
                                  go_meet
                                  case rel => exact ⟨_, (true), (by first | rfl | (simp; done) | (simp [*]; done)), H', ⟨by have := HJ10.out; have := HJ23.out; first | omega | exact Nat.le_refl _⟩, ⟨by (with_reducible repeat (first | refine blk_drewN ?_ _ | refine blk_drew ?_ | refine blk_alloc ?_ _)); exact BK244.out⟩, ⟨by repeat (first | (with_reducible first | exact HB.out | apply below_alloc | apply pw_below_drewN | apply below_drew1 | refine below_set ?_ GE244.out) | exact HB.out)⟩⟩
                                · rw [if_neg c70] at H
                                  have c70b0 : decide (t254 < 0) = false := decide_eq_false c70
                                  clear c70
                                  by_cases c72 : ((rd_T44 l2 a3).f0) = 3
                                  · rw [if_pos c72] at H
                                    have c72b0 : (((rd_T44 l2 a3).f0) == 3) = true := beq_iff_eq.mpr c72
                                    have c72b1 : (((rd_T44 l2 a3).f0) != 3) = false := bne_eq_false_iff_eq.mpr c72
                                    clear c72
                                    by_cases c73 : t254 = (-2)
                                    · rw [if_pos c73] at H
                                      have c73b0 : (t254 == (-2)) = true := beq_iff_eq.mpr c73
                                      have c73b1 : (t254 != (-2)) = false := bne_eq_false_iff_eq.mpr c73
                                      clear c73
                                      have H' := Aside0.mk H
                                      clear H
                                      have hcz74_0 : w44.cell? ⟨gb244, 0, none⟩ = some (.int .i64 ((rd_T44 l2 a3).f0)) := (blk_cell BK244.out 0).trans rfl
                                      have hcz74_1 : w44.cell? ⟨gb244, 1, none⟩ = some (.int .i64 ((rd_T44 l2 a3).f1)) := (blk_cell BK244.out 1).trans rfl
                                      have hcz74_2 : w44.cell? ⟨gb244, 2, none⟩ = some (.int .i64 ((rd_T44 l2 a3).f2)) := (blk_cell BK244.out 2).trans rfl
                                      have hcz74_3 : w44.cell? ⟨gb244, 3, none⟩ = some (.int .i64 ((rd_T44 l2 a3).f3)) := (blk_cell BK244.out 3).trans rfl
                                      have hfz74_0 := blk_frozen BK244.out 0
                                      have hfz74_1 := blk_frozen BK244.out 1
                                      have hfz74_2 := blk_frozen BK244.out 2
                                      have hfz74_3 := blk_frozen BK244.out 3
                                      go_wp2
                                      go_meet
                                      case rel => exact ⟨_, (true), (by first | rfl | (simp; done) | (simp [*]; done)), H', ⟨by have := HJ10.out; have := HJ23.out; first | omega | exact Nat.le_refl _⟩, ⟨by (with_reducible repeat (first | refine blk_drewN ?_ _ | refine blk_drew ?_ | refine blk_alloc ?_ _)); exact BK244.out⟩, ⟨by repeat (first | (with_reducible first | exact HB.out | apply below_alloc | apply pw_below_drewN | apply below_drew1 | refine below_set ?_ GE244.out) | exact HB.out)⟩⟩
                                    · rw [if_neg c73] at H
                                      have c73b0 : (t254 == (-2)) = false := beq_eq_false_iff_ne.mpr c73
                                      have c73b1 : (t254 != (-2)) = true := bne_iff_ne.mpr c73
                                      by_cases c75 : ((rd_T44 l2 a3).f0) = 4
                                      · rw [if_pos c75] at H
                                        have c75b0 : (((rd_T44 l2 a3).f0) == 4) = true := beq_iff_eq.mpr c75
                                        have c75b1 : (((rd_T44 l2 a3).f0) != 4) = false := bne_eq_false_iff_eq.mpr c75
                                        clear c75
                                        have H' := Aside0.mk H
                                        clear H
                                        have hcz76_0 : w44.cell? ⟨gb244, 0, none⟩ = some (.int .i64 ((rd_T44 l2 a3).f0)) := (blk_cell BK244.out 0).trans rfl
                                        have hcz76_1 : w44.cell? ⟨gb244, 1, none⟩ = some (.int .i64 ((rd_T44 l2 a3).f1)) := (blk_cell BK244.out 1).trans rfl
                                        have hcz76_2 : w44.cell? ⟨gb244, 2, none⟩ = some (.int .i64 ((rd_T44 l2 a3).f2)) := (blk_cell BK244.out 2).trans rfl
                                        have hcz76_3 : w44.cell? ⟨gb244, 3, none⟩ = some (.int .i64 ((rd_T44 l2 a3).f3)) := (blk_cell BK244.out 3).trans rfl
                                        have hfz76_0 := blk_frozen BK244.out 0
                                        have hfz76_1 := blk_frozen BK244.out 1
                                        have hfz76_2 := blk_frozen BK244.out 2
                                        have hfz76_3 := blk_frozen BK244.out 3
                                        go_wp2
                                        go_meet
                                        case rel => exact ⟨_, ((t254 != (-2))), (by first | rfl | (simp; done) | (simp [*]; done)), H', ⟨by have := HJ10.out; have := HJ23.out; first | omega | exact Nat.le_refl _⟩, ⟨by (with_reducible repeat (first | refine blk_drewN ?_ _ | refine blk_drew ?_ | refine blk_alloc ?_ _)); exact BK244.out⟩, ⟨by repeat (first | (with_reducible first | exact HB.out | apply below_alloc | apply pw_below_drewN | apply below_drew1 | refine below_set ?_ GE244.out) | exact HB.out)⟩⟩
                                      · rw [if_neg c75] at H
                                        have c75b0 : (((rd_T44 l2 a3).f0) == 4) = false := beq_eq_false_iff_ne.mpr c75
                                        have c75b1 : (((rd_T44 l2 a3).f0) != 4) = true := bne_iff_ne.mpr c75
                                        have H' := Aside0.mk H
                                        clear H
                                        have hcz77_0 : w44.cell? ⟨gb244, 0, none⟩ = some (.int .i64 ((rd_T44 l2 a3).f0)) := (blk_cell BK244.out 0).trans rfl
                                        have hcz77_1 : w44.cell? ⟨gb244, 1, none⟩ = some (.int .i64 ((rd_T44 l2 a3).f1)) := (blk_cell BK244.out 1).trans rfl
                                        have hcz77_2 : w44.cell? ⟨gb244, 2, none⟩ = some (.int .i64 ((rd_T44 l2 a3).f2)) := (blk_cell BK244.out 2).trans rfl
                                        have hcz77_3 : w44.cell? ⟨gb244, 3, none⟩ = some (.int .i64 ((rd_T44 l2 a3).f3)) := (blk_cell BK244.out 3).trans rfl
                                        have hfz77_0 := blk_frozen BK244.out 0
                                        have hfz77_1 := blk_frozen BK244.out 1
                                        have hfz77_2 := blk_frozen BK244.out 2
                                        have hfz77_3 := blk_frozen BK244.out 3
                                        go_wp2
                                        go_meet
                                        case rel => exact ⟨_, (false), (by first | rfl | (simp; done) | (simp [*]; done)), H', ⟨by have := HJ10.out; have := HJ23.out; first | omega | exact Nat.le_refl _⟩, ⟨by (with_reducible repeat (first | refine blk_drewN ?_ _ | refine blk_drew ?_ | refine blk_alloc ?_ _)); exact BK244.out⟩, ⟨by repeat (first | (with_reducible first | exact HB.out | apply below_alloc | apply pw_below_drewN | apply below_drew1 | refine below_set ?_ GE244.out) | exact HB.out)⟩⟩
                                  · rw [if_neg c72] at H
                                    have c72b0 : (((rd_T44 l2 a3).f0) == 3) = false := beq_eq_false_iff_ne.mpr c72
                                    have c72b1 : (((rd_T44 l2 a3).f0) != 3) = true := bne_iff_ne.mpr c72
                                    by_cases c78 : ((rd_T44 l2 a3).f0) = 4
                                    · rw [if_pos c78] at H
                                      have c78b0 : (((rd_T44 l2 a3).f0) == 4) = true := beq_iff_eq.mpr c78
                                      have c78b1 : (((rd_T44 l2 a3).f0) != 4) = false := bne_eq_false_iff_eq.mpr c78
                                      clear c78
                                      have H' := Aside0.mk H
                                      clear H
                                      have hcz79_0 : w44.cell? ⟨gb244, 0, none⟩ = some (.int .i64 ((rd_T44 l2 a3).f0)) := (blk_cell BK244.out 0).trans rfl
                                      have hcz79_1 : w44.cell? ⟨gb244, 1, none⟩ = some (.int .i64 ((rd_T44 l2 a3).f1)) := (blk_cell BK244.out 1).trans rfl
                                      have hcz79_2 : w44.cell? ⟨gb244, 2, none⟩ = some (.int .i64 ((rd_T44 l2 a3).f2)) := (blk_cell BK244.out 2).trans rfl
                                      have hcz79_3 : w44.cell? ⟨gb244, 3, none⟩ = some (.int .i64 ((rd_T44 l2 a3).f3)) := (blk_cell BK244.out 3).trans rfl
                                      have hfz79_0 := blk_frozen BK244.out 0
                                      have hfz79_1 := blk_frozen BK244.out 1
                                      have hfz79_2 := blk_frozen BK244.out 2
                                      have hfz79_3 := blk_frozen BK244.out 3
                                      go_wp2
                                      go_meet
                                      case rel => exact ⟨_, ((t254 != (-2))), (by first | rfl | (simp; done) | (simp [*]; done)), H', ⟨by have := HJ10.out; have := HJ23.out; first | omega | exact Nat.le_refl _⟩, ⟨by (with_reducible repeat (first | refine blk_drewN ?_ _ | refine blk_drew ?_ | refine blk_alloc ?_ _)); exact BK244.out⟩, ⟨by repeat (first | (with_reducible first | exact HB.out | apply below_alloc | apply pw_below_drewN | apply below_drew1 | refine below_set ?_ GE244.out) | exact HB.out)⟩⟩
                                    · rw [if_neg c78] at H
                                      have c78b0 : (((rd_T44 l2 a3).f0) == 4) = false := beq_eq_false_iff_ne.mpr c78
                                      have c78b1 : (((rd_T44 l2 a3).f0) != 4) = true := bne_iff_ne.mpr c78
                                      have H' := Aside0.mk H
                                      clear H
                                      have hcz80_0 : w44.cell? ⟨gb244, 0, none⟩ = some (.int .i64 ((rd_T44 l2 a3).f0)) := (blk_cell BK244.out 0).trans rfl
                                      have hcz80_1 : w44.cell? ⟨gb244, 1, none⟩ = some (.int .i64 ((rd_T44 l2 a3).f1)) := (blk_cell BK244.out 1).trans rfl
                                      have hcz80_2 : w44.cell? ⟨gb244, 2, none⟩ = some (.int .i64 ((rd_T44 l2 a3).f2)) := (blk_cell BK244.out 2).trans rfl
                                      have hcz80_3 : w44.cell? ⟨gb244, 3, none⟩ = some (.int .i64 ((rd_T44 l2 a3).f3)) := (blk_cell BK244.out 3).trans rfl
                                      have hfz80_0 := blk_frozen BK244.out 0
                                      have hfz80_1 := blk_frozen BK244.out 1
                                      have hfz80_2 := blk_frozen BK244.out 2
                                      have hfz80_3 := blk_frozen BK244.out 3
                                      go_wp2
                                      go_meet
                                      case rel => exact ⟨_, (false), (by first | rfl | (simp; done) | (simp [*]; done)), H', ⟨by have := HJ10.out; have := HJ23.out; first | omega | exact Nat.le_refl _⟩, ⟨by (with_reducible repeat (first | refine blk_drewN ?_ _ | refine blk_drew ?_ | refine blk_alloc ?_ _)); exact BK244.out⟩, ⟨by repeat (first | (with_reducible first | exact HB.out | apply below_alloc | apply pw_below_drewN | apply below_drew1 | refine below_set ?_ GE244.out) | exact HB.out)⟩⟩
                              · rw [if_neg c69] at H
                                have c69b0 : (((rd_T44 l2 a3).f0) == 2) = false := beq_eq_false_iff_ne.mpr c69
                                have c69b1 : (((rd_T44 l2 a3).f0) != 2) = true := bne_iff_ne.mpr c69
                                by_cases c81 : ((rd_T44 l2 a3).f0) = 3
                                · rw [if_pos c81] at H
                                  have c81b0 : (((rd_T44 l2 a3).f0) == 3) = true := beq_iff_eq.mpr c81
                                  have c81b1 : (((rd_T44 l2 a3).f0) != 3) = false := bne_eq_false_iff_eq.mpr c81
                                  clear c81
                                  by_cases c82 : t254 = (-2)
                                  · rw [if_pos c82] at H
                                    have c82b0 : (t254 == (-2)) = true := beq_iff_eq.mpr c82
                                    have c82b1 : (t254 != (-2)) = false := bne_eq_false_iff_eq.mpr c82
                                    clear c82
                                    have H' := Aside0.mk H
                                    clear H
                                    have hcz83_0 : w44.cell? ⟨gb244, 0, none⟩ = some (.int .i64 ((rd_T44 l2 a3).f0)) := (blk_cell BK244.out 0).trans rfl
                                    have hcz83_1 : w44.cell? ⟨gb244, 1, none⟩ = some (.int .i64 ((rd_T44 l2 a3).f1)) := (blk_cell BK244.out 1).trans rfl
                                    have hcz83_2 : w44.cell? ⟨gb244, 2, none⟩ = some (.int .i64 ((rd_T44 l2 a3).f2)) := (blk_cell BK244.out 2).trans rfl
                                    have hcz83_3 : w44.cell? ⟨gb244, 3, none⟩ = some (.int .i64 ((rd_T44 l2 a3).f3)) := (blk_cell BK244.out 3).trans rfl
                                    have hfz83_0 := blk_frozen BK244.out 0
                                    have hfz83_1 := blk_frozen BK244.out 1
                                    have hfz83_2 := blk_frozen BK244.out 2
                                    have hfz83_3 := blk_frozen BK244.out 3
                                    go_wp2
                                    go_meet
                                    case rel => exact ⟨_, (true), (by first | rfl | (simp; done) | (simp [*]; done)), H', ⟨by have := HJ10.out; have := HJ23.out; first | omega | exact Nat.le_refl _⟩, ⟨by (with_reducible repeat (first | refine blk_drewN ?_ _ | refine blk_drew ?_ | refine blk_alloc ?_ _)); exact BK244.out⟩, ⟨by repeat (first | (with_reducible first | exact HB.out | apply below_alloc | apply pw_below_drewN | apply below_drew1 | refine below_set ?_ GE244.out) | exact HB.out)⟩⟩
                                  · rw [if_neg c82] at H
                                    have c82b0 : (t254 == (-2)) = false := beq_eq_false_iff_ne.mpr c82
                                    have c82b1 : (t254 != (-2)) = true := bne_iff_ne.mpr c82
                                    by_cases c84 : ((rd_T44 l2 a3).f0) = 4
                                    · rw [if_pos c84] at H
                                      have c84b0 : (((rd_T44 l2 a3).f0) == 4) = true := beq_iff_eq.mpr c84
                                      have c84b1 : (((rd_T44 l2 a3).f0) != 4) = false := bne_eq_false_iff_eq.mpr c84
                                      clear c84
                                      have H' := Aside0.mk H
                                      clear H
                                      have hcz85_0 : w44.cell? ⟨gb244, 0, none⟩ = some (.int .i64 ((rd_T44 l2 a3).f0)) := (blk_cell BK244.out 0).trans rfl
                                      have hcz85_1 : w44.cell? ⟨gb244, 1, none⟩ = some (.int .i64 ((rd_T44 l2 a3).f1)) := (blk_cell BK244.out 1).trans rfl
                                      have hcz85_2 : w44.cell? ⟨gb244, 2, none⟩ = some (.int .i64 ((rd_T44 l2 a3).f2)) := (blk_cell BK244.out 2).trans rfl
                                      have hcz85_3 : w44.cell? ⟨gb244, 3, none⟩ = some (.int .i64 ((rd_T44 l2 a3).f3)) := (blk_cell BK244.out 3).trans rfl
                                      have hfz85_0 := blk_frozen BK244.out 0
                                      have hfz85_1 := blk_frozen BK244.out 1
                                      have hfz85_2 := blk_frozen BK244.out 2
                                      have hfz85_3 := blk_frozen BK244.out 3
                                      go_wp2
                                      go_meet
                                      case rel => exact ⟨_, ((t254 != (-2))), (by first | rfl | (simp; done) | (simp [*]; done)), H', ⟨by have := HJ10.out; have := HJ23.out; first | omega | exact Nat.le_refl _⟩, ⟨by (with_reducible repeat (first | refine blk_drewN ?_ _ | refine blk_drew ?_ | refine blk_alloc ?_ _)); exact BK244.out⟩, ⟨by repeat (first | (with_reducible first | exact HB.out | apply below_alloc | apply pw_below_drewN | apply below_drew1 | refine below_set ?_ GE244.out) | exact HB.out)⟩⟩
                                    · rw [if_neg c84] at H
                                      have c84b0 : (((rd_T44 l2 a3).f0) == 4) = false := beq_eq_false_iff_ne.mpr c84
                                      have c84b1 : (((rd_T44 l2 a3).f0) != 4) = true := bne_iff_ne.mpr c84
                                      have H' := Aside0.mk H
                                      clear H
                                      have hcz86_0 : w44.cell? ⟨gb244, 0, none⟩ = some (.int .i64 ((rd_T44 l2 a3).f0)) := (blk_cell BK244.out 0).trans rfl
                                      have hcz86_1 : w44.cell? ⟨gb244, 1, none⟩ = some (.int .i64 ((rd_T44 l2 a3).f1)) := (blk_cell BK244.out 1).trans rfl
                                      have hcz86_2 : w44.cell? ⟨gb244, 2, none⟩ = some (.int .i64 ((rd_T44 l2 a3).f2)) := (blk_cell BK244.out 2).trans rfl
                                      have hcz86_3 : w44.cell? ⟨gb244, 3, none⟩ = some (.int .i64 ((rd_T44 l2 a3).f3)) := (blk_cell BK244.out 3).trans rfl
                                      have hfz86_0 := blk_frozen BK244.out 0
                                      have hfz86_1 := blk_frozen BK244.out 1
                                      have hfz86_2 := blk_frozen BK244.out 2
                                      have hfz86_3 := blk_frozen BK244.out 3
                                      go_wp2
                                      go_meet
                                      case rel => exact ⟨_, (false), (by first | rfl | (simp; done) | (simp [*]; done)), H', ⟨by have := HJ10.out; have := HJ23.out; first | omega | exact Nat.le_refl _⟩, ⟨by (with_reducible repeat (first | refine blk_drewN ?_ _ | refine blk_drew ?_ | refine blk_alloc ?_ _)); exact BK244.out⟩, ⟨by repeat (first | (with_reducible first | exact HB.out | apply below_alloc | apply pw_below_drewN | apply below_drew1 | refine below_set ?_ GE244.out) | exact HB.out)⟩⟩
                                · rw [if_neg c81] at H
                                  have c81b0 : (((rd_T44 l2 a3).f0) == 3) = false := beq_eq_false_iff_ne.mpr c81
                                  have c81b1 : (((rd_T44 l2 a3).f0) != 3) = true := bne_iff_ne.mpr c81
                                  by_cases c87 : ((rd_T44 l2 a3).f0) = 4
                                  · rw [if_pos c87] at H
                                    have c87b0 : (((rd_T44 l2 a3).f0) == 4) = true := beq_iff_eq.mpr c87
                                    have c87b1 : (((rd_T44 l2 a3).f0) != 4) = false := bne_eq_false_iff_eq.mpr c87
                                    clear c87
                                    have H' := Aside0.mk H
                                    clear H
                                    have hcz88_0 : w44.cell? ⟨gb244, 0, none⟩ = some (.int .i64 ((rd_T44 l2 a3).f0)) := (blk_cell BK244.out 0).trans rfl
                                    have hcz88_1 : w44.cell? ⟨gb244, 1, none⟩ = some (.int .i64 ((rd_T44 l2 a3).f1)) := (blk_cell BK244.out 1).trans rfl
                                    have hcz88_2 : w44.cell? ⟨gb244, 2, none⟩ = some (.int .i64 ((rd_T44 l2 a3).f2)) := (blk_cell BK244.out 2).trans rfl
                                    have hcz88_3 : w44.cell? ⟨gb244, 3, none⟩ = some (.int .i64 ((rd_T44 l2 a3).f3)) := (blk_cell BK244.out 3).trans rfl
                                    have hfz88_0 := blk_frozen BK244.out 0
                                    have hfz88_1 := blk_frozen BK244.out 1
                                    have hfz88_2 := blk_frozen BK244.out 2
                                    have hfz88_3 := blk_frozen BK244.out 3
                                    go_wp2
                                    go_meet
                                    case rel => exact ⟨_, ((t254 != (-2))), (by first | rfl | (simp; done) | (simp [*]; done)), H', ⟨by have := HJ10.out; have := HJ23.out; first | omega | exact Nat.le_refl _⟩, ⟨by (with_reducible repeat (first | refine blk_drewN ?_ _ | refine blk_drew ?_ | refine blk_alloc ?_ _)); exact BK244.out⟩, ⟨by repeat (first | (with_reducible first | exact HB.out | apply below_alloc | apply pw_below_drewN | apply below_drew1 | refine below_set ?_ GE244.out) | exact HB.out)⟩⟩
                                  · rw [if_neg c87] at H
                                    have c87b0 : (((rd_T44 l2 a3).f0) == 4) = false := beq_eq_false_iff_ne.mpr c87
                                    have c87b1 : (((rd_T44 l2 a3).f0) != 4) = true := bne_iff_ne.mpr c87
                                    have H' := Aside0.mk H
                                    clear H
                                    have hcz89_0 : w44.cell? ⟨gb244, 0, none⟩ = some (.int .i64 ((rd_T44 l2 a3).f0)) := (blk_cell BK244.out 0).trans rfl
                                    have hcz89_1 : w44.cell? ⟨gb244, 1, none⟩ = some (.int .i64 ((rd_T44 l2 a3).f1)) := (blk_cell BK244.out 1).trans rfl
                                    have hcz89_2 : w44.cell? ⟨gb244, 2, none⟩ = some (.int .i64 ((rd_T44 l2 a3).f2)) := (blk_cell BK244.out 2).trans rfl
                                    have hcz89_3 : w44.cell? ⟨gb244, 3, none⟩ = some (.int .i64 ((rd_T44 l2 a3).f3)) := (blk_cell BK244.out 3).trans rfl
                                    have hfz89_0 := blk_frozen BK244.out 0
                                    have hfz89_1 := blk_frozen BK244.out 1
                                    have hfz89_2 := blk_frozen BK244.out 2
                                    have hfz89_3 := blk_frozen BK244.out 3
                                    go_wp2
                                    go_meet
                                    case rel => exact ⟨_, (false), (by first | rfl | (simp; done) | (simp [*]; done)), H', ⟨by have := HJ10.out; have := HJ23.out; first | omega | exact Nat.le_refl _⟩, ⟨by (with_reducible repeat (first | refine blk_drewN ?_ _ | refine blk_drew ?_ | refine blk_alloc ?_ _)); exact BK244.out⟩, ⟨by repeat (first | (with_reducible first | exact HB.out | apply below_alloc | apply pw_below_drewN | apply below_drew1 | refine below_set ?_ GE244.out) | exact HB.out)⟩⟩
                          case rest =>
                            clear HC41
                            try clear c2
                            try clear p2
                            try clear c3
                            try clear c4
                            try clear q4
                            try clear c5
                            try clear c6
                            try clear c7
                            try clear c8
                            try clear c20
                            try clear c38
                            try clear c38b0
                            try clear c38b1
                            try clear c39
                            try clear c39b0
                            try clear c39b1
                            try clear q43
                            try clear c45
                            try clear c45b0
                            try clear c45b1
                            try clear c46
                            try clear c46b0
                            try clear c46b1
                            try clear c47
                            try clear c47b0
                            try clear c47b1
                            try clear c48
                            try clear c48b0
                            try clear c50
                            try clear c50b0
                            try clear c50b1
                            try clear c51
                            try clear c51b0
                            try clear c51b1
                            try clear c53
                            try clear c53b0
                            try clear c53b1
                            try clear c56
                            try clear c56b0
                            try clear c56b1
                            try clear c59
                            try clear c59b0
                            try clear c59b1
                            try clear c60
                            try clear c60b0
                            try clear c60b1
                            try clear c62
                            try clear c62b0
                            try clear c62b1
                            try clear c65
                            try clear c65b0
                            try clear c65b1
                            try clear c69
                            try clear c69b0
                            try clear c69b1
                            try clear c70
                            try clear c70b0
                            try clear c72
                            try clear c72b0
                            try clear c72b1
                            try clear c73
                            try clear c73b0
                            try clear c73b1
                            try clear c75
                            try clear c75b0
                            try clear c75b1
                            try clear c78
                            try clear c78b0
                            try clear c78b1
                            try clear c81
                            try clear c81b0
                            try clear c81b1
                            try clear c82
                            try clear c82b0
                            try clear c82b1
                            try clear c84
                            try clear c84b0
                            try clear c84b1
                            try clear c87
                            try clear c87b0
                            try clear c87b1
                            try clear hcz49_0
                            try clear hcz49_1
                            try clear hcz49_2
                            try clear hcz49_3
                            try clear hcz52_0
                            try clear hcz52_1
                            try clear hcz52_2
                            try clear hcz52_3
                            try clear hcz54_0
                            try clear hcz54_1
                            try clear hcz54_2
                            try clear hcz54_3
                            try clear hcz55_0
                            try clear hcz55_1
                            try clear hcz55_2
                            try clear hcz55_3
                            try clear hcz57_0
                            try clear hcz57_1
                            try clear hcz57_2
                            try clear hcz57_3
                            try clear hcz58_0
                            try clear hcz58_1
                            try clear hcz58_2
                            try clear hcz58_3
                            try clear hcz61_0
                            try clear hcz61_1
                            try clear hcz61_2
                            try clear hcz61_3
                            try clear hcz63_0
                            try clear hcz63_1
                            try clear hcz63_2
                            try clear hcz63_3
                            try clear hcz64_0
                            try clear hcz64_1
                            try clear hcz64_2
                            try clear hcz64_3
                            try clear hcz66_0
                            try clear hcz66_1
                            try clear hcz66_2
                            try clear hcz66_3
                            try clear hcz67_0
                            try clear hcz67_1
                            try clear hcz67_2
                            try clear hcz67_3
                            try clear hcz68_0
                            try clear hcz68_1
                            try clear hcz68_2
                            try clear hcz68_3
                            try clear hcz71_0
                            try clear hcz71_1
                            try clear hcz71_2
                            try clear hcz71_3
                            try clear hcz74_0
                            try clear hcz74_1
                            try clear hcz74_2
                            try clear hcz74_3
                            try clear hcz76_0
                            try clear hcz76_1
                            try clear hcz76_2
                            try clear hcz76_3
                            try clear hcz77_0
                            try clear hcz77_1
                            try clear hcz77_2
                            try clear hcz77_3
                            try clear hcz79_0
                            try clear hcz79_1
                            try clear hcz79_2
                            try clear hcz79_3
                            try clear hcz80_0
                            try clear hcz80_1
                            try clear hcz80_2
                            try clear hcz80_3
                            try clear hcz83_0
                            try clear hcz83_1
                            try clear hcz83_2
                            try clear hcz83_3
                            try clear hcz85_0
                            try clear hcz85_1
                            try clear hcz85_2
                            try clear hcz85_3
                            try clear hcz86_0
                            try clear hcz86_1
                            try clear hcz86_2
                            try clear hcz86_3
                            try clear hcz88_0
                            try clear hcz88_1
                            try clear hcz88_2
                            try clear hcz88_3
                            try clear hcz89_0
                            try clear hcz89_1
                            try clear hcz89_2
                            try clear hcz89_3
                            try clear hfz49_0
                            try clear hfz49_1
                            try clear hfz49_2
                            try clear hfz49_3
                            try clear hfz52_0
                            try clear hfz52_1
                            try clear hfz52_2
                            try clear hfz52_3
                            try clear hfz54_0
                            try clear hfz54_1
                            try clear hfz54_2
                            try clear hfz54_3
                            try clear hfz55_0
                            try clear hfz55_1
                            try clear hfz55_2
                            try clear hfz55_3
                            try clear hfz57_0
                            try clear hfz57_1
                            try clear hfz57_2
                            try clear hfz57_3
                            try clear hfz58_0
                            try clear hfz58_1
                            try clear hfz58_2
                            try clear hfz58_3
                            try clear hfz61_0
                            try clear hfz61_1
                            try clear hfz61_2
                            try clear hfz61_3
                            try clear hfz63_0
                            try clear hfz63_1
                            try clear hfz63_2
                            try clear hfz63_3
                            try clear hfz64_0
                            try clear hfz64_1
                            try clear hfz64_2
                            try clear hfz64_3
                            try clear hfz66_0
                            try clear hfz66_1
                            try clear hfz66_2
                            try clear hfz66_3
                            try clear hfz67_0
                            try clear hfz67_1
                            try clear hfz67_2
                            try clear hfz67_3
                            try clear hfz68_0
                            try clear hfz68_1
                            try clear hfz68_2
                            try clear hfz68_3
                            try clear hfz71_0
                            try clear hfz71_1
                            try clear hfz71_2
                            try clear hfz71_3
                            try clear hfz74_0
                            try clear hfz74_1
                            try clear hfz74_2
                            try clear hfz74_3
                            try clear hfz76_0
                            try clear hfz76_1
                            try clear hfz76_2
                            try clear hfz76_3
                            try clear hfz77_0
                            try clear hfz77_1
                            try clear hfz77_2
                            try clear hfz77_3
                            try clear hfz79_0
                            try clear hfz79_1
                            try clear hfz79_2
                            try clear hfz79_3
                            try clear hfz80_0
                            try clear hfz80_1
                            try clear hfz80_2
                            try clear hfz80_3
                            try clear hfz83_0
                            try clear hfz83_1
                            try clear hfz83_2
                            try clear hfz83_3
                            try clear hfz85_0
                            try clear hfz85_1
                            try clear hfz85_2
                            try clear hfz85_3
                            try clear hfz86_0
                            try clear hfz86_1
                            try clear hfz86_2
                            try clear hfz86_3
                            try clear hfz88_0
                            try clear hfz88_1
                            try clear hfz88_2
                            try clear hfz88_3
                            try clear hfz89_0
                            try clear hfz89_1
                            try clear hfz89_2
                            try clear hfz89_3
                            try clear q43
                            obtain ⟨kq, x104_40, rfl, HA, HJ40, BK244, HB⟩ := hcut
                            cases kq with
                            | zero => exact absurd HA.out (by simp [changeforgeref6_eventCode.j2])
                            | succ kj40 =>
                              have H := HA.out
                              clear HA
                              simp only [changeforgeref6_eventCode.j2] at H
                              by_cases c90 : x104_40 = true
                              · subst c90
                                have H1 : (some 11) = some r := by rw [if_pos rfl] at H; exact H
                                clear H
                                have H := H1
                                clear H1
                                obtain rfl := Option.some.inj H
                                go_wp2
                                go_ret
                                exact ⟨by first | rfl | (simp [errW_none, errW_some] <;> rfl) | (simp [*, errW_none, errW_some] <;> rfl), by repeat (first | (with_reducible first | exact HB.out | apply below_alloc | apply pw_below_drewN | apply below_drew1 | refine below_set ?_ GE244.out) | exact HB.out)⟩
                              · replace c90 := Bool.eq_false_iff.mpr c90
                                subst c90
                                have H1 : (if ((rd_T44 l2 a3).f0) = 1 then (if 0 ≤ a3 then (if a3 ≤ (l2.length : Int) then ((changeforgeref6_Reported.f kj40 (l2.take (a3 : Int).toNat) ((rd_T44 l2 a3).f1) ((rd_T44 l2 a3).f2)).bind fun t259 => (if t259 ≥ 0 then (some 7) else (some 0))) else (none)) else (none)) else (some 0)) = some r := by rw [if_neg (show ¬ (false = true) by decide)] at H; exact H
                                clear H
                                have H := H1
                                clear H1
                                by_cases c91 : ((rd_T44 l2 a3).f0) = 1
                                · rw [if_pos c91] at H
                                  have c91b0 : (((rd_T44 l2 a3).f0) == 1) = true := beq_iff_eq.mpr c91
                                  have c91b1 : (((rd_T44 l2 a3).f0) != 1) = false := bne_eq_false_iff_eq.mpr c91
                                  clear c91
                                  by_cases c92 : 0 ≤ a3
                                  · rw [if_pos c92] at H
                                    have c92b0 := eq_true c92
                                    have c92b1 : decide (0 ≤ a3) = true := decide_eq_true c92
                                    clear c92
                                    by_cases c93 : a3 ≤ (l2.length : Int)
                                    · rw [if_pos c93] at H
                                      have c93b0 := eq_true c93
                                      have c93b1 : decide (a3 ≤ (l2.length : Int)) = true := decide_eq_true c93
                                      clear c93
                                      obtain ⟨y255, hy255⟩ : ∃ y_ : List (S44), y_ = (l2.take (a3 : Int).toNat) := ⟨_, rfl⟩
                                      replace H : ((changeforgeref6_Reported.f kj40 y255 ((rd_T44 l2 a3).f1) ((rd_T44 l2 a3).f2)).bind fun t259 => (if t259 ≥ 0 then (some 7) else (some 0))) = some r := by first | (rw [hy255]; with_reducible exact H) | (have H2_ := (Option.bind_some _ _).symm.trans H; rw [hy255]; with_reducible exact H2_) | (have H2_ := (Option.bind_some _ _).symm.trans H; with_reducible exact H2_) | with_reducible exact H | (rw [hy255]; exact H) | exact H
                                      have Ny255 := Aside0.mk hy255
                                      clear hy255
                                      replace H := Option.bind_eq_some_iff.mp H
                                      obtain ⟨t259, A940, H⟩ := H
                                      replace H : (if t259 ≥ 0 then (some 7) else (some 0)) = some r := H
                                      have A94 := Aside0.mk A940
                                      clear A940
                                      by_cases c95 : t259 ≥ 0
                                      · rw [if_pos c95] at H
                                        have c95b0 : decide (0 ≤ t259) = true := decide_eq_true c95
                                        clear c95
                                        obtain rfl := Option.some.inj H
                                        try go_wp2
                                        have n0_ := Aside0.mk (blk_drew BK244.out)
                                        have n1_ := Aside0.mk (below_drew1 HB.out)
                                        clear BK244
                                        clear HB
                                        have BK244 := n0_
                                        have HB := n1_
                                        clear n0_ n1_
                                        have q97 : (a3 : Int) ≤ ((l2.length : Int) : Int) := of_decide_eq_true (by first | (with_reducible assumption) | assumption)
                                        obtain ⟨i097, hi097, _, hsz97, _⟩ := info_parts info44
                                        have hroom97 : l2.length ≤ c2 := HC2.out
                                        have hC97 : Kd.C k44 _ (some ad243) l2.length l2 := HR2.out
                                        have hcut97 := cut_to (P := Try.prog) 22 44 .i64 Try.underlying22 hi097 (some ad243) l2.length c2 a3 (of_decide_eq_true (by first | (with_reducible assumption) | assumption)) q97 hroom97
                                        have hr97 := Kd.C_take (m := (a3 : Int).toNat) hC97 (by omega)
                                        have hy97 : y255.length = (a3 : Int).toNat := (by rw [Ny255.out, List.length_take]; omega)
                                        rw [← Ny255.out] at hr97
                                        rw [← hy97] at hcut97
                                        have HR258 := Aside0.mk hr97
                                        have HC258 := Aside0.mk (show y255.length ≤ c2 from by omega)
                                        clear hr97 hC97 hroom97 hi097 hsz97
                                        have KY97 := Aside0.mk hy97
                                        clear hy97
                                        replace q97 := eq_true q97
                                        refine start_ (n := 14) (S := fun w' => w'.cell? ⟨gb244, 0, none⟩ = some (.int .i64 ((rd_T44 l2 a3).f0)) ∧ w'.cell? ⟨gb244, 1, none⟩ = some (.int .i64 ((rd_T44 l2 a3).f1)) ∧ w'.cell? ⟨gb244, 2, none⟩ = some (.int .i64 ((rd_T44 l2 a3).f2)) ∧ w'.cell? ⟨gb244, 3, none⟩ = some (.int .i64 ((rd_T44 l2 a3).f3))) (ds := []) #[false, false, false, false, false, false, false, false, false, false, false, false, false, false] (by kernel_rfl) rfl rfl ⟨(blk_cell BK244.out 0).trans rfl, (blk_cell BK244.out 1).trans rfl, (blk_cell BK244.out 2).trans rfl, (blk_cell BK244.out 3).trans rfl⟩ (fun hHeld => ?_); refine with_tabW changeforgeref6_eventCode.tab13 changeforgeref6_eventCode.bits13 (fun HT_ HW_ => ?_)
                                        generalize wc.drew = w96 at BK244 HB HR258 hHeld ⊢
                                        refine pure_ (i := 0) (N := some 105) (v := ?_) (a' := ?_) #[true, false, false, false, false, false, false, false, false, false, false, false, false, false] rfl rfl (any_of HT_.out (by kernel_rfl)) (fun _ _ _ h => h) (Or.inl ⟨by rfl, ?_⟩) ?_ ?_
                                        rotate_left
                                        · intro w'
                                          go_simp
                                          with_reducible rfl
                                        rotate_left
                                        · simp only [Act.put, List.setIfInBounds_toArray, List.set_cons_zero, List.set_cons_succ, i64_w, i32_w]
                                          rfl
                                        refine take_ (i := 1) (N := some 106) (v := ?_) (a' := ?_) #[true, true, false, false, false, false, false, false, false, false, false, false, false, false] rfl rfl (take_ofW HT_.out HW_.out (by kernel_rfl)) (fun _ _ _ h => h) (Or.inl ⟨by rfl, ?_⟩) hHeld ?_ ?_
                                        rotate_left
                                        · rintro w' ⟨s0, s1, s2, s3⟩
                                          go_simp
                                          with_reducible rfl
                                        rotate_left
                                        · simp only [Act.put, List.setIfInBounds_toArray, List.set_cons_zero, List.set_cons_succ, i64_w, i32_w]
                                          rfl
                                        refine pure_ (i := 2) (N := some 107) (v := ?_) (a' := ?_) #[true, true, true, false, false, false, false, false, false, false, false, false, false, false] rfl rfl (any_of HT_.out (by kernel_rfl)) (fun _ _ _ h => h) (Or.inl ⟨by rfl, ?_⟩) ?_ ?_
                                        rotate_left
                                        · intro w'
                                          go_simp
                                          with_reducible rfl
                                        rotate_left
                                        · simp only [Act.put, List.setIfInBounds_toArray, List.set_cons_zero, List.set_cons_succ, i64_w, i32_w]
                                          rfl
                                        refine pure_ (i := 3) (N := some 108) (v := ?_) (a' := ?_) #[true, true, true, true, false, false, false, false, false, false, false, false, false, false] rfl rfl (any_of HT_.out (by kernel_rfl)) (fun _ _ _ h => h) (Or.inl ⟨by rfl, ?_⟩) ?_ ?_
                                        rotate_left
                                        · intro w'
                                          go_simp
                                          with_reducible rfl
                                        rotate_left
                                        · simp only [Act.put, List.setIfInBounds_toArray, List.set_cons_zero, List.set_cons_succ, i64_w, i32_w]
                                          rfl
                                        refine pure_ (i := 4) (N := some 109) (v := ?_) (a' := ?_) #[true, true, true, true, true, false, false, false, false, false, false, false, false, false] rfl rfl (any_of HT_.out (by kernel_rfl)) (fun _ _ _ h => h) (Or.inl ⟨by rfl, ?_⟩) ?_ ?_
                                        rotate_left
                                        · intro w'
                                          go_simp
                                          with_reducible rfl
                                        rotate_left
                                        · simp only [Act.put, List.setIfInBounds_toArray, List.set_cons_zero, List.set_cons_succ, i64_w, i32_w]
                                          rfl
                                        refine pure_ (i := 5) (N := some 110) (v := ?_) (a' := ?_) #[true, true, true, true, true, true, false, false, false, false, false, false, false, false] rfl rfl (any_of HT_.out (by kernel_rfl)) (fun _ _ _ h => h) (Or.inl ⟨by rfl, ?_⟩) ?_ ?_
                                        rotate_left
                                        · intro w'
                                          go_simp
                                          with_reducible rfl
                                        rotate_left
                                        · simp only [Act.put, List.setIfInBounds_toArray, List.set_cons_zero, List.set_cons_succ, i64_w, i32_w]
                                          rfl
                                        refine pure_ (i := 6) (N := some 111) (v := ?_) (a' := ?_) #[true, true, true, true, true, true, true, false, false, false, false, false, false, false] rfl rfl (any_of HT_.out (by kernel_rfl)) (fun _ _ _ h => h) (Or.inl ⟨by rfl, ?_⟩) ?_ ?_
                                        rotate_left
                                        · intro w'
                                          go_simp
                                          with_reducible rfl
                                        rotate_left
                                        · simp only [Act.put, List.setIfInBounds_toArray, List.set_cons_zero, List.set_cons_succ, i64_w, i32_w]
                                          rfl
                                        refine pure_ (i := 7) (N := some 112) (v := ?_) (a' := ?_) #[true, true, true, true, true, true, true, true, false, false, false, false, false, false] rfl rfl (any_of HT_.out (by kernel_rfl)) (fun _ _ _ h => h) (Or.inl ⟨by rfl, ?_⟩) ?_ ?_
                                        rotate_left
                                        · intro w'
                                          go_simp
                                          with_reducible rfl
                                        rotate_left
                                        · simp only [Act.put, List.setIfInBounds_toArray, List.set_cons_zero, List.set_cons_succ, i64_w, i32_w]
                                          rfl
                                        refine pure_ (i := 9) (N := some 114) (v := ?_) (a' := ?_) #[true, true, true, true, true, true, true, true, false, true, false, false, false, false] rfl rfl (any_of HT_.out (by kernel_rfl)) (fun _ _ _ h => h) (Or.inl ⟨by rfl, ?_⟩) ?_ ?_
                                        rotate_left
                                        · intro w'
                                          go_simp
                                          with_reducible rfl
                                        rotate_left
                                        · simp only [Act.put, List.setIfInBounds_toArray, List.set_cons_zero, List.set_cons_succ, i64_w, i32_w]
                                          rfl
                                        refine take_ (i := 8) (N := some 113) (v := ?_) (a' := ?_) #[true, true, true, true, true, true, true, true, true, true, false, false, false, false] rfl rfl (take_ofW HT_.out HW_.out (by kernel_rfl)) (fun _ _ _ h => h) (Or.inl ⟨by rfl, ?_⟩) hHeld ?_ ?_
                                        rotate_left
                                        · rintro w' ⟨s0, s1, s2, s3⟩
                                          go_simp
                                          with_reducible rfl
                                        rotate_left
                                        · simp only [Act.put, List.setIfInBounds_toArray, List.set_cons_zero, List.set_cons_succ, i64_w, i32_w]
                                          rfl
                                        refine take_ (i := 10) (N := some 115) (v := ?_) (a' := ?_) #[true, true, true, true, true, true, true, true, true, true, true, false, false, false] rfl rfl (take_ofW HT_.out HW_.out (by kernel_rfl)) (fun _ _ _ h => h) (Or.inl ⟨by rfl, ?_⟩) hHeld ?_ ?_
                                        rotate_left
                                        · rintro w' ⟨s0, s1, s2, s3⟩
                                          go_simp
                                          with_reducible rfl
                                        rotate_left
                                        · simp only [Act.put, List.setIfInBounds_toArray, List.set_cons_zero, List.set_cons_succ, i64_w, i32_w]
                                          rfl
                                        refine one_ (i := 11) (N := some 116) #[true, true, true, true, true, true, true, true, true, true, true, true, false, false] rfl rfl (one_of HT_.out (by kernel_rfl)) (by decide) (fun K hK => ?_)
                                        refine goes_ Try.func16 (by kernel_rfl) rfl #[.slice (some ad243) y255.length c2, .int .i64 ((rd_T44 l2 a3).f1), .int .i64 ((rd_T44 l2 a3).f2)] (by rfl) rfl rfl (by (try simp only [List.map_toArray, List.map_cons, List.map_nil]); first | done | rfl | (simp only [List.length_drop, List.length_take]; rfl) | (simp only [KY100.out]; rfl) | (simp only [KY43.out]; rfl) | (simp only [KY97.out]; rfl) | (go_simp; rw [KY100.out, KY43.out]) | (go_simp; rw [KY100.out, KY97.out]) | (go_simp; rw [KY43.out, KY100.out]) | (go_simp; rw [KY43.out, KY97.out]) | (go_simp; rw [KY97.out, KY100.out]) | (go_simp; rw [KY97.out, KY43.out])) ?_
                                        with_reducible refine (changeforgeref6_Reported.calls kj40 _ _ y255 ((rd_T44 l2 a3).f1) ((rd_T44 l2 a3).f2) t259 _ ?side1 ?side2 A94.out).mono ?_
                                        (case side1 => repeat (first | exact (Kd.C_below HR258.out HB.out) | (with_reducible refine Kd.C_alloc ?_ _) | (with_reducible refine Kd.C_drewN ?_ _) | (with_reducible refine Kd.C_drew ?_)))
                                        (case side2 => exact HC258.out)
                                        rintro e w98 ⟨rfl, hb⟩
                                        refine ⟨_, rfl, ?_⟩
                                        have n0_ := Aside0.mk (blk_below (g := gb244) (o := .cells #[.int .i64 ((rd_T44 l2 a3).f0), .int .i64 ((rd_T44 l2 a3).f1), .int .i64 ((rd_T44 l2 a3).f2), .int .i64 ((rd_T44 l2 a3).f3)] 44 (0, 0)) (by (with_reducible repeat (first | refine blk_drewN ?_ _ | refine blk_drew ?_ | refine blk_alloc ?_ _)); exact BK244.out) hb)
                                        have n1_ := Aside0.mk (below_step (by repeat (first | (with_reducible first | exact HB.out | apply below_alloc | apply pw_below_drewN | apply below_drew1 | refine below_set ?_ GE244.out) | exact HB.out)) hb)
                                        clear BK244
                                        clear HB
                                        have BK244 := n0_
                                        have HB := n1_
                                        clear n0_ n1_
                                        (try clear hb)
                                        (try clear hb2)
                                        (try clear hk)
                                        (try clear hi)
                                        refine hK.out _ _ ⟨(blk_cell BK244.out 0).trans rfl, (blk_cell BK244.out 1).trans rfl, (blk_cell BK244.out 2).trans rfl, (blk_cell BK244.out 3).trans rfl⟩ (fun hHeld => ?_)
                                        clear hK K
                                        refine norm_ (a' := ?_) ?_ ?_
                                        rotate_left
                                        · show Act.put _ (some 116) _ = _
                                          simp only [Act.put, List.setIfInBounds_toArray, List.set_cons_zero, List.set_cons_succ, i64_w, i32_w]
                                          rfl
                                        refine pure_ (i := 12) (N := some 117) (v := ?_) (a' := ?_) #[true, true, true, true, true, true, true, true, true, true, true, true, true, false] rfl rfl (any_of HT_.out (by kernel_rfl)) (fun _ _ _ h => h) (Or.inl ⟨by rfl, ?_⟩) ?_ ?_
                                        rotate_left
                                        · intro w'
                                          go_simp
                                          with_reducible rfl
                                        rotate_left
                                        · simp only [Act.put, List.setIfInBounds_toArray, List.set_cons_zero, List.set_cons_succ, i64_w, i32_w]
                                          rfl
                                        refine pure_ (i := 13) (N := some 118) (v := ?_) (a' := ?_) #[true, true, true, true, true, true, true, true, true, true, true, true, true, true] rfl rfl (any_of HT_.out (by kernel_rfl)) (fun _ _ _ h => h) (Or.inl ⟨by rfl, ?_⟩) ?_ ?_
                                        rotate_left
                                        · intro w'
                                          go_simp
                                          with_reducible rfl
                                        rotate_left
                                        · simp only [Act.put, List.setIfInBounds_toArray, List.set_cons_zero, List.set_cons_succ, i64_w, i32_w]
                                          rfl
                                        refine done_ (done_of HT_.out (by kernel_rfl)) ?_
                                        try go_wp2
                                        go_ret
                                        exact ⟨by first | rfl | (simp [errW_none, errW_some] <;> rfl) | (simp [*, errW_none, errW_some] <;> rfl), by repeat (first | (with_reducible first | exact HB.out | apply below_alloc | apply pw_below_drewN | apply below_drew1 | refine below_set ?_ GE244.out) | exact HB.out)⟩
                                      · rw [if_neg c95] at H
                                        have c95b0 : decide (0 ≤ t259) = false := decide_eq_false c95
                                        clear c95
                                        obtain rfl := Option.some.inj H
                                        try go_wp2
                                        have n0_ := Aside0.mk (blk_drew BK244.out)
                                        have n1_ := Aside0.mk (below_drew1 HB.out)
                                        clear BK244
                                        clear HB
                                        have BK244 := n0_
                                        have HB := n1_
                                        clear n0_ n1_
                                        have q100 : (a3 : Int) ≤ ((l2.length : Int) : Int) := of_decide_eq_true (by first | (with_reducible assumption) | assumption)
                                        obtain ⟨i0100, hi0100, _, hsz100, _⟩ := info_parts info44
                                        have hroom100 : l2.length ≤ c2 := HC2.out
                                        have hC100 : Kd.C k44 _ (some ad243) l2.length l2 := HR2.out
                                        have hcut100 := cut_to (P := Try.prog) 22 44 .i64 Try.underlying22 hi0100 (some ad243) l2.length c2 a3 (of_decide_eq_true (by first | (with_reducible assumption) | assumption)) q100 hroom100
                                        have hr100 := Kd.C_take (m := (a3 : Int).toNat) hC100 (by omega)
                                        have hy100 : y255.length = (a3 : Int).toNat := (by rw [Ny255.out, List.length_take]; omega)
                                        rw [← Ny255.out] at hr100
                                        rw [← hy100] at hcut100
                                        have HR258 := Aside0.mk hr100
                                        have HC258 := Aside0.mk (show y255.length ≤ c2 from by omega)
                                        clear hr100 hC100 hroom100 hi0100 hsz100
                                        have KY100 := Aside0.mk hy100
                                        clear hy100
                                        replace q100 := eq_true q100
                                        refine start_ (n := 14) (S := fun w' => w'.cell? ⟨gb244, 0, none⟩ = some (.int .i64 ((rd_T44 l2 a3).f0)) ∧ w'.cell? ⟨gb244, 1, none⟩ = some (.int .i64 ((rd_T44 l2 a3).f1)) ∧ w'.cell? ⟨gb244, 2, none⟩ = some (.int .i64 ((rd_T44 l2 a3).f2)) ∧ w'.cell? ⟨gb244, 3, none⟩ = some (.int .i64 ((rd_T44 l2 a3).f3))) (ds := []) #[false, false, false, false, false, false, false, false, false, false, false, false, false, false] (by kernel_rfl) rfl rfl ⟨(blk_cell BK244.out 0).trans rfl, (blk_cell BK244.out 1).trans rfl, (blk_cell BK244.out 2).trans rfl, (blk_cell BK244.out 3).trans rfl⟩ (fun hHeld => ?_); refine with_tabW changeforgeref6_eventCode.tab13 changeforgeref6_eventCode.bits13 (fun HT_ HW_ => ?_)
                                        generalize wc.drew = w99 at BK244 HB HR258 hHeld ⊢
                                        refine pure_ (i := 0) (N := some 105) (v := ?_) (a' := ?_) #[true, false, false, false, false, false, false, false, false, false, false, false, false, false] rfl rfl (any_of HT_.out (by kernel_rfl)) (fun _ _ _ h => h) (Or.inl ⟨by rfl, ?_⟩) ?_ ?_
                                        rotate_left
                                        · intro w'
                                          go_simp
                                          with_reducible rfl
                                        rotate_left
                                        · simp only [Act.put, List.setIfInBounds_toArray, List.set_cons_zero, List.set_cons_succ, i64_w, i32_w]
                                          rfl
                                        refine take_ (i := 1) (N := some 106) (v := ?_) (a' := ?_) #[true, true, false, false, false, false, false, false, false, false, false, false, false, false] rfl rfl (take_ofW HT_.out HW_.out (by kernel_rfl)) (fun _ _ _ h => h) (Or.inl ⟨by rfl, ?_⟩) hHeld ?_ ?_
                                        rotate_left
                                        · rintro w' ⟨s0, s1, s2, s3⟩
                                          go_simp
                                          with_reducible rfl
                                        rotate_left
                                        · simp only [Act.put, List.setIfInBounds_toArray, List.set_cons_zero, List.set_cons_succ, i64_w, i32_w]
                                          rfl
                                        refine pure_ (i := 2) (N := some 107) (v := ?_) (a' := ?_) #[true, true, true, false, false, false, false, false, false, false, false, false, false, false] rfl rfl (any_of HT_.out (by kernel_rfl)) (fun _ _ _ h => h) (Or.inl ⟨by rfl, ?_⟩) ?_ ?_
                                        rotate_left
                                        · intro w'
                                          go_simp
                                          with_reducible rfl
                                        rotate_left
                                        · simp only [Act.put, List.setIfInBounds_toArray, List.set_cons_zero, List.set_cons_succ, i64_w, i32_w]
                                          rfl
                                        refine pure_ (i := 3) (N := some 108) (v := ?_) (a' := ?_) #[true, true, true, true, false, false, false, false, false, false, false, false, false, false] rfl rfl (any_of HT_.out (by kernel_rfl)) (fun _ _ _ h => h) (Or.inl ⟨by rfl, ?_⟩) ?_ ?_
                                        rotate_left
                                        · intro w'
                                          go_simp
                                          with_reducible rfl
                                        rotate_left
                                        · simp only [Act.put, List.setIfInBounds_toArray, List.set_cons_zero, List.set_cons_succ, i64_w, i32_w]
                                          rfl
                                        refine pure_ (i := 4) (N := some 109) (v := ?_) (a' := ?_) #[true, true, true, true, true, false, false, false, false, false, false, false, false, false] rfl rfl (any_of HT_.out (by kernel_rfl)) (fun _ _ _ h => h) (Or.inl ⟨by rfl, ?_⟩) ?_ ?_
                                        rotate_left
                                        · intro w'
                                          go_simp
                                          with_reducible rfl
                                        rotate_left
                                        · simp only [Act.put, List.setIfInBounds_toArray, List.set_cons_zero, List.set_cons_succ, i64_w, i32_w]
                                          rfl
                                        refine pure_ (i := 5) (N := some 110) (v := ?_) (a' := ?_) #[true, true, true, true, true, true, false, false, false, false, false, false, false, false] rfl rfl (any_of HT_.out (by kernel_rfl)) (fun _ _ _ h => h) (Or.inl ⟨by rfl, ?_⟩) ?_ ?_
                                        rotate_left
                                        · intro w'
                                          go_simp
                                          with_reducible rfl
                                        rotate_left
                                        · simp only [Act.put, List.setIfInBounds_toArray, List.set_cons_zero, List.set_cons_succ, i64_w, i32_w]
                                          rfl
                                        refine pure_ (i := 6) (N := some 111) (v := ?_) (a' := ?_) #[true, true, true, true, true, true, true, false, false, false, false, false, false, false] rfl rfl (any_of HT_.out (by kernel_rfl)) (fun _ _ _ h => h) (Or.inl ⟨by rfl, ?_⟩) ?_ ?_
                                        rotate_left
                                        · intro w'
                                          go_simp
                                          with_reducible rfl
                                        rotate_left
                                        · simp only [Act.put, List.setIfInBounds_toArray, List.set_cons_zero, List.set_cons_succ, i64_w, i32_w]
                                          rfl
                                        refine pure_ (i := 7) (N := some 112) (v := ?_) (a' := ?_) #[true, true, true, true, true, true, true, true, false, false, false, false, false, false] rfl rfl (any_of HT_.out (by kernel_rfl)) (fun _ _ _ h => h) (Or.inl ⟨by rfl, ?_⟩) ?_ ?_
                                        rotate_left
                                        · intro w'
                                          go_simp
                                          with_reducible rfl
                                        rotate_left
                                        · simp only [Act.put, List.setIfInBounds_toArray, List.set_cons_zero, List.set_cons_succ, i64_w, i32_w]
                                          rfl
                                        refine pure_ (i := 9) (N := some 114) (v := ?_) (a' := ?_) #[true, true, true, true, true, true, true, true, false, true, false, false, false, false] rfl rfl (any_of HT_.out (by kernel_rfl)) (fun _ _ _ h => h) (Or.inl ⟨by rfl, ?_⟩) ?_ ?_
                                        rotate_left
                                        · intro w'
                                          go_simp
                                          with_reducible rfl
                                        rotate_left
                                        · simp only [Act.put, List.setIfInBounds_toArray, List.set_cons_zero, List.set_cons_succ, i64_w, i32_w]
                                          rfl
                                        refine take_ (i := 8) (N := some 113) (v := ?_) (a' := ?_) #[true, true, true, true, true, true, true, true, true, true, false, false, false, false] rfl rfl (take_ofW HT_.out HW_.out (by kernel_rfl)) (fun _ _ _ h => h) (Or.inl ⟨by rfl, ?_⟩) hHeld ?_ ?_
                                        rotate_left
                                        · rintro w' ⟨s0, s1, s2, s3⟩
                                          go_simp
                                          with_reducible rfl
                                        rotate_left
                                        · simp only [Act.put, List.setIfInBounds_toArray, List.set_cons_zero, List.set_cons_succ, i64_w, i32_w]
                                          rfl
                                        refine take_ (i := 10) (N := some 115) (v := ?_) (a' := ?_) #[true, true, true, true, true, true, true, true, true, true, true, false, false, false] rfl rfl (take_ofW HT_.out HW_.out (by kernel_rfl)) (fun _ _ _ h => h) (Or.inl ⟨by rfl, ?_⟩) hHeld ?_ ?_
                                        rotate_left
                                        · rintro w' ⟨s0, s1, s2, s3⟩
                                          go_simp
                                          with_reducible rfl
                                        rotate_left
                                        · simp only [Act.put, List.setIfInBounds_toArray, List.set_cons_zero, List.set_cons_succ, i64_w, i32_w]
                                          rfl
                                        refine one_ (i := 11) (N := some 116) #[true, true, true, true, true, true, true, true, true, true, true, true, false, false] rfl rfl (one_of HT_.out (by kernel_rfl)) (by decide) (fun K hK => ?_)
                                        refine goes_ Try.func16 (by kernel_rfl) rfl #[.slice (some ad243) y255.length c2, .int .i64 ((rd_T44 l2 a3).f1), .int .i64 ((rd_T44 l2 a3).f2)] (by rfl) rfl rfl (by (try simp only [List.map_toArray, List.map_cons, List.map_nil]); first | done | rfl | (simp only [List.length_drop, List.length_take]; rfl) | (simp only [KY100.out]; rfl) | (simp only [KY43.out]; rfl) | (simp only [KY97.out]; rfl) | (go_simp; rw [KY100.out, KY43.out]) | (go_simp; rw [KY100.out, KY97.out]) | (go_simp; rw [KY43.out, KY100.out]) | (go_simp; rw [KY43.out, KY97.out]) | (go_simp; rw [KY97.out, KY100.out]) | (go_simp; rw [KY97.out, KY43.out])) ?_
                                        with_reducible refine (changeforgeref6_Reported.calls kj40 _ _ y255 ((rd_T44 l2 a3).f1) ((rd_T44 l2 a3).f2) t259 _ ?side1 ?side2 A94.out).mono ?_
                                        (case side1 => repeat (first | exact (Kd.C_below HR258.out HB.out) | (with_reducible refine Kd.C_alloc ?_ _) | (with_reducible refine Kd.C_drewN ?_ _) | (with_reducible refine Kd.C_drew ?_)))
                                        (case side2 => exact HC258.out)
                                        rintro e w101 ⟨rfl, hb⟩
                                        refine ⟨_, rfl, ?_⟩
                                        have n0_ := Aside0.mk (blk_below (g := gb244) (o := .cells #[.int .i64 ((rd_T44 l2 a3).f0), .int .i64 ((rd_T44 l2 a3).f1), .int .i64 ((rd_T44 l2 a3).f2), .int .i64 ((rd_T44 l2 a3).f3)] 44 (0, 0)) (by (with_reducible repeat (first | refine blk_drewN ?_ _ | refine blk_drew ?_ | refine blk_alloc ?_ _)); exact BK244.out) hb)
                                        have n1_ := Aside0.mk (below_step (by repeat (first | (with_reducible first | exact HB.out | apply below_alloc | apply pw_below_drewN | apply below_drew1 | refine below_set ?_ GE244.out) | exact HB.out)) hb)
                                        clear BK244
                                        clear HB
                                        have BK244 := n0_
                                        have HB := n1_
                                        clear n0_ n1_
                                        (try clear hb)
                                        (try clear hb2)
                                        (try clear hk)
                                        (try clear hi)
                                        refine hK.out _ _ ⟨(blk_cell BK244.out 0).trans rfl, (blk_cell BK244.out 1).trans rfl, (blk_cell BK244.out 2).trans rfl, (blk_cell BK244.out 3).trans rfl⟩ (fun hHeld => ?_)
                                        clear hK K
                                        refine norm_ (a' := ?_) ?_ ?_
                                        rotate_left
                                        · show Act.put _ (some 116) _ = _
                                          simp only [Act.put, List.setIfInBounds_toArray, List.set_cons_zero, List.set_cons_succ, i64_w, i32_w]
                                          rfl
                                        refine pure_ (i := 12) (N := some 117) (v := ?_) (a' := ?_) #[true, true, true, true, true, true, true, true, true, true, true, true, true, false] rfl rfl (any_of HT_.out (by kernel_rfl)) (fun _ _ _ h => h) (Or.inl ⟨by rfl, ?_⟩) ?_ ?_
                                        rotate_left
                                        · intro w'
                                          go_simp
                                          with_reducible rfl
                                        rotate_left
                                        · simp only [Act.put, List.setIfInBounds_toArray, List.set_cons_zero, List.set_cons_succ, i64_w, i32_w]
                                          rfl
                                        refine pure_ (i := 13) (N := some 118) (v := ?_) (a' := ?_) #[true, true, true, true, true, true, true, true, true, true, true, true, true, true] rfl rfl (any_of HT_.out (by kernel_rfl)) (fun _ _ _ h => h) (Or.inl ⟨by rfl, ?_⟩) ?_ ?_
                                        rotate_left
                                        · intro w'
                                          go_simp
                                          with_reducible rfl
                                        rotate_left
                                        · simp only [Act.put, List.setIfInBounds_toArray, List.set_cons_zero, List.set_cons_succ, i64_w, i32_w]
                                          rfl
                                        refine done_ (done_of HT_.out (by kernel_rfl)) ?_
                                        try go_wp2
                                        go_ret
                                        exact ⟨by first | rfl | (simp [errW_none, errW_some] <;> rfl) | (simp [*, errW_none, errW_some] <;> rfl), by repeat (first | (with_reducible first | exact HB.out | apply below_alloc | apply pw_below_drewN | apply below_drew1 | refine below_set ?_ GE244.out) | exact HB.out)⟩
                                    · rw [if_neg c93] at H
                                      exact absurd H (by simp)
                                  · rw [if_neg c92] at H
                                    exact absurd H (by simp)
                                · rw [if_neg c91] at H
                                  have c91b0 : (((rd_T44 l2 a3).f0) == 1) = false := beq_eq_false_iff_ne.mpr c91
                                  have c91b1 : (((rd_T44 l2 a3).f0) != 1) = true := bne_iff_ne.mpr c91
                                  obtain rfl := Option.some.inj H
                                  try go_wp2
                                  have n0_ := Aside0.mk (blk_drew BK244.out)
                                  have n1_ := Aside0.mk (below_drew1 HB.out)
                                  clear BK244
                                  clear HB
                                  have BK244 := n0_
                                  have HB := n1_
                                  clear n0_ n1_
                                  refine start_ (n := 14) (S := fun w' => w'.cell? ⟨gb244, 0, none⟩ = some (.int .i64 ((rd_T44 l2 a3).f0)) ∧ w'.cell? ⟨gb244, 1, none⟩ = some (.int .i64 ((rd_T44 l2 a3).f1)) ∧ w'.cell? ⟨gb244, 2, none⟩ = some (.int .i64 ((rd_T44 l2 a3).f2)) ∧ w'.cell? ⟨gb244, 3, none⟩ = some (.int .i64 ((rd_T44 l2 a3).f3))) (ds := []) #[false, false, false, false, false, false, false, false, false, false, false, false, false, false] (by kernel_rfl) rfl rfl ⟨(blk_cell BK244.out 0).trans rfl, (blk_cell BK244.out 1).trans rfl, (blk_cell BK244.out 2).trans rfl, (blk_cell BK244.out 3).trans rfl⟩ (fun hHeld => ?_); refine with_tabW changeforgeref6_eventCode.tab13 changeforgeref6_eventCode.bits13 (fun HT_ HW_ => ?_)
                                  generalize wc.drew = w102 at BK244 HB hHeld ⊢
                                  refine pure_ (i := 0) (N := some 105) (v := ?_) (a' := ?_) #[true, false, false, false, false, false, false, false, false, false, false, false, false, false] rfl rfl (any_of HT_.out (by kernel_rfl)) (fun _ _ _ h => h) (Or.inl ⟨by rfl, ?_⟩) ?_ ?_
                                  rotate_left
                                  · intro w'
                                    go_simp
                                    with_reducible rfl
                                  rotate_left
                                  · simp only [Act.put, List.setIfInBounds_toArray, List.set_cons_zero, List.set_cons_succ, i64_w, i32_w]
                                    rfl
                                  refine take_ (i := 1) (N := some 106) (v := ?_) (a' := ?_) #[true, true, false, false, false, false, false, false, false, false, false, false, false, false] rfl rfl (take_ofW HT_.out HW_.out (by kernel_rfl)) (fun _ _ _ h => h) (Or.inl ⟨by rfl, ?_⟩) hHeld ?_ ?_
                                  rotate_left
                                  · rintro w' ⟨s0, s1, s2, s3⟩
                                    go_simp
                                    with_reducible rfl
                                  rotate_left
                                  · simp only [Act.put, List.setIfInBounds_toArray, List.set_cons_zero, List.set_cons_succ, i64_w, i32_w]
                                    rfl
                                  refine pure_ (i := 2) (N := some 107) (v := ?_) (a' := ?_) #[true, true, true, false, false, false, false, false, false, false, false, false, false, false] rfl rfl (any_of HT_.out (by kernel_rfl)) (fun _ _ _ h => h) (Or.inl ⟨by rfl, ?_⟩) ?_ ?_
                                  rotate_left
                                  · intro w'
                                    go_simp
                                    with_reducible rfl
                                  rotate_left
                                  · simp only [Act.put, List.setIfInBounds_toArray, List.set_cons_zero, List.set_cons_succ, i64_w, i32_w]
                                    rfl
                                  refine pure_ (i := 3) (N := some 108) (v := ?_) (a' := ?_) #[true, true, true, true, false, false, false, false, false, false, false, false, false, false] rfl rfl (any_of HT_.out (by kernel_rfl)) (fun _ _ _ h => h) (Or.inl ⟨by rfl, ?_⟩) ?_ ?_
                                  rotate_left
                                  · intro w'
                                    go_simp
                                    with_reducible rfl
                                  rotate_left
                                  · simp only [Act.put, List.setIfInBounds_toArray, List.set_cons_zero, List.set_cons_succ, i64_w, i32_w]
                                    rfl
                                  refine pure_ (i := 4) (N := some 109) (v := undef) (a' := ?_) #[true, true, true, true, true, false, false, false, false, false, false, false, false, false] rfl rfl (any_of HT_.out (by kernel_rfl)) (fun _ _ _ h => h) (Or.inr ⟨by rfl, rfl⟩) ?_ ?_
                                  rotate_left
                                  · simp only [Act.put, List.setIfInBounds_toArray, List.set_cons_zero, List.set_cons_succ, i64_w, i32_w]
                                    rfl
                                  refine pure_ (i := 5) (N := some 110) (v := undef) (a' := ?_) #[true, true, true, true, true, true, false, false, false, false, false, false, false, false] rfl rfl (any_of HT_.out (by kernel_rfl)) (fun _ _ _ h => h) (Or.inr ⟨by rfl, rfl⟩) ?_ ?_
                                  rotate_left
                                  · simp only [Act.put, List.setIfInBounds_toArray, List.set_cons_zero, List.set_cons_succ, i64_w, i32_w]
                                    rfl
                                  refine pure_ (i := 6) (N := some 111) (v := undef) (a' := ?_) #[true, true, true, true, true, true, true, false, false, false, false, false, false, false] rfl rfl (any_of HT_.out (by kernel_rfl)) (fun _ _ _ h => h) (Or.inr ⟨by rfl, rfl⟩) ?_ ?_
                                  rotate_left
                                  · simp only [Act.put, List.setIfInBounds_toArray, List.set_cons_zero, List.set_cons_succ, i64_w, i32_w]
                                    rfl
                                  refine pure_ (i := 7) (N := some 112) (v := undef) (a' := ?_) #[true, true, true, true, true, true, true, true, false, false, false, false, false, false] rfl rfl (any_of HT_.out (by kernel_rfl)) (fun _ _ _ h => h) (Or.inr ⟨by rfl, rfl⟩) ?_ ?_
                                  rotate_left
                                  · simp only [Act.put, List.setIfInBounds_toArray, List.set_cons_zero, List.set_cons_succ, i64_w, i32_w]
                                    rfl
                                  refine pure_ (i := 8) (N := some 113) (v := undef) (a' := ?_) #[true, true, true, true, true, true, true, true, true, false, false, false, false, false] rfl rfl (any_of HT_.out (by kernel_rfl)) (fun _ _ _ h => h) (Or.inr ⟨by rfl, rfl⟩) ?_ ?_
                                  rotate_left
                                  · simp only [Act.put, List.setIfInBounds_toArray, List.set_cons_zero, List.set_cons_succ, i64_w, i32_w]
                                    rfl
                                  refine pure_ (i := 9) (N := some 114) (v := undef) (a' := ?_) #[true, true, true, true, true, true, true, true, true, true, false, false, false, false] rfl rfl (any_of HT_.out (by kernel_rfl)) (fun _ _ _ h => h) (Or.inr ⟨by rfl, rfl⟩) ?_ ?_
                                  rotate_left
                                  · simp only [Act.put, List.setIfInBounds_toArray, List.set_cons_zero, List.set_cons_succ, i64_w, i32_w]
                                    rfl
                                  refine pure_ (i := 10) (N := some 115) (v := undef) (a' := ?_) #[true, true, true, true, true, true, true, true, true, true, true, false, false, false] rfl rfl (any_of HT_.out (by kernel_rfl)) (fun _ _ _ h => h) (Or.inr ⟨by rfl, rfl⟩) ?_ ?_
                                  rotate_left
                                  · simp only [Act.put, List.setIfInBounds_toArray, List.set_cons_zero, List.set_cons_succ, i64_w, i32_w]
                                    rfl
                                  refine pure_ (i := 11) (N := some 116) (v := undef) (a' := ?_) #[true, true, true, true, true, true, true, true, true, true, true, true, false, false] rfl rfl (any_of HT_.out (by kernel_rfl)) (fun _ _ _ h => h) (Or.inr ⟨by rfl, rfl⟩) ?_ ?_
                                  rotate_left
                                  · simp only [Act.put, List.setIfInBounds_toArray, List.set_cons_zero, List.set_cons_succ, i64_w, i32_w]
                                    rfl
                                  refine pure_ (i := 12) (N := some 117) (v := undef) (a' := ?_) #[true, true, true, true, true, true, true, true, true, true, true, true, true, false] rfl rfl (any_of HT_.out (by kernel_rfl)) (fun _ _ _ h => h) (Or.inr ⟨by rfl, rfl⟩) ?_ ?_
                                  rotate_left
                                  · simp only [Act.put, List.setIfInBounds_toArray, List.set_cons_zero, List.set_cons_succ, i64_w, i32_w]
                                    rfl
                                  refine pure_ (i := 13) (N := some 118) (v := ?_) (a' := ?_) #[true, true, true, true, true, true, true, true, true, true, true, true, true, true] rfl rfl (any_of HT_.out (by kernel_rfl)) (fun _ _ _ h => h) (Or.inl ⟨by rfl, ?_⟩) ?_ ?_
                                  rotate_left
                                  · intro w'
                                    go_simp
                                    with_reducible rfl
                                  rotate_left
                                  · simp only [Act.put, List.setIfInBounds_toArray, List.set_cons_zero, List.set_cons_succ, i64_w, i32_w]
                                    rfl
                                  refine done_ (done_of HT_.out (by kernel_rfl)) ?_
                                  try go_wp2
                                  go_ret
                                  exact ⟨by first | rfl | (simp [errW_none, errW_some] <;> rfl) | (simp [*, errW_none, errW_some] <;> rfl), by repeat (first | (with_reducible first | exact HB.out | apply below_alloc | apply pw_below_drewN | apply below_drew1 | refine below_set ?_ GE244.out) | exact HB.out)⟩
                        · rw [if_neg c39] at H
                          exact absurd H (by simp)
                      · rw [if_neg c38] at H
                        exact absurd H (by simp)
        · replace c10 := Bool.eq_false_iff.mpr c10
          subst c10
          have H1 : (some 3) = some r := by rw [if_neg (show ¬ (false = true) by decide)] at H; exact H
          clear H
          have H := H1
          clear H1
          obtain rfl := Option.some.inj H
          have p243 : 0 ≤ (a3 : Int) := of_decide_eq_true (by first | (with_reducible assumption) | assumption)
          have q243 : a3 < (l2.length : Int) := of_decide_eq_true (by first | (with_reducible assumption) | assumption)
          obtain ⟨ad243, e243, hx243_0, hx243_1, hx243_2, hx243_3⟩ := at_T44 HR2.out a3 p243 q243
          cases e243
          replace p243 := eq_true p243
          replace q243 := eq_true q243
          go_enter Try.func25, Try.ntmps25
          go_wp2_with (first | ((with_reducible refine gate_dst (N := 9) rfl ?_); refine box_event ?hg (N := 9) ?hd (cs := #[.int .i64 0, .int .i64 0, .int .i64 0, .int .i64 0]) (t := 44) ?hr ?_; (case hd => rfl); (case hg => rfl); (case hr => first | (go_simp; done) | (go_simp; rfl)); intro gb244 hg w103 hbox hb; have n0_ := Aside0.mk (below_step (by repeat (first | (with_reducible first | exact HB.out | apply below_alloc | apply pw_below_drewN | apply below_drew1) | exact HB.out)) hb); have n1_ := Aside0.mk (hbox); have n2_ := Aside0.mk ((by rw [hg]; exact (below_size (by repeat (first | (with_reducible first | exact HB.out | apply below_alloc | apply pw_below_drewN | apply below_drew1) | exact HB.out))) : w.heap.size ≤ gb244)); have n3_ := Aside0.mk ((by rw [hg]; exact (below_size (by repeat (first | (with_reducible first | exact HB.out | apply below_alloc | apply pw_below_drewN | apply below_drew1) | exact HB.out))) : w.heap.size ≤ gb244)); clear HB; have HB := n0_; have BK244 := n1_; have GW244 := n2_; have GE244 := n3_; clear n0_ n1_ n2_ n3_; clear hb hbox hg; have hcz104_0 : w103.cell? ⟨gb244, 0, none⟩ = some (.int .i64 0) := (blk_cell BK244.out 0).trans rfl; have hcz104_1 : w103.cell? ⟨gb244, 1, none⟩ = some (.int .i64 0) := (blk_cell BK244.out 1).trans rfl; have hcz104_2 : w103.cell? ⟨gb244, 2, none⟩ = some (.int .i64 0) := (blk_cell BK244.out 2).trans rfl; have hcz104_3 : w103.cell? ⟨gb244, 3, none⟩ = some (.int .i64 0) := (blk_cell BK244.out 3).trans rfl; have hfz104_0 := blk_frozen BK244.out 0; have hfz104_1 := blk_frozen BK244.out 1; have hfz104_2 := blk_frozen BK244.out 2; have hfz104_3 := blk_frozen BK244.out 3) | ((with_reducible refine gate_callee (f := 27) rfl ?_); refine goesL_ (some 17) rfl rfl Try.func27 (by kernel_rfl) rfl #[.int .i64 ((rd_T44 l2 a3).f0), .int .i64 1, .int .i64 4] rfl (by (try simp only [List.map_toArray, List.map_cons, List.map_nil]); first | done | rfl | (simp only [List.length_drop, List.length_take]; rfl) | (simp only [KY100.out]; rfl) | (simp only [KY43.out]; rfl) | (simp only [KY97.out]; rfl) | (go_simp; rw [KY100.out, KY43.out]) | (go_simp; rw [KY100.out, KY97.out]) | (go_simp; rw [KY43.out, KY100.out]) | (go_simp; rw [KY43.out, KY97.out]) | (go_simp; rw [KY97.out, KY100.out]) | (go_simp; rw [KY97.out, KY43.out])) ?_; (with_reducible refine (changeforgeref6_in.calls ((rd_T44 l2 a3).f0) 1 4 true _ A7.out).mono ?_); rintro e w' ⟨rfl, ⟨nd, rfl⟩⟩; refine ⟨_, rfl, ?_⟩) | ((with_reducible refine gate_callee (f := 27) rfl ?_); refine goesL_ (some 23) rfl rfl Try.func27 (by kernel_rfl) rfl #[.int .i64 ((rd_T44 l2 a3).f1), .int .i64 0, .int .i64 (wrap64 (a1 - 1))] rfl (by (try simp only [List.map_toArray, List.map_cons, List.map_nil]); first | done | rfl | (simp only [List.length_drop, List.length_take]; rfl) | (simp only [KY100.out]; rfl) | (simp only [KY43.out]; rfl) | (simp only [KY97.out]; rfl) | (go_simp; rw [KY100.out, KY43.out]) | (go_simp; rw [KY100.out, KY97.out]) | (go_simp; rw [KY43.out, KY100.out]) | (go_simp; rw [KY43.out, KY97.out]) | (go_simp; rw [KY97.out, KY100.out]) | (go_simp; rw [KY97.out, KY43.out])) ?_; (with_reducible refine (changeforgeref6_in.calls ((rd_T44 l2 a3).f1) 0 (wrap64 (a1 - 1)) false _ A9.out).mono ?_); rintro e w' ⟨rfl, ⟨nd, rfl⟩⟩; refine ⟨_, rfl, ?_⟩))
          go_ret
          exact ⟨by first | rfl | (simp [errW_none, errW_some] <;> rfl) | (simp [*, errW_none, errW_some] <;> rfl), by repeat (first | (with_reducible first | exact HB.out | apply below_alloc | apply pw_below_drewN | apply below_drew1 | refine below_set ?_ GE244.out) | exact HB.out)⟩
      · replace c8 := Bool.eq_false_iff.mpr c8
        subst c8
        have H1 : (some 4) = some r := by rw [if_neg (show ¬ (false = true) by decide)] at H; exact H
        clear H
        have H := H1
        clear H1
        obtain rfl := Option.some.inj H
        have p243 : 0 ≤ (a3 : Int) := of_decide_eq_true (by first | (with_reducible assumption) | assumption)
        have q243 : a3 < (l2.length : Int) := of_decide_eq_true (by first | (with_reducible assumption) | assumption)
        obtain ⟨ad243, e243, hx243_0, hx243_1, hx243_2, hx243_3⟩ := at_T44 HR2.out a3 p243 q243
        cases e243
        replace p243 := eq_true p243
        replace q243 := eq_true q243
        go_enter Try.func25, Try.ntmps25
        go_wp2_with (first | ((with_reducible refine gate_dst (N := 9) rfl ?_); refine box_event ?hg (N := 9) ?hd (cs := #[.int .i64 0, .int .i64 0, .int .i64 0, .int .i64 0]) (t := 44) ?hr ?_; (case hd => rfl); (case hg => rfl); (case hr => first | (go_simp; done) | (go_simp; rfl)); intro gb244 hg w105 hbox hb; have n0_ := Aside0.mk (below_step (by repeat (first | (with_reducible first | exact HB.out | apply below_alloc | apply pw_below_drewN | apply below_drew1) | exact HB.out)) hb); have n1_ := Aside0.mk (hbox); have n2_ := Aside0.mk ((by rw [hg]; exact (below_size (by repeat (first | (with_reducible first | exact HB.out | apply below_alloc | apply pw_below_drewN | apply below_drew1) | exact HB.out))) : w.heap.size ≤ gb244)); have n3_ := Aside0.mk ((by rw [hg]; exact (below_size (by repeat (first | (with_reducible first | exact HB.out | apply below_alloc | apply pw_below_drewN | apply below_drew1) | exact HB.out))) : w.heap.size ≤ gb244)); clear HB; have HB := n0_; have BK244 := n1_; have GW244 := n2_; have GE244 := n3_; clear n0_ n1_ n2_ n3_; clear hb hbox hg; have hcz106_0 : w105.cell? ⟨gb244, 0, none⟩ = some (.int .i64 0) := (blk_cell BK244.out 0).trans rfl; have hcz106_1 : w105.cell? ⟨gb244, 1, none⟩ = some (.int .i64 0) := (blk_cell BK244.out 1).trans rfl; have hcz106_2 : w105.cell? ⟨gb244, 2, none⟩ = some (.int .i64 0) := (blk_cell BK244.out 2).trans rfl; have hcz106_3 : w105.cell? ⟨gb244, 3, none⟩ = some (.int .i64 0) := (blk_cell BK244.out 3).trans rfl; have hfz106_0 := blk_frozen BK244.out 0; have hfz106_1 := blk_frozen BK244.out 1; have hfz106_2 := blk_frozen BK244.out 2; have hfz106_3 := blk_frozen BK244.out 3) | ((with_reducible refine gate_callee (f := 27) rfl ?_); refine goesL_ (some 17) rfl rfl Try.func27 (by kernel_rfl) rfl #[.int .i64 ((rd_T44 l2 a3).f0), .int .i64 1, .int .i64 4] rfl (by (try simp only [List.map_toArray, List.map_cons, List.map_nil]); first | done | rfl | (simp only [List.length_drop, List.length_take]; rfl) | (simp only [KY100.out]; rfl) | (simp only [KY43.out]; rfl) | (simp only [KY97.out]; rfl) | (go_simp; rw [KY100.out, KY43.out]) | (go_simp; rw [KY100.out, KY97.out]) | (go_simp; rw [KY43.out, KY100.out]) | (go_simp; rw [KY43.out, KY97.out]) | (go_simp; rw [KY97.out, KY100.out]) | (go_simp; rw [KY97.out, KY43.out])) ?_; (with_reducible refine (changeforgeref6_in.calls ((rd_T44 l2 a3).f0) 1 4 false _ A7.out).mono ?_); rintro e w' ⟨rfl, ⟨nd, rfl⟩⟩; refine ⟨_, rfl, ?_⟩))
        go_ret
        exact ⟨by first | rfl | (simp [errW_none, errW_some] <;> rfl) | (simp [*, errW_none, errW_some] <;> rfl), by repeat (first | (with_reducible first | exact HB.out | apply below_alloc | apply pw_below_drewN | apply below_drew1 | refine below_set ?_ GE244.out) | exact HB.out)⟩
    · rw [if_neg c6] at H
      exact absurd H (by simp)
  · rw [if_neg c5] at H
    exact absurd H (by simp)

end Go.Proofs.Ytepflpmngegdiaa.H
end
section
namespace Go.Proofs.Ytepflpmngegdiaa.H
open Go.RowKit Go.Proofs.YtepflpmngegdiaaW.PrintWords Go.Proofs.YtepflpmngegdiaaW.PrintLast Go.Proofs.YtepflpmngegdiaaW.PrintMore
set_option linter.unusedVariables false
set_option linter.unusedSimpArgs false

def changeforgeref6_EventsFault.l0 : Nat → Int → Int → List (S44) → Int → Option (Int × Int)
  | 0, _, _, _, _ => none
  | k + 1, x0, x1, x3, x10 => if x10 < (x3.length : Int) then ((changeforgeref6_eventCode.f k x0 x1 x3 x10).bind fun t266 => (if t266 = 0 then (changeforgeref6_EventsFault.l0 k x0 x1 x3 (wrap64 (x10 + 1))) else ((changeforgeref6_fault.f t266 x10).bind fun bt267 => (some (bt267.1, bt267.2))))) else (some (0, 0))
def changeforgeref6_EventsFault.f (k : Nat) (a0 : Int) (a1 : Int) (a2 : Int) (l3 : List (S44)) : Option (Int × Int) := (changeforgeref6_FarmFault.f a0 a1 a2).bind fun bt261 => (if bt261.1 = 0 then (if (l3.length : Int) > 40 then ((changeforgeref6_fault.f 2 (-1)).bind fun bt264 => (some (bt264.1, bt264.2))) else (changeforgeref6_EventsFault.l0 k a0 a1 l3 0)) else (some (bt261.1, bt261.2)))
theorem changeforgeref6_EventsFault.mono_l : ∀ k, (∀ y0 y1 y2 y3, LeO (changeforgeref6_EventsFault.l0 k y0 y1 y2 y3) (changeforgeref6_EventsFault.l0 (k + 1) y0 y1 y2 y3))
  | 0 => fun _ _ _ _ r h => by simp [changeforgeref6_EventsFault.l0] at h
  | k + 1 => by
    have ih0 := changeforgeref6_EventsFault.mono_l k
    · intro y0 y1 y2 y3
      unfold changeforgeref6_EventsFault.l0
      repeat' first
      | (with_reducible exact ih0 _ _ _ _)
      | (with_reducible exact changeforgeref6_eventCode.mono _ _ _ _ _)
      | (with_reducible exact LeO.refl _)
      | (with_reducible exact LeO.none _)
      | (with_reducible refine LeO.ite ?_ ?_)
      | (with_reducible refine LeO.bind ?_ (fun _ => ?_))
      | exact ih0 _ _ _ _
      | exact changeforgeref6_eventCode.mono _ _ _ _ _
      | exact LeO.none _
      | refine LeO.ite ?_ ?_
      | refine LeO.bind ?_ (fun _ => ?_)
theorem changeforgeref6_EventsFault.mono : ∀ a0 a1 a2 a3 k, LeO (changeforgeref6_EventsFault.f k a0 a1 a2 a3) (changeforgeref6_EventsFault.f (k + 1) a0 a1 a2 a3) := by
  intro a0 a1 a2 a3 k
  have ih0 := changeforgeref6_EventsFault.mono_l k
  unfold changeforgeref6_EventsFault.f
  repeat' first
      | (with_reducible exact ih0 _ _ _ _)
      | (with_reducible exact changeforgeref6_eventCode.mono _ _ _ _ _)
      | (with_reducible exact LeO.refl _)
      | (with_reducible exact LeO.none _)
      | (with_reducible refine LeO.ite ?_ ?_)
      | (with_reducible refine LeO.bind ?_ (fun _ => ?_))
      | exact ih0 _ _ _ _
      | exact changeforgeref6_eventCode.mono _ _ _ _ _
      | exact LeO.none _
      | refine LeO.ite ?_ ?_
      | refine LeO.bind ?_ (fun _ => ?_)
set_option maxHeartbeats 8000000 in
set_option maxRecDepth 100000 in
theorem changeforgeref6_EventsFault.calls (k : Nat) (a0 : Int) (a1 : Int) (a2 : Int) (A3 : Option Addr) (c3 : Nat) (l3 : List (S44)) (r1 : Int) (r2 : Int) (w : World) (hr3 : Kd.C k44 w A3 l3.length l3) (hc3 : l3.length ≤ c3) (h : changeforgeref6_EventsFault.f k a0 a1 a2 l3 = some (r1, r2)) :
    Calls Try.prog 10 #[.int .i64 a0, .int .i64 a1, .int .i64 a2, .slice A3 l3.length c3] w fun e w' => e = .returned (.agg #[.int .i64 r1, .int .i64 r2]) ∧ Below w.heap.size w w' := by
  have hu25 := Try.underlying25
  have HR3 := Aside0.mk hr3
  have HC3 := Aside0.mk hc3
  clear hr3 hc3
  have HB := Aside0.mk (Below.refl w.heap.size w)
  have H : ((changeforgeref6_FarmFault.f a0 a1 a2).bind fun bt261 => (if bt261.1 = 0 then (if (l3.length : Int) > 40 then ((changeforgeref6_fault.f 2 (-1)).bind fun bt264 => (some (bt264.1, bt264.2))) else (changeforgeref6_EventsFault.l0 k a0 a1 l3 0)) else (some (bt261.1, bt261.2)))) = some (r1, r2) := h
  clear h
  replace H := Option.bind_eq_some_iff.mp H
  obtain ⟨⟨t261, t262⟩, A50, H⟩ := H
  replace H : (if t261 = 0 then (if (l3.length : Int) > 40 then ((changeforgeref6_fault.f 2 (-1)).bind fun bt264 => (some (bt264.1, bt264.2))) else (changeforgeref6_EventsFault.l0 k a0 a1 l3 0)) else (some (t261, t262))) = some (r1, r2) := H
  have A5 := Aside0.mk A50
  clear A50
  by_cases c6 : t261 = 0
  · rw [if_pos c6] at H
    have c6b0 : (t261 == 0) = true := beq_iff_eq.mpr c6
    have c6b1 : (t261 != 0) = false := bne_eq_false_iff_eq.mpr c6
    clear c6
    by_cases c7 : (l3.length : Int) > 40
    · rw [if_pos c7] at H
      have c7b0 : decide (40 < (l3.length : Int)) = true := decide_eq_true c7
      have c7b1 : decide (40 < l3.length) = true := decide_eq_true (by omega)
      clear c7
      replace H := Option.bind_eq_some_iff.mp H
      obtain ⟨⟨t264, t265⟩, A80, H⟩ := H
      replace H : (some (t264, t265)) = some (r1, r2) := H
      have A8 := Aside0.mk A80
      clear A80
      simp only [Option.some.injEq, Prod.mk.injEq] at H
      obtain ⟨rfl, rfl⟩ := H
      go_enter Try.func10, Try.ntmps10
      go_wp2_with (first | ((with_reducible refine gate_dst (N := 8) rfl ?_); refine box_event ?hg (N := 8) ?hd (cs := #[.int .i64 0, .int .i64 0]) (t := 25) ?hr ?_; (case hd => rfl); (case hg => rfl); (case hr => first | (go_simp; done) | (go_simp; rfl)); intro gb260 hg w9 hbox hb; have n0_ := Aside0.mk (below_step (by repeat (first | (with_reducible first | exact HB.out | apply below_alloc | apply pw_below_drewN | apply below_drew1) | exact HB.out)) hb); have n1_ := Aside0.mk (hbox); have n2_ := Aside0.mk ((by rw [hg]; exact (below_size (by repeat (first | (with_reducible first | exact HB.out | apply below_alloc | apply pw_below_drewN | apply below_drew1) | exact HB.out))) : w.heap.size ≤ gb260)); have n3_ := Aside0.mk ((by rw [hg]; exact (below_size (by repeat (first | (with_reducible first | exact HB.out | apply below_alloc | apply pw_below_drewN | apply below_drew1) | exact HB.out))) : w.heap.size ≤ gb260)); clear HB; have HB := n0_; have BK260 := n1_; have GW260 := n2_; have GE260 := n3_; clear n0_ n1_ n2_ n3_; clear hb hbox hg) | ((with_reducible refine gate_callee (f := 23) rfl ?_); refine goesL_ (some 15) rfl rfl Try.func23 (by kernel_rfl) rfl #[.int .i64 a0, .int .i64 a1, .int .i64 a2] rfl (by (try simp only [List.map_toArray, List.map_cons, List.map_nil]); first | done | rfl | (simp only [List.length_drop, List.length_take]; rfl)) ?_; (with_reducible refine (changeforgeref6_FarmFault.calls a0 a1 a2 t261 t262 _ A5.out).mono ?_); rintro e w10 ⟨rfl, hb⟩; refine ⟨_, rfl, ?_⟩; have n0_ := Aside0.mk (blk_below (g := gb260) (o := .cells #[.int .i64 0, .int .i64 0] 25 (0, 0)) (by (with_reducible repeat (first | refine blk_drewN ?_ _ | refine blk_drew ?_ | refine blk_alloc ?_ _)); exact BK260.out) hb); have n1_ := Aside0.mk (below_step (by repeat (first | (with_reducible first | exact HB.out | apply below_alloc | apply pw_below_drewN | apply below_drew1 | refine below_set ?_ GE260.out) | exact HB.out)) hb); clear BK260; clear HB; have BK260 := n0_; have HB := n1_; clear n0_ n1_; (try clear hb); (try clear hb2); (try clear hk); (try clear hi)) | ((with_reducible refine gate_dst (N := 9) rfl ?_); refine box_event ?hg (N := 9) ?hd (cs := #[.int .i64 0, .int .i64 0]) (t := 25) ?hr ?_; (case hd => rfl); (case hg => rfl); (case hr => first | (go_simp; done) | (go_simp; rfl)); intro gb263 hg w11 hbox hb; have n0_ := Aside0.mk (blk_below (g := gb260) (o := .cells #[.int .i64 0, .int .i64 0] 25 (0, 0)) (by (with_reducible repeat (first | refine blk_drewN ?_ _ | refine blk_drew ?_ | refine blk_alloc ?_ _)); exact BK260.out) hb); have n1_ := Aside0.mk (below_step (by repeat (first | (with_reducible first | exact HB.out | apply below_alloc | apply pw_below_drewN | apply below_drew1 | refine below_set ?_ GE260.out) | exact HB.out)) hb); have n2_ := Aside0.mk (hbox); have n3_ := Aside0.mk ((by rw [hg]; exact (below_size (by repeat (first | (with_reducible first | exact HB.out | apply below_alloc | apply pw_below_drewN | apply below_drew1 | refine below_set ?_ GE260.out) | exact HB.out))) : w.heap.size ≤ gb263)); have n4_ := Aside0.mk ((by rw [hg]; exact (below_size (by repeat (first | (with_reducible first | exact HB.out | apply below_alloc | apply pw_below_drewN | apply below_drew1 | refine below_set ?_ GE260.out) | exact HB.out))) : w.heap.size ≤ gb263)); have n5_ := Aside0.mk ((by rw [hg]; exact Nat.ne_of_lt (blk_lt (g := gb260) (o := .cells #[.int .i64 0, .int .i64 0] 25 (0, 0)) (by (with_reducible repeat (first | refine blk_drewN ?_ _ | refine blk_drew ?_ | refine blk_alloc ?_ _)); exact BK260.out)) : gb260 ≠ gb263)); have n6_ := Aside0.mk ((by rw [hg]; exact Nat.ne_of_gt (blk_lt (g := gb260) (o := .cells #[.int .i64 0, .int .i64 0] 25 (0, 0)) (by (with_reducible repeat (first | refine blk_drewN ?_ _ | refine blk_drew ?_ | refine blk_alloc ?_ _)); exact BK260.out)) : gb263 ≠ gb260)); clear BK260; clear HB; have BK260 := n0_; have HB := n1_; have BK263 := n2_; have GW263 := n3_; have GE263 := n4_; have NB260_263 := n5_; have NB263_260 := n6_; clear n0_ n1_ n2_ n3_ n4_ n5_ n6_; clear hb hbox hg; have hnb12 := NB263_260.out; have hnc12 := NB260_263.out; have hcz13_0 : w11.cell? ⟨gb263, 0, none⟩ = some (.int .i64 0) := (blk_cell BK263.out 0).trans rfl; have hcz13_1 : w11.cell? ⟨gb263, 1, none⟩ = some (.int .i64 0) := (blk_cell BK263.out 1).trans rfl; have hfz13_0 := blk_frozen BK263.out 0; have hfz13_1 := blk_frozen BK263.out 1) | ((with_reducible refine gate_callee (f := 24) rfl ?_); refine goesL_ (some 23) rfl rfl Try.func24 (by kernel_rfl) rfl #[.int .i64 2, .int .i64 (-1)] rfl (by (try simp only [List.map_toArray, List.map_cons, List.map_nil]); first | done | rfl | (simp only [List.length_drop, List.length_take]; rfl)) ?_; (with_reducible refine (changeforgeref6_fault.calls 2 (-1) t264 t265 _ A8.out).mono ?_); rintro e w14 ⟨rfl, hb⟩; refine ⟨_, rfl, ?_⟩; have n0_ := Aside0.mk (blk_below (g := gb260) (o := .cells #[.int .i64 0, .int .i64 0] 25 (0, 0)) (by (with_reducible repeat (first | refine blk_drewN ?_ _ | refine blk_drew ?_ | refine blk_alloc ?_ _)); refine blk_far ?_ NB260_263.out _; (with_reducible repeat (first | refine blk_drewN ?_ _ | refine blk_drew ?_ | refine blk_alloc ?_ _)); refine blk_far ?_ NB260_263.out _; (with_reducible repeat (first | refine blk_drewN ?_ _ | refine blk_drew ?_ | refine blk_alloc ?_ _)); exact BK260.out) hb); have n1_ := Aside0.mk (blk_below (g := gb263) (o := .cells #[.int .i64 t261, .int .i64 t262] 25 (0, 0)) (by (with_reducible repeat (first | refine blk_drewN ?_ _ | refine blk_drew ?_ | refine blk_alloc ?_ _)); refine blk_put (cs := #[.int .i64 t261, .int .i64 0]) ?_ 1 _ rfl; (with_reducible repeat (first | refine blk_drewN ?_ _ | refine blk_drew ?_ | refine blk_alloc ?_ _)); refine blk_put (cs := #[.int .i64 0, .int .i64 0]) ?_ 0 _ rfl; (with_reducible repeat (first | refine blk_drewN ?_ _ | refine blk_drew ?_ | refine blk_alloc ?_ _)); exact BK263.out) hb); have n2_ := Aside0.mk (below_step (by repeat (first | (with_reducible first | exact HB.out | apply below_alloc | apply pw_below_drewN | apply below_drew1 | refine below_set ?_ GE260.out | refine below_set ?_ GE263.out) | exact HB.out)) hb); clear BK260; clear BK263; clear HB; have BK260 := n0_; have BK263 := n1_; have HB := n2_; clear n0_ n1_ n2_; (try clear hb); (try clear hb2); (try clear hk); (try clear hi); have hcz15_0 : w14.cell? ⟨gb260, 0, none⟩ = some (.int .i64 0) := (blk_cell BK260.out 0).trans rfl; have hcz15_1 : w14.cell? ⟨gb260, 1, none⟩ = some (.int .i64 0) := (blk_cell BK260.out 1).trans rfl; have hfz15_0 := blk_frozen BK260.out 0; have hfz15_1 := blk_frozen BK260.out 1))
      refine bodyPost_ret (results_cell_row rfl _ _ gb260 25 #[.int .i64 t264, .int .i64 t265] (0, 0) _ rfl (by (with_reducible repeat (first | refine blk_drewN ?_ _ | refine blk_drew ?_ | refine blk_alloc ?_ _)); refine blk_put (cs := #[.int .i64 t264, .int .i64 0]) ?_ 1 _ rfl; (with_reducible repeat (first | refine blk_drewN ?_ _ | refine blk_drew ?_ | refine blk_alloc ?_ _)); refine blk_put (cs := #[.int .i64 0, .int .i64 0]) ?_ 0 _ rfl; (with_reducible repeat (first | refine blk_drewN ?_ _ | refine blk_drew ?_ | refine blk_alloc ?_ _)); exact BK260.out) Try.underlying25 rfl (by kernel_rfl)) rfl ?_
      exact ⟨by first | rfl | (simp [errW_none, errW_some] <;> rfl) | (simp [*, errW_none, errW_some] <;> rfl), by repeat (first | (with_reducible first | exact HB.out | apply below_alloc | apply pw_below_drewN | apply below_drew1 | refine below_set ?_ GE260.out | refine below_set ?_ GE263.out) | exact HB.out)⟩
    · rw [if_neg c7] at H
      have c7b0 : decide (40 < (l3.length : Int)) = false := decide_eq_false c7
      have c7b1 : decide (40 < l3.length) = false := decide_eq_false (by omega)
      clear c7
      have H' := Aside0.mk H
      clear H
      go_enter Try.func10, Try.ntmps10
      go_wp2_with (first | ((with_reducible refine gate_dst (N := 8) rfl ?_); refine box_event ?hg (N := 8) ?hd (cs := #[.int .i64 0, .int .i64 0]) (t := 25) ?hr ?_; (case hd => rfl); (case hg => rfl); (case hr => first | (go_simp; done) | (go_simp; rfl)); intro gb260 hg w16 hbox hb; have n0_ := Aside0.mk (below_step (by repeat (first | (with_reducible first | exact HB.out | apply below_alloc | apply pw_below_drewN | apply below_drew1) | exact HB.out)) hb); have n1_ := Aside0.mk (hbox); have n2_ := Aside0.mk ((by rw [hg]; exact (below_size (by repeat (first | (with_reducible first | exact HB.out | apply below_alloc | apply pw_below_drewN | apply below_drew1) | exact HB.out))) : w.heap.size ≤ gb260)); have n3_ := Aside0.mk ((by rw [hg]; exact (below_size (by repeat (first | (with_reducible first | exact HB.out | apply below_alloc | apply pw_below_drewN | apply below_drew1) | exact HB.out))) : w.heap.size ≤ gb260)); clear HB; have HB := n0_; have BK260 := n1_; have GW260 := n2_; have GE260 := n3_; clear n0_ n1_ n2_ n3_; clear hb hbox hg) | ((with_reducible refine gate_callee (f := 23) rfl ?_); refine goesL_ (some 15) rfl rfl Try.func23 (by kernel_rfl) rfl #[.int .i64 a0, .int .i64 a1, .int .i64 a2] rfl (by (try simp only [List.map_toArray, List.map_cons, List.map_nil]); first | done | rfl | (simp only [List.length_drop, List.length_take]; rfl)) ?_; (with_reducible refine (changeforgeref6_FarmFault.calls a0 a1 a2 t261 t262 _ A5.out).mono ?_); rintro e w17 ⟨rfl, hb⟩; refine ⟨_, rfl, ?_⟩; have n0_ := Aside0.mk (blk_below (g := gb260) (o := .cells #[.int .i64 0, .int .i64 0] 25 (0, 0)) (by (with_reducible repeat (first | refine blk_drewN ?_ _ | refine blk_drew ?_ | refine blk_alloc ?_ _)); exact BK260.out) hb); have n1_ := Aside0.mk (below_step (by repeat (first | (with_reducible first | exact HB.out | apply below_alloc | apply pw_below_drewN | apply below_drew1 | refine below_set ?_ GE260.out) | exact HB.out)) hb); clear BK260; clear HB; have BK260 := n0_; have HB := n1_; clear n0_ n1_; (try clear hb); (try clear hb2); (try clear hk); (try clear hi)) | ((with_reducible refine gate_dst (N := 9) rfl ?_); refine box_event ?hg (N := 9) ?hd (cs := #[.int .i64 0, .int .i64 0]) (t := 25) ?hr ?_; (case hd => rfl); (case hg => rfl); (case hr => first | (go_simp; done) | (go_simp; rfl)); intro gb263 hg w18 hbox hb; have n0_ := Aside0.mk (blk_below (g := gb260) (o := .cells #[.int .i64 0, .int .i64 0] 25 (0, 0)) (by (with_reducible repeat (first | refine blk_drewN ?_ _ | refine blk_drew ?_ | refine blk_alloc ?_ _)); exact BK260.out) hb); have n1_ := Aside0.mk (below_step (by repeat (first | (with_reducible first | exact HB.out | apply below_alloc | apply pw_below_drewN | apply below_drew1 | refine below_set ?_ GE260.out) | exact HB.out)) hb); have n2_ := Aside0.mk (hbox); have n3_ := Aside0.mk ((by rw [hg]; exact (below_size (by repeat (first | (with_reducible first | exact HB.out | apply below_alloc | apply pw_below_drewN | apply below_drew1 | refine below_set ?_ GE260.out) | exact HB.out))) : w.heap.size ≤ gb263)); have n4_ := Aside0.mk ((by rw [hg]; exact (below_size (by repeat (first | (with_reducible first | exact HB.out | apply below_alloc | apply pw_below_drewN | apply below_drew1 | refine below_set ?_ GE260.out) | exact HB.out))) : w.heap.size ≤ gb263)); have n5_ := Aside0.mk ((by rw [hg]; exact Nat.ne_of_lt (blk_lt (g := gb260) (o := .cells #[.int .i64 0, .int .i64 0] 25 (0, 0)) (by (with_reducible repeat (first | refine blk_drewN ?_ _ | refine blk_drew ?_ | refine blk_alloc ?_ _)); exact BK260.out)) : gb260 ≠ gb263)); have n6_ := Aside0.mk ((by rw [hg]; exact Nat.ne_of_gt (blk_lt (g := gb260) (o := .cells #[.int .i64 0, .int .i64 0] 25 (0, 0)) (by (with_reducible repeat (first | refine blk_drewN ?_ _ | refine blk_drew ?_ | refine blk_alloc ?_ _)); exact BK260.out)) : gb263 ≠ gb260)); clear BK260; clear HB; have BK260 := n0_; have HB := n1_; have BK263 := n2_; have GW263 := n3_; have GE263 := n4_; have NB260_263 := n5_; have NB263_260 := n6_; clear n0_ n1_ n2_ n3_ n4_ n5_ n6_; clear hb hbox hg; have hnb19 := NB263_260.out; have hnc19 := NB260_263.out; have hcz20_0 : w18.cell? ⟨gb263, 0, none⟩ = some (.int .i64 0) := (blk_cell BK263.out 0).trans rfl; have hcz20_1 : w18.cell? ⟨gb263, 1, none⟩ = some (.int .i64 0) := (blk_cell BK263.out 1).trans rfl; have hfz20_0 := blk_frozen BK263.out 0; have hfz20_1 := blk_frozen BK263.out 1))
      go_loopg [10] k (fun kq v10 w' => ∃ (x10_1 : Int) (x261000_1 : Int) (x261001_1 : Int), v10 = .int .i64 x10_1 ∧ Aside0 (changeforgeref6_EventsFault.l0 kq a0 a1 l3 x10_1 = some (r1, r2)) ∧ Aside0 (kq ≤ k) ∧ Aside0 (w'.heap[gb260]? = some (.cells #[.int .i64 x261000_1, .int .i64 x261001_1] 25 (0, 0))) ∧ Aside0 (w'.heap[gb263]? = some (.cells #[.int .i64 t261, .int .i64 t262] 25 (0, 0))) ∧ Aside0 (Below w.heap.size w w'))
      case atStart => exact ⟨(0), (0), (0), (by first | rfl | (simp; done) | (simp [*]; done)), H', ⟨Nat.le_refl _⟩, ⟨by (with_reducible repeat (first | refine blk_drewN ?_ _ | refine blk_drew ?_ | refine blk_alloc ?_ _)); refine blk_far ?_ NB260_263.out _; (with_reducible repeat (first | refine blk_drewN ?_ _ | refine blk_drew ?_ | refine blk_alloc ?_ _)); refine blk_far ?_ NB260_263.out _; (with_reducible repeat (first | refine blk_drewN ?_ _ | refine blk_drew ?_ | refine blk_alloc ?_ _)); exact BK260.out⟩, ⟨by (with_reducible repeat (first | refine blk_drewN ?_ _ | refine blk_drew ?_ | refine blk_alloc ?_ _)); refine blk_put (cs := #[.int .i64 t261, .int .i64 0]) ?_ 1 _ rfl; (with_reducible repeat (first | refine blk_drewN ?_ _ | refine blk_drew ?_ | refine blk_alloc ?_ _)); refine blk_put (cs := #[.int .i64 0, .int .i64 0]) ?_ 0 _ rfl; (with_reducible repeat (first | refine blk_drewN ?_ _ | refine blk_drew ?_ | refine blk_alloc ?_ _)); exact BK263.out⟩, ⟨by repeat (first | (with_reducible first | exact HB.out | apply below_alloc | apply pw_below_drewN | apply below_drew1 | refine below_set ?_ GE260.out | refine below_set ?_ GE263.out) | exact HB.out)⟩⟩
      case round =>
        clear H'
        try clear c1
        try clear c2
        try clear p2
        try clear c3
        try clear c6
        try clear c6b0
        try clear c6b1
        try clear c7
        try clear c7b0
        try clear c7b1
        try clear c10
        try clear c12
        try clear c19
        try clear hcz13_0
        try clear hcz13_1
        try clear hcz15_0
        try clear hcz15_1
        try clear hcz20_0
        try clear hcz20_1
        try clear hfz13_0
        try clear hfz13_1
        try clear hfz15_0
        try clear hfz15_1
        try clear hfz20_0
        try clear hfz20_1
        obtain ⟨x10_1, x261000_1, x261001_1, rfl, HA, HK1, BK260, BK263, HB⟩ := hrel
        cases gk with
        | zero => exact absurd HA.out (by simp [changeforgeref6_EventsFault.l0])
        | succ k1 =>
          have H := HA.out
          clear HA
          simp only [changeforgeref6_EventsFault.l0] at H
          by_cases c21 : x10_1 < (l3.length : Int)
          · rw [if_pos c21] at H
            have c21b0 : decide (x10_1 < (l3.length : Int)) = true := decide_eq_true c21
            clear c21
            replace H := Option.bind_eq_some_iff.mp H
            obtain ⟨t266, A220, H⟩ := H
            replace H : (if t266 = 0 then (changeforgeref6_EventsFault.l0 k1 a0 a1 l3 (wrap64 (x10_1 + 1))) else ((changeforgeref6_fault.f t266 x10_1).bind fun bt267 => (some (bt267.1, bt267.2)))) = some (r1, r2) := H
            have A22 := Aside0.mk A220
            clear A220
            by_cases c23 : t266 = 0
            · rw [if_pos c23] at H
              have c23b0 : (t266 == 0) = true := beq_iff_eq.mpr c23
              have c23b1 : (t266 != 0) = false := bne_eq_false_iff_eq.mpr c23
              clear c23
              have H' := Aside0.mk H
              clear H
              go_wp2_with (first | ((with_reducible refine gate_callee (f := 25) rfl ?_); refine goesL_ (some 34) rfl rfl Try.func25 (by kernel_rfl) rfl #[.int .i64 a0, .int .i64 a1, .slice A3 l3.length c3, .int .i64 x10_1] rfl (by (try simp only [List.map_toArray, List.map_cons, List.map_nil]); first | done | rfl | (simp only [List.length_drop, List.length_take]; rfl)) ?_; (with_reducible refine (changeforgeref6_eventCode.calls k1 a0 a1 _ _ l3 x10_1 t266 _ ?side1 ?side2 A22.out).mono ?_); (case side1 => repeat (first | exact (Kd.C_below HR3.out HB.out) | (with_reducible refine Kd.C_alloc ?_ _) | (with_reducible refine Kd.C_drewN ?_ _) | (with_reducible refine Kd.C_drew ?_))); (case side2 => exact HC3.out); rintro e w24 ⟨rfl, hb⟩; refine ⟨_, rfl, ?_⟩; have n0_ := Aside0.mk (blk_below (g := gb260) (o := .cells #[.int .i64 x261000_1, .int .i64 x261001_1] 25 (0, 0)) (by (with_reducible repeat (first | refine blk_drewN ?_ _ | refine blk_drew ?_ | refine blk_alloc ?_ _)); exact BK260.out) hb); have n1_ := Aside0.mk (blk_below (g := gb263) (o := .cells #[.int .i64 t261, .int .i64 t262] 25 (0, 0)) (by (with_reducible repeat (first | refine blk_drewN ?_ _ | refine blk_drew ?_ | refine blk_alloc ?_ _)); exact BK263.out) hb); have n2_ := Aside0.mk (below_step (by repeat (first | (with_reducible first | exact HB.out | apply below_alloc | apply pw_below_drewN | apply below_drew1 | refine below_set ?_ GE260.out | refine below_set ?_ GE263.out) | exact HB.out)) hb); clear BK260; clear BK263; clear HB; have BK260 := n0_; have BK263 := n1_; have HB := n2_; clear n0_ n1_ n2_; (try clear hb); (try clear hb2); (try clear hk); (try clear hi)))
              go_roundg k1
              case measure => have := HK1.out; omega
              case rel => exact ⟨(wrap64 (x10_1 + 1)), (x261000_1), (x261001_1), (by first | rfl | (simp; done) | (simp [*]; done)), H', ⟨by have := HK1.out; omega⟩, ⟨by (with_reducible repeat (first | refine blk_drewN ?_ _ | refine blk_drew ?_ | refine blk_alloc ?_ _)); exact BK260.out⟩, ⟨by (with_reducible repeat (first | refine blk_drewN ?_ _ | refine blk_drew ?_ | refine blk_alloc ?_ _)); exact BK263.out⟩, ⟨by repeat (first | (with_reducible first | exact HB.out | apply below_alloc | apply pw_below_drewN | apply below_drew1 | refine below_set ?_ GE260.out | refine below_set ?_ GE263.out) | exact HB.out)⟩⟩
            · rw [if_neg c23] at H
              have c23b0 : (t266 == 0) = false := beq_eq_false_iff_ne.mpr c23
              have c23b1 : (t266 != 0) = true := bne_iff_ne.mpr c23
              replace H := Option.bind_eq_some_iff.mp H
              obtain ⟨⟨t267, t268⟩, A250, H⟩ := H
              replace H : (some (t267, t268)) = some (r1, r2) := H
              have A25 := Aside0.mk A250
              clear A250
              simp only [Option.some.injEq, Prod.mk.injEq] at H
              obtain ⟨rfl, rfl⟩ := H
              go_wp2_with (first | ((with_reducible refine gate_callee (f := 25) rfl ?_); refine goesL_ (some 34) rfl rfl Try.func25 (by kernel_rfl) rfl #[.int .i64 a0, .int .i64 a1, .slice A3 l3.length c3, .int .i64 x10_1] rfl (by (try simp only [List.map_toArray, List.map_cons, List.map_nil]); first | done | rfl | (simp only [List.length_drop, List.length_take]; rfl)) ?_; (with_reducible refine (changeforgeref6_eventCode.calls k1 a0 a1 _ _ l3 x10_1 t266 _ ?side1 ?side2 A22.out).mono ?_); (case side1 => repeat (first | exact (Kd.C_below HR3.out HB.out) | (with_reducible refine Kd.C_alloc ?_ _) | (with_reducible refine Kd.C_drewN ?_ _) | (with_reducible refine Kd.C_drew ?_))); (case side2 => exact HC3.out); rintro e w26 ⟨rfl, hb⟩; refine ⟨_, rfl, ?_⟩; have n0_ := Aside0.mk (blk_below (g := gb260) (o := .cells #[.int .i64 x261000_1, .int .i64 x261001_1] 25 (0, 0)) (by (with_reducible repeat (first | refine blk_drewN ?_ _ | refine blk_drew ?_ | refine blk_alloc ?_ _)); exact BK260.out) hb); have n1_ := Aside0.mk (blk_below (g := gb263) (o := .cells #[.int .i64 t261, .int .i64 t262] 25 (0, 0)) (by (with_reducible repeat (first | refine blk_drewN ?_ _ | refine blk_drew ?_ | refine blk_alloc ?_ _)); exact BK263.out) hb); have n2_ := Aside0.mk (below_step (by repeat (first | (with_reducible first | exact HB.out | apply below_alloc | apply pw_below_drewN | apply below_drew1 | refine below_set ?_ GE260.out | refine below_set ?_ GE263.out) | exact HB.out)) hb); clear BK260; clear BK263; clear HB; have BK260 := n0_; have BK263 := n1_; have HB := n2_; clear n0_ n1_ n2_; (try clear hb); (try clear hb2); (try clear hk); (try clear hi)) | ((with_reducible refine gate_callee (f := 24) rfl ?_); refine goesL_ (some 39) rfl rfl Try.func24 (by kernel_rfl) rfl #[.int .i64 t266, .int .i64 x10_1] rfl (by (try simp only [List.map_toArray, List.map_cons, List.map_nil]); first | done | rfl | (simp only [List.length_drop, List.length_take]; rfl)) ?_; (with_reducible refine (changeforgeref6_fault.calls t266 x10_1 t267 t268 _ A25.out).mono ?_); rintro e w27 ⟨rfl, hb⟩; refine ⟨_, rfl, ?_⟩; have n0_ := Aside0.mk (blk_below (g := gb260) (o := .cells #[.int .i64 x261000_1, .int .i64 x261001_1] 25 (0, 0)) (by (with_reducible repeat (first | refine blk_drewN ?_ _ | refine blk_drew ?_ | refine blk_alloc ?_ _)); exact BK260.out) hb); have n1_ := Aside0.mk (blk_below (g := gb263) (o := .cells #[.int .i64 t261, .int .i64 t262] 25 (0, 0)) (by (with_reducible repeat (first | refine blk_drewN ?_ _ | refine blk_drew ?_ | refine blk_alloc ?_ _)); exact BK263.out) hb); have n2_ := Aside0.mk (below_step (by repeat (first | (with_reducible first | exact HB.out | apply below_alloc | apply pw_below_drewN | apply below_drew1 | refine below_set ?_ GE260.out | refine below_set ?_ GE263.out) | exact HB.out)) hb); clear BK260; clear BK263; clear HB; have BK260 := n0_; have BK263 := n1_; have HB := n2_; clear n0_ n1_ n2_; (try clear hb); (try clear hb2); (try clear hk); (try clear hi); have hnb28 := NB260_263.out; have hnc28 := NB263_260.out; have hcz29_0 : w27.cell? ⟨gb260, 0, none⟩ = some (.int .i64 x261000_1) := (blk_cell BK260.out 0).trans rfl; have hcz29_1 : w27.cell? ⟨gb260, 1, none⟩ = some (.int .i64 x261001_1) := (blk_cell BK260.out 1).trans rfl; have hfz29_0 := blk_frozen BK260.out 0; have hfz29_1 := blk_frozen BK260.out 1))
              refine bodyPost_ret (results_cell_row rfl _ _ gb260 25 #[.int .i64 t267, .int .i64 t268] (0, 0) _ rfl (by (with_reducible repeat (first | refine blk_drewN ?_ _ | refine blk_drew ?_ | refine blk_alloc ?_ _)); refine blk_put (cs := #[.int .i64 t267, .int .i64 x261001_1]) ?_ 1 _ rfl; (with_reducible repeat (first | refine blk_drewN ?_ _ | refine blk_drew ?_ | refine blk_alloc ?_ _)); refine blk_put (cs := #[.int .i64 x261000_1, .int .i64 x261001_1]) ?_ 0 _ rfl; (with_reducible repeat (first | refine blk_drewN ?_ _ | refine blk_drew ?_ | refine blk_alloc ?_ _)); exact BK260.out) Try.underlying25 rfl (by kernel_rfl)) rfl ?_
              exact ⟨by first | rfl | (simp [errW_none, errW_some] <;> rfl) | (simp [*, errW_none, errW_some] <;> rfl), by repeat (first | (with_reducible first | exact HB.out | apply below_alloc | apply pw_below_drewN | apply below_drew1 | refine below_set ?_ GE260.out | refine below_set ?_ GE263.out) | exact HB.out)⟩
          · rw [if_neg c21] at H
            have c21b0 : decide (x10_1 < (l3.length : Int)) = false := decide_eq_false c21
            clear c21
            simp only [Option.some.injEq, Prod.mk.injEq] at H
            obtain ⟨rfl, rfl⟩ := H
            have hnb30 := NB260_263.out
            have hnc30 := NB263_260.out
            have hcz31_0 : wr.cell? ⟨gb260, 0, none⟩ = some (.int .i64 x261000_1) := (blk_cell BK260.out 0).trans rfl
            have hcz31_1 : wr.cell? ⟨gb260, 1, none⟩ = some (.int .i64 x261001_1) := (blk_cell BK260.out 1).trans rfl
            have hfz31_0 := blk_frozen BK260.out 0
            have hfz31_1 := blk_frozen BK260.out 1
            go_wp2
            refine bodyPost_ret (results_cell_row rfl _ _ gb260 25 #[.int .i64 0, .int .i64 0] (0, 0) _ rfl (by (with_reducible repeat (first | refine blk_drewN ?_ _ | refine blk_drew ?_ | refine blk_alloc ?_ _)); refine blk_put (cs := #[.int .i64 0, .int .i64 x261001_1]) ?_ 1 _ rfl; (with_reducible repeat (first | refine blk_drewN ?_ _ | refine blk_drew ?_ | refine blk_alloc ?_ _)); refine blk_put (cs := #[.int .i64 x261000_1, .int .i64 x261001_1]) ?_ 0 _ rfl; (with_reducible repeat (first | refine blk_drewN ?_ _ | refine blk_drew ?_ | refine blk_alloc ?_ _)); exact BK260.out) Try.underlying25 rfl (by kernel_rfl)) rfl ?_
            exact ⟨by first | rfl | (simp [errW_none, errW_some] <;> rfl) | (simp [*, errW_none, errW_some] <;> rfl), by repeat (first | (with_reducible first | exact HB.out | apply below_alloc | apply pw_below_drewN | apply below_drew1 | refine below_set ?_ GE260.out | refine below_set ?_ GE263.out) | exact HB.out)⟩
  · rw [if_neg c6] at H
    have c6b0 : (t261 == 0) = false := beq_eq_false_iff_ne.mpr c6
    have c6b1 : (t261 != 0) = true := bne_iff_ne.mpr c6
    simp only [Option.some.injEq, Prod.mk.injEq] at H
    obtain ⟨rfl, rfl⟩ := H
    go_enter Try.func10, Try.ntmps10
    go_wp2_with (first | ((with_reducible refine gate_dst (N := 8) rfl ?_); refine box_event ?hg (N := 8) ?hd (cs := #[.int .i64 0, .int .i64 0]) (t := 25) ?hr ?_; (case hd => rfl); (case hg => rfl); (case hr => first | (go_simp; done) | (go_simp; rfl)); intro gb260 hg w32 hbox hb; have n0_ := Aside0.mk (below_step (by repeat (first | (with_reducible first | exact HB.out | apply below_alloc | apply pw_below_drewN | apply below_drew1) | exact HB.out)) hb); have n1_ := Aside0.mk (hbox); have n2_ := Aside0.mk ((by rw [hg]; exact (below_size (by repeat (first | (with_reducible first | exact HB.out | apply below_alloc | apply pw_below_drewN | apply below_drew1) | exact HB.out))) : w.heap.size ≤ gb260)); have n3_ := Aside0.mk ((by rw [hg]; exact (below_size (by repeat (first | (with_reducible first | exact HB.out | apply below_alloc | apply pw_below_drewN | apply below_drew1) | exact HB.out))) : w.heap.size ≤ gb260)); clear HB; have HB := n0_; have BK260 := n1_; have GW260 := n2_; have GE260 := n3_; clear n0_ n1_ n2_ n3_; clear hb hbox hg) | ((with_reducible refine gate_callee (f := 23) rfl ?_); refine goesL_ (some 15) rfl rfl Try.func23 (by kernel_rfl) rfl #[.int .i64 a0, .int .i64 a1, .int .i64 a2] rfl (by (try simp only [List.map_toArray, List.map_cons, List.map_nil]); first | done | rfl | (simp only [List.length_drop, List.length_take]; rfl)) ?_; (with_reducible refine (changeforgeref6_FarmFault.calls a0 a1 a2 t261 t262 _ A5.out).mono ?_); rintro e w33 ⟨rfl, hb⟩; refine ⟨_, rfl, ?_⟩; have n0_ := Aside0.mk (blk_below (g := gb260) (o := .cells #[.int .i64 0, .int .i64 0] 25 (0, 0)) (by (with_reducible repeat (first | refine blk_drewN ?_ _ | refine blk_drew ?_ | refine blk_alloc ?_ _)); exact BK260.out) hb); have n1_ := Aside0.mk (below_step (by repeat (first | (with_reducible first | exact HB.out | apply below_alloc | apply pw_below_drewN | apply below_drew1 | refine below_set ?_ GE260.out) | exact HB.out)) hb); clear BK260; clear HB; have BK260 := n0_; have HB := n1_; clear n0_ n1_; (try clear hb); (try clear hb2); (try clear hk); (try clear hi)) | ((with_reducible refine gate_dst (N := 9) rfl ?_); refine box_event ?hg (N := 9) ?hd (cs := #[.int .i64 0, .int .i64 0]) (t := 25) ?hr ?_; (case hd => rfl); (case hg => rfl); (case hr => first | (go_simp; done) | (go_simp; rfl)); intro gb263 hg w34 hbox hb; have n0_ := Aside0.mk (blk_below (g := gb260) (o := .cells #[.int .i64 0, .int .i64 0] 25 (0, 0)) (by (with_reducible repeat (first | refine blk_drewN ?_ _ | refine blk_drew ?_ | refine blk_alloc ?_ _)); exact BK260.out) hb); have n1_ := Aside0.mk (below_step (by repeat (first | (with_reducible first | exact HB.out | apply below_alloc | apply pw_below_drewN | apply below_drew1 | refine below_set ?_ GE260.out) | exact HB.out)) hb); have n2_ := Aside0.mk (hbox); have n3_ := Aside0.mk ((by rw [hg]; exact (below_size (by repeat (first | (with_reducible first | exact HB.out | apply below_alloc | apply pw_below_drewN | apply below_drew1 | refine below_set ?_ GE260.out) | exact HB.out))) : w.heap.size ≤ gb263)); have n4_ := Aside0.mk ((by rw [hg]; exact (below_size (by repeat (first | (with_reducible first | exact HB.out | apply below_alloc | apply pw_below_drewN | apply below_drew1 | refine below_set ?_ GE260.out) | exact HB.out))) : w.heap.size ≤ gb263)); have n5_ := Aside0.mk ((by rw [hg]; exact Nat.ne_of_lt (blk_lt (g := gb260) (o := .cells #[.int .i64 0, .int .i64 0] 25 (0, 0)) (by (with_reducible repeat (first | refine blk_drewN ?_ _ | refine blk_drew ?_ | refine blk_alloc ?_ _)); exact BK260.out)) : gb260 ≠ gb263)); have n6_ := Aside0.mk ((by rw [hg]; exact Nat.ne_of_gt (blk_lt (g := gb260) (o := .cells #[.int .i64 0, .int .i64 0] 25 (0, 0)) (by (with_reducible repeat (first | refine blk_drewN ?_ _ | refine blk_drew ?_ | refine blk_alloc ?_ _)); exact BK260.out)) : gb263 ≠ gb260)); clear BK260; clear HB; have BK260 := n0_; have HB := n1_; have BK263 := n2_; have GW263 := n3_; have GE263 := n4_; have NB260_263 := n5_; have NB263_260 := n6_; clear n0_ n1_ n2_ n3_ n4_ n5_ n6_; clear hb hbox hg; have hnb35 := NB263_260.out; have hnc35 := NB260_263.out; have hcz36_0 : w34.cell? ⟨gb263, 0, none⟩ = some (.int .i64 0) := (blk_cell BK263.out 0).trans rfl; have hcz36_1 : w34.cell? ⟨gb263, 1, none⟩ = some (.int .i64 0) := (blk_cell BK263.out 1).trans rfl; have hfz36_0 := blk_frozen BK263.out 0; have hfz36_1 := blk_frozen BK263.out 1; have hcz37_0 : w34.cell? ⟨gb260, 0, none⟩ = some (.int .i64 0) := (blk_cell BK260.out 0).trans rfl; have hcz37_1 : w34.cell? ⟨gb260, 1, none⟩ = some (.int .i64 0) := (blk_cell BK260.out 1).trans rfl; have hfz37_0 := blk_frozen BK260.out 0; have hfz37_1 := blk_frozen BK260.out 1))
    refine bodyPost_ret (results_cell_row rfl _ _ gb260 25 #[.int .i64 t261, .int .i64 t262] (0, 0) _ rfl (by (with_reducible repeat (first | refine blk_drewN ?_ _ | refine blk_drew ?_ | refine blk_alloc ?_ _)); refine blk_put (cs := #[.int .i64 t261, .int .i64 0]) ?_ 1 _ rfl; (with_reducible repeat (first | refine blk_drewN ?_ _ | refine blk_drew ?_ | refine blk_alloc ?_ _)); refine blk_put (cs := #[.int .i64 0, .int .i64 0]) ?_ 0 _ rfl; (with_reducible repeat (first | refine blk_drewN ?_ _ | refine blk_drew ?_ | refine blk_alloc ?_ _)); refine blk_far ?_ NB260_263.out _; (with_reducible repeat (first | refine blk_drewN ?_ _ | refine blk_drew ?_ | refine blk_alloc ?_ _)); refine blk_far ?_ NB260_263.out _; (with_reducible repeat (first | refine blk_drewN ?_ _ | refine blk_drew ?_ | refine blk_alloc ?_ _)); exact BK260.out) Try.underlying25 rfl (by kernel_rfl)) rfl ?_
    exact ⟨by first | rfl | (simp [errW_none, errW_some] <;> rfl) | (simp [*, errW_none, errW_some] <;> rfl), by repeat (first | (with_reducible first | exact HB.out | apply below_alloc | apply pw_below_drewN | apply below_drew1 | refine below_set ?_ GE260.out | refine below_set ?_ GE263.out) | exact HB.out)⟩

end Go.Proofs.Ytepflpmngegdiaa.H
end
