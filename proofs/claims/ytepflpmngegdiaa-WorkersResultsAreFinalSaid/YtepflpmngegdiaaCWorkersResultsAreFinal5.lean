/- Texts that the law WorkersResultsAreFinal comes to, printed and by hand, what is not used left out. -/
import Derived.Test.YtepflpmngegdiaaCWorkersResultsAreFinal4
import Derived.RegionTactic
import Derived.ChangeAlike
section
namespace Go.Proofs.Ytepflpmngegdiaa.H
open Go.RowKit Go.Proofs.YtepflpmngegdiaaW.PrintWords Go.Proofs.YtepflpmngegdiaaW.PrintLast Go.Proofs.YtepflpmngegdiaaW.PrintMore
set_option linter.unusedVariables false
set_option linter.unusedSimpArgs false
open Go.RowKit
structure Farm.WF (F : Farm) (J N : Nat) : Prop where
  work : F.working.length = N
  reps : F.reports.length = J
  rows : ∀ r ∈ F.reports, r.length = N
  ress : F.results.length = J
  vals : ∀ v ∈ F.working, -2 ≤ v ∧ v < J
  n8 : N ≤ 8
  j12 : J ≤ 12
def Farm.event (F : Farm) (k wk jb vl : Int) : Farm × Int :=
  let c := formCode F.results.length F.working.length k wk jb vl
  if c ≠ 0 then (F, c) else
    if k = 1 then (if rd F.working wk ≠ -1 then (F, 11) else if 0 ≤ rd (F.reports.getD jb.toNat []) wk then (F, 7) else ({ F with working := F.working.set wk.toNat jb }, 0))
    else if k = 2 then (if rd F.working wk < 0 then (F, 11) else (F.report wk vl, 0))
    else if k = 3 then (if rd F.working wk = -2 then (F, 11) else ({ F with working := F.working.set wk.toNat (-2) }, 0))
    else (if rd F.working wk ≠ -2 then (F, 11) else ({ F with working := F.working.set wk.toNat (-1) }, 0))
theorem formCode_ok {J N k wk jb vl : Int} (h : formCode J N k wk jb vl = 0) : 1 ≤ k ∧ k ≤ 4 ∧ 0 ≤ wk ∧ wk < N ∧ (k = 1 → 0 ≤ jb ∧ jb < J ∧ vl = 0) ∧ (k ≠ 1 → jb = 0) ∧ (k = 2 → 0 ≤ vl ∧ vl ≤ 1000000000) ∧ (k ≠ 2 → vl = 0) := by
  unfold formCode at h
  by_cases c1 : k < 1 ∨ 4 < k
  · rw [if_pos c1] at h; omega
  rw [if_neg c1] at h
  by_cases c2 : wk < 0 ∨ N ≤ wk
  · rw [if_pos c2] at h; omega
  rw [if_neg c2] at h
  by_cases c3 : (k ≠ 1 ∧ jb ≠ 0) ∨ (k ≠ 2 ∧ vl ≠ 0)
  · rw [if_pos c3] at h; omega
  rw [if_neg c3] at h
  by_cases c4 : k = 1 ∧ (jb < 0 ∨ J ≤ jb)
  · rw [if_pos c4] at h; omega
  rw [if_neg c4] at h
  by_cases c5 : k = 2 ∧ (vl < 0 ∨ 1000000000 < vl)
  · rw [if_pos c5] at h; omega
  omega
theorem rd_mem {l : List Int} {i : Int} (h0 : 0 ≤ i) (h1 : i < l.length) : rd l i ∈ l := by
  unfold rd
  rw [List.getD_eq_getElem?_getD, List.getElem?_eq_getElem (show i.toNat < l.length by omega)]
  exact List.getElem_mem _
theorem FarmAt.drewN {w : World} {B g : Nat} {F : Farm} (h : FarmAt w B g F) (n : Nat) : FarmAt (w.drewN n) B g F := h.below (pw_below_drewN (Below.refl _ _) n)
theorem FarmAt.drew {w : World} {B g : Nat} {F : Farm} (h : FarmAt w B g F) : FarmAt w.drew B g F := h.below (below_drew (Below.refl _ _))
theorem below_more {B : Nat} {w w1 w2 : World} (h : Below B w w1) (hB : B ≤ w1.heap.size) (k : Below w1.heap.size w1 w2) : Below B w w2 := below_then h hB k
theorem FarmAt.lt {w : World} {B g : Nat} {F : Farm} (h : FarmAt w B g F) : B ≤ w.heap.size := by
  obtain ⟨vw, vp, vs, okw, okp, oks, d1, d2, d3, hg, hB, h1, h2, h3⟩ := h
  have := blk_lt hg
  omega
theorem below_drew1' {B : Nat} {w w1 : World} (h : Below B w w1) : Below B w w1.drew := below_drew h
set_option maxHeartbeats 8000000 in
theorem event_calls (F : Farm) (J N : Nat) (hW : F.WF J N) (k wk jb vl : Int) (w : World) (B g : Nat) (hF : FarmAt w B g F) :
    Calls Try.prog 30 #[.pointer (some ⟨g, 0, none⟩), .agg #[.int .i64 k, .int .i64 wk, .int .i64 jb, .int .i64 vl]] w
      fun e w' => e = .returned (.int .i64 (F.event k wk jb vl).2) ∧ FarmAt w' B g (F.event k wk jb vl).1 ∧ Below B w w' := by
  obtain ⟨G, hG⟩ : ∃ G, Aside0 (F.event k wk jb vl = G) := ⟨_, ⟨rfl⟩⟩
  rw [hG.out]
  have HF := Aside0.mk hF
  have HW := Aside0.mk hW
  clear hF hW
  go_enter Try.func30, Try.ntmps30
  go_upto_region 1 with (first | ((with_reducible refine gate_dst (N := 3) rfl ?_); refine box_event ?hg (N := 3) ?hd (cs := #[.int .i64 k, .int .i64 wk, .int .i64 jb, .int .i64 vl]) (t := 44) ?hr ?_; (case hd => rfl); (case hg => rfl); (case hr => first | (go_simp; done) | (go_simp; rfl)); intro gb hg w1 hbox hb; have hb1 := Aside0.mk hb; have hbx := Aside0.mk hbox; clear hb hbox hg))
  have HF1 := Aside0.mk (HF.out.below hb1.out)
  have z0 : w1.cell? ⟨gb, 0, none⟩ = some (.int .i64 k) := (blk_cell hbx.out 0).trans rfl
  have z1 : w1.cell? ⟨gb, 1, none⟩ = some (.int .i64 wk) := (blk_cell hbx.out 1).trans rfl
  have z2 : w1.cell? ⟨gb, 2, none⟩ = some (.int .i64 jb) := (blk_cell hbx.out 2).trans rfl
  have z3 : w1.cell? ⟨gb, 3, none⟩ = some (.int .i64 vl) := (blk_cell hbx.out 3).trans rfl
  obtain ⟨c, hc⟩ : ∃ c, Aside0 (formCode F.results.length F.working.length k wk jb vl = c) := ⟨_, ⟨rfl⟩⟩
  go_upto_region 2 with (first | (go_at_call 31; (with_reducible refine (form_calls F k wk jb vl _ B g HF1.out ?s1 ?s2).mono ?_); (case s1 => rw [HW.out.work]; exact HW.out.n8); (case s2 => rw [HW.out.ress]; exact HW.out.j12); rintro e w2 ⟨rfl, hb2⟩; have HB2 := Aside0.mk hb2; clear hb2))
  simp only [hc.out]
  have HF2 := Aside0.mk (HF1.out.below HB2.out)
  have hbx2 := Aside0.mk ((HB2.out.block gb (blk_lt hbx.out)).trans hbx.out)
  have HBB := Aside0.mk (below_more (hb1.out.mono HF.out.lt) (Nat.le_trans HF.out.lt hb1.out.size) HB2.out)
  clear z0 z1 z2 z3 HF1 hbx
  have z0 : w2.cell? ⟨gb, 0, none⟩ = some (.int .i64 k) := (blk_cell hbx2.out 0).trans rfl
  have z1 : w2.cell? ⟨gb, 1, none⟩ = some (.int .i64 wk) := (blk_cell hbx2.out 1).trans rfl
  have z2 : w2.cell? ⟨gb, 2, none⟩ = some (.int .i64 jb) := (blk_cell hbx2.out 2).trans rfl
  have z3 : w2.cell? ⟨gb, 3, none⟩ = some (.int .i64 vl) := (blk_cell hbx2.out 3).trans rfl
  by_cases hc0 : c = 0
  · subst hc0
    obtain ⟨k1, k2, wk0, wk1, hj, hj', hv, hv'⟩ := formCode_ok hc.out
    have HJ := Aside0.mk hj
    have HV := Aside0.mk hv
    have HV' := Aside0.mk hv'
    clear hj hj' hv hv'
    have hN8 : F.working.length ≤ 8 := by rw [HW.out.work]; exact HW.out.n8
    have hJ12 : F.reports.length ≤ 12 := by rw [HW.out.reps]; exact HW.out.j12
    obtain ⟨bw, cw, g1, q1, q2, hbw, back⟩ := HF2.out.work wk wk0 wk1
    have BK := Aside0.mk back
    clear back
    have hmem := HW.out.vals _ (rd_mem wk0 wk1)
    have HM := Aside0.mk hmem
    obtain ⟨now, hnow⟩ : ∃ now, Aside0 (rd F.working wk = now) := ⟨_, ⟨rfl⟩⟩
    rw [hnow.out] at q1 hmem
    obtain ⟨n1, n2⟩ := hmem
    by_cases p1 : k = 1
    · subst p1
      by_cases m1 : now = -1
      · obtain ⟨j0, j1, _⟩ := HJ.out rfl
        have j2 : jb < (F.reports.length : Int) := by rw [HW.out.reps]; rw [HW.out.ress] at j1; exact j1
        obtain ⟨bp, cp, A, cj, g2, q3, inner⟩ := HF2.out.rep jb j0 j2
        have hrl : (F.reports.getD jb.toNat []).length = F.working.length := by rw [HW.out.work]; apply HW.out.rows; rw [List.getD_eq_getElem?_getD, List.getElem?_eq_getElem (show jb.toNat < F.reports.length by omega)]; exact List.getElem_mem _
        obtain ⟨bj, rfl, q4, _, _, _⟩ := inner wk wk0 (by rw [hrl]; exact wk1)
        clear inner
        rw [hrl] at q3
        clear hrl
        have m1a : (now == (-1)) = true := beq_iff_eq.mpr m1
        have m1b : (now != (-1)) = false := bne_eq_false_iff_eq.mpr m1
        obtain ⟨old, hold⟩ : ∃ old, Aside0 (rd (F.reports.getD jb.toNat []) wk = old) := ⟨_, ⟨rfl⟩⟩
        rw [hold.out] at q4
        by_cases o1 : 0 ≤ old
        · have o1b : decide (0 ≤ old) = true := decide_eq_true o1
          have hGe : G = (F, 7) := by rw [← hG.out]; unfold Farm.event; simp only [hc.out, hnow.out]; rw [if_neg (by first | omega | simp), if_pos (by first | trivial | omega), if_neg (by omega), if_pos (by rw [hold.out]; exact o1)]
          have HG := Aside0.mk hGe
          clear hGe m1
          go_wp2
          go_quiet (fail)
          go_wp2
          go_quiet (fail)
          go_wp2
          go_ret
          exact ⟨by rw [HG.out]; first | done | rfl, by rw [HG.out]; repeat (first | exact HF2.out | apply FarmAt.drewN | apply FarmAt.drew), by repeat (first | exact HBB.out | apply pw_below_drewN | apply below_drew1')⟩
        · have o1b : decide (0 ≤ old) = false := decide_eq_false o1
          have hGe : G = ({ F with working := F.working.set wk.toNat jb }, 0) := by rw [← hG.out]; unfold Farm.event; simp only [hc.out, hnow.out]; rw [if_neg (by first | omega | simp), if_pos (by first | trivial | omega), if_neg (by omega), if_neg (by rw [hold.out]; exact o1)]
          have HG := Aside0.mk hGe
          clear hGe m1
          go_wp2
          go_quiet (fail)
          go_wp2
          go_quiet (fail)
          go_wp2
          go_region
          all_goals go_wp2
          all_goals (first | go_ret | skip)
          all_goals exact ⟨by rw [HG.out]; first | rfl | simp, by rw [HG.out]; first | exact (BK.out (jb)).drewN _ | exact (BK.out (jb)).drew | exact BK.out (jb), Below.setCell (p := ⟨bw, wk.toNat, none⟩) (by repeat (first | exact HBB.out | apply pw_below_drewN | apply below_drew1')) hbw _⟩
      · skip
        have m1a : (now == (-1)) = false := beq_eq_false_iff_ne.mpr m1
        have m1b : (now != (-1)) = true := bne_iff_ne.mpr m1
        have hGe : G = (F, 11) := by rw [← hG.out]; unfold Farm.event; simp only [hc.out, hnow.out]; rw [if_neg (by first | omega | simp), if_pos (by first | trivial | omega), if_pos (by omega)]
        have HG := Aside0.mk hGe
        clear hGe m1
        go_wp2
        go_quiet (fail)
        go_wp2
        go_ret
        exact ⟨by rw [HG.out]; first | done | rfl, by rw [HG.out]; repeat (first | exact HF2.out | apply FarmAt.drewN | apply FarmAt.drew), by repeat (first | exact HBB.out | apply pw_below_drewN | apply below_drew1')⟩
    have p1a : (k == 1) = false := beq_eq_false_iff_ne.mpr p1
    have p1b : (k != 1) = true := bne_iff_ne.mpr p1
    by_cases p2 : k = 2
    · subst p2
      clear p1
      by_cases m1 : now < 0
      · have m1b : decide (now < 0) = true := decide_eq_true m1
        have hGe : G = (F, 11) := by rw [← hG.out]; unfold Farm.event; simp only [hc.out, hnow.out]; rw [if_neg (by first | omega | simp), if_neg (by first | omega | simp), if_pos (by first | trivial | omega), if_pos (by omega)]
        have HG := Aside0.mk hGe
        clear hGe 
        go_wp2
        go_quiet (fail)
        go_wp2
        go_ret
        exact ⟨by rw [HG.out]; first | done | rfl, by rw [HG.out]; repeat (first | exact HF2.out | apply FarmAt.drewN | apply FarmAt.drew), by repeat (first | exact HBB.out | apply pw_below_drewN | apply below_drew1')⟩
      · have m1b : decide (now < 0) = false := decide_eq_false m1
        have hGe : G = (F.report wk vl, 0) := by rw [← hG.out]; unfold Farm.event; simp only [hc.out, hnow.out]; rw [if_neg (by first | omega | simp), if_neg (by first | omega | simp), if_pos (by first | trivial | omega), if_neg (by omega)]
        have HG := Aside0.mk hGe
        clear hGe 
        obtain ⟨u0, u1⟩ := HV.out rfl
        go_wp2
        go_quiet (fail)
        go_wp2_with (first | (go_at_call 32; (with_reducible refine (report_calls F wk vl _ B g ?s0 wk0 wk1 ?s1 ?s2 ?s3 ?s4 ?s5 ?s6).mono ?_); (case s0 => repeat (first | exact HF2.out | apply FarmAt.drewN | apply FarmAt.drew)); (case s1 => exact hN8); (case s2 => rw [HW.out.reps, HW.out.ress]); (case s3 => rw [HW.out.ress]; exact HW.out.j12); (case s4 => rw [hnow.out]; omega); (case s5 => rw [hnow.out, HW.out.ress]; exact n2); (case s6 => rw [HW.out.work]; exact HW.out.rows); rintro e w3 ⟨rfl, hf3, hb3⟩; have HF3 := Aside0.mk hf3; have HB3 := Aside0.mk hb3; clear hf3 hb3))
        go_ret
        exact ⟨by rw [HG.out]; first | done | rfl, by rw [HG.out]; exact HF3.out, Below.trans (by repeat (first | exact HBB.out | apply pw_below_drewN | apply below_drew1')) HB3.out⟩
    have p2a : (k == 2) = false := beq_eq_false_iff_ne.mpr p2
    have p2b : (k != 2) = true := bne_iff_ne.mpr p2
    by_cases p3 : k = 3
    · subst p3
      clear p1 p2
      by_cases m1 : now = -2
      · skip
        have m1a : (now == (-2)) = true := beq_iff_eq.mpr m1
        have m1b : (now != (-2)) = false := bne_eq_false_iff_eq.mpr m1
        have hGe : G = (F, 11) := by rw [← hG.out]; unfold Farm.event; simp only [hc.out, hnow.out]; rw [if_neg (by first | omega | simp), if_neg (by first | omega | simp), if_neg (by omega), if_pos (by first | trivial | omega), if_pos m1]
        have HG := Aside0.mk hGe
        clear hGe m1
        go_wp2
        go_quiet (fail)
        go_wp2
        go_ret
        exact ⟨by rw [HG.out]; first | done | rfl, by rw [HG.out]; repeat (first | exact HF2.out | apply FarmAt.drewN | apply FarmAt.drew), by repeat (first | exact HBB.out | apply pw_below_drewN | apply below_drew1')⟩
      · skip
        have m1a : (now == (-2)) = false := beq_eq_false_iff_ne.mpr m1
        have m1b : (now != (-2)) = true := bne_iff_ne.mpr m1
        have hGe : G = ({ F with working := F.working.set wk.toNat (-2) }, 0) := by rw [← hG.out]; unfold Farm.event; simp only [hc.out, hnow.out]; rw [if_neg (by first | omega | simp), if_neg (by first | omega | simp), if_neg (by omega), if_pos (by first | trivial | omega), if_neg m1]
        have HG := Aside0.mk hGe
        clear hGe m1
        go_wp2
        go_quiet (fail)
        go_wp2
        go_region
        all_goals go_wp2
        all_goals (first | go_ret | skip)
        all_goals exact ⟨by rw [HG.out]; first | rfl | simp, by rw [HG.out]; first | exact (BK.out (-2)).drewN _ | exact (BK.out (-2)).drew | exact BK.out (-2), Below.setCell (p := ⟨bw, wk.toNat, none⟩) (by repeat (first | exact HBB.out | apply pw_below_drewN | apply below_drew1')) hbw _⟩
    · obtain rfl : k = 4 := by omega
      clear p1 p2 p3
      by_cases m1 : now = -2
      · skip
        have m1a : (now == (-2)) = true := beq_iff_eq.mpr m1
        have m1b : (now != (-2)) = false := bne_eq_false_iff_eq.mpr m1
        have hGe : G = ({ F with working := F.working.set wk.toNat (-1) }, 0) := by rw [← hG.out]; unfold Farm.event; simp only [hc.out, hnow.out]; rw [if_neg (by first | omega | simp), if_neg (by first | omega | simp), if_neg (by omega), if_neg (by omega), if_neg (by omega)]
        have HG := Aside0.mk hGe
        clear hGe m1
        go_wp2
        go_quiet (fail)
        go_wp2
        go_region
        all_goals go_wp2
        all_goals (first | go_ret | skip)
        all_goals exact ⟨by rw [HG.out]; first | rfl | simp, by rw [HG.out]; first | exact (BK.out (-1)).drewN _ | exact (BK.out (-1)).drew | exact BK.out (-1), Below.setCell (p := ⟨bw, wk.toNat, none⟩) (by repeat (first | exact HBB.out | apply pw_below_drewN | apply below_drew1')) hbw _⟩
      · skip
        have m1a : (now == (-2)) = false := beq_eq_false_iff_ne.mpr m1
        have m1b : (now != (-2)) = true := bne_iff_ne.mpr m1
        have hGe : G = (F, 11) := by rw [← hG.out]; unfold Farm.event; simp only [hc.out, hnow.out]; rw [if_neg (by first | omega | simp), if_neg (by first | omega | simp), if_neg (by omega), if_neg (by omega), if_pos m1]
        have HG := Aside0.mk hGe
        clear hGe m1
        go_wp2
        go_quiet (fail)
        go_wp2
        go_ret
        exact ⟨by rw [HG.out]; first | done | rfl, by rw [HG.out]; repeat (first | exact HF2.out | apply FarmAt.drewN | apply FarmAt.drew), by repeat (first | exact HBB.out | apply pw_below_drewN | apply below_drew1')⟩
  · have cb : (c != 0) = true := bne_iff_ne.mpr hc0
    have hGe : G = (F, c) := by rw [← hG.out]; unfold Farm.event; simp only [hc.out]; rw [if_pos hc0]
    have HG := Aside0.mk hGe
    clear hGe hc0
    go_wp2
    go_ret
    exact ⟨by rw [HG.out]; first | done | rfl, by rw [HG.out]; repeat (first | exact HF2.out | apply FarmAt.drewN | apply FarmAt.drew), by repeat (first | exact HBB.out | apply pw_below_drewN | apply below_drew1')⟩
end Go.Proofs.Ytepflpmngegdiaa.H
end
section
namespace Go.Proofs.Ytepflpmngegdiaa.H
open Go.RowKit Go.Proofs.YtepflpmngegdiaaW.PrintWords Go.Proofs.YtepflpmngegdiaaW.PrintLast Go.Proofs.YtepflpmngegdiaaW.PrintMore
set_option linter.unusedVariables false
set_option linter.unusedSimpArgs false
open Go.RowKit
def newFarm (jobs workers need : Int) : Farm := ⟨need, List.replicate workers.toNat (-1), List.replicate jobs.toNat (List.replicate workers.toNat (-1)), List.replicate jobs.toNat (-1)⟩
theorem winfoI : (Try.prog.info? 3).map (fun i => (i.zero, i.size, i.bytes)) = some (some (.int .i64 0), 1, 8) := by kernel_rfl
theorem winfoL : (Try.prog.info? 27).map (fun i => (i.zero, i.size, i.bytes)) = some (some (.slice none 0 0), 1, 24) := by kernel_rfl
theorem heap_grown {w w1 : World} {g : Nat} {o : Obj} {row : Option Nat} (h : w.heap[g]? = some o) (hw : w.grownBy w1 row) (hne : some g ≠ row) : w1.heap[g]? = some o := (hw.block g (blk_lt h) hne).trans h
theorem fill_step (m N : Nat) (h : m < N) : (List.replicate m (-1 : Int) ++ List.replicate (N - m) 0).set m (-1) = List.replicate (m + 1) (-1) ++ List.replicate (N - (m + 1)) 0 := by
  rw [show N - m = (N - (m + 1)) + 1 from by omega, List.replicate_succ, List.set_append_right _ _ (by simp), List.replicate_succ']
  simp
set_option maxHeartbeats 8000000 in
theorem newFarm_calls (jobs workers need : Int) (w : World) (j0 : 0 ≤ jobs) (j1 : jobs ≤ 12) (n0 : 1 ≤ workers) (n1 : workers ≤ 8) :
    Calls Try.prog 29 #[.int .i64 jobs, .int .i64 workers, .int .i64 need] w fun e w' => ∃ g, e = .returned (.pointer (some ⟨g, 0, none⟩)) ∧ FarmAt w' w.heap.size g (newFarm jobs workers need) ∧ Below w.heap.size w w' := by
  have hpost : ∀ g w', Aside0 (FarmAt w' w.heap.size g (newFarm jobs workers need)) → Aside0 (Below w.heap.size w w') → ∃ g', Ending.returned (.pointer (some ⟨g, 0, none⟩)) = .returned (.pointer (some ⟨g', 0, none⟩)) ∧ FarmAt w' w.heap.size g' (newFarm jobs workers need) ∧ Below w.heap.size w w' := fun g w' h1 h2 => ⟨g, rfl, h1.out, h2.out⟩
  have HPOST := Aside0.mk hpost
  clear hpost
  go_enter Try.func29, Try.ntmps29
  go_upto_region 2 with (first | ((with_reducible refine gate_dst (N := 12) rfl ?_); refine box_event ?hg (N := 12) ?hd (cs := #[.int .i64 need, .slice none 0 0, .slice none 0 0, .slice none 0 0]) (t := 55) ?hr ?_; (case hd => rfl); (case hg => rfl); (case hr => first | (go_simp; done) | (go_simp; rfl)); intro g hg w1 hbox hb; have hb1 := Aside0.mk hb; have hbx := Aside0.mk hbox; have hgB := Aside0.mk (Nat.le_of_eq hg.symm); clear hb hbox hg))
  go_wp2
  go_loopw [14] (fun i wr => ∃ (k : Nat) (vw : Value), k ≤ workers.toNat ∧ i = .int .i64 k ∧ Aside0 (wr.heap[g]? = some (.cells #[.int .i64 need, vw, .slice none 0 0, .slice none 0 0] 55 (0, 0))) ∧
      Aside0 (Kd.R (Kd.int .i64) 3 wr w.heap.size (fun k_ => k_ ≠ g) vw (List.replicate k (-1))) ∧ Aside0 (Below w.heap.size w wr)) (fun i _ => workers.toNat - (intOf i).toNat)
  case atStart => exact ⟨0, _, Nat.zero_le _, rfl, hbx, ⟨Kd.R_nil _ _ _ _ _⟩, hb1⟩
  case round =>
    obtain ⟨k, vw, hk, rfl, HX, HV, HB⟩ := hrel
    clear hb1 hbx
    by_cases hlt : k < workers.toNat
    · have hlt2 : (k : Int) < workers := by omega
      have c1 : wr.cell? ⟨g, 1, none⟩ = some vw := (blk_cell HX.out 1).trans rfl
      have f1 := blk_frozen HX.out 1
      go_wp2_with (first | ((with_reducible refine gate_builtin (b := .append) (xs := #[.tmp 20, .tmp 21]) rfl ?_); at_builtin; refine Kd.R_append (Kd.int .i64) (w0 := w) w.heap.size rfl (.tmp 20) (.tmp 21) 27 3 (.int .i64 0) 8 rfl Try.underlying27 winfoI rfl (by decide) (by omega) vw (List.replicate k (-1)) (-1) [.int .i64 (-1)] (fun k_ => k_ ≠ g) (fun _ => False) rfl rfl ?aP (fun _ hk => hk.elim) ?aF ?aO ?aB ?aS ?aL ?_; (case aP => exact rfl); (case aF => exact fun k_ hk he => by rw [he] at hk; have := blk_lt HX.out; omega); (case aO => exact HV.out); (case aB => exact HB.out); (case aS => exact HB.out.size); (case aL => simp; omega); intro v1 w2 hO hBB hG hat; obtain ⟨Aq, cq, rfl⟩ := Kd.R_slice hO; have HX2 := Aside0.mk (heap_grown HX.out hG (fun he => HV.out.1 g he.symm rfl)); have HV2 : Aside0 (Kd.R (Kd.int .i64) 3 w2 w.heap.size (fun k_ => k_ ≠ g) (.slice Aq (k + 1) cq) (List.replicate k (-1) ++ [-1])) := ⟨by simpa using hO⟩; have HB2 := Aside0.mk hBB; have c2 : w2.cell? ⟨g, 1, none⟩ = some vw := (blk_cell HX2.out 1).trans rfl; have f2 := blk_frozen HX2.out 1; clear hO hBB hG hat))
      go_roundw
      case rel => exact ⟨k + 1, _, by omega, by go_num, ⟨blk_put (cs := #[.int .i64 need, vw, .slice none 0 0, .slice none 0 0]) HX2.out 1 _ rfl⟩, ⟨by rw [List.replicate_succ']; exact Kd.R_far (p := ⟨g, 1, none⟩) HV2.out (fun _ hk => hk) _⟩, ⟨HB2.out.setCell (p := ⟨g, 1, none⟩) hgB.out _⟩⟩
      case measure => simp [intOf]; omega
    · obtain rfl : k = workers.toNat := by omega
      have hge : ¬ ((workers.toNat : Int) < workers) := by omega
      clear hk hlt
      obtain ⟨N, hN⟩ : ∃ N, Aside0 (workers.toNat = N) := ⟨_, ⟨rfl⟩⟩
      have HV1 : Aside0 (Kd.R (Kd.int .i64) 3 wr w.heap.size (fun k_ => some k_ = vw.ownBlock) vw (List.replicate workers.toNat (-1))) := ⟨Kd.R_tight rfl HV.out⟩
      have hvg : Aside0 (some g ≠ vw.ownBlock) := ⟨fun he => HV.out.1 g he.symm rfl⟩
      clear HV
      go_wp2
      go_loopw [27] (fun i w2 => ∃ (k : Nat) (vp vs : Value), k ≤ jobs.toNat ∧ i = .int .i64 k ∧ Aside0 (w2.heap[g]? = some (.cells #[.int .i64 need, vw, vp, vs] 55 (0, 0))) ∧
          Aside0 (Kd.R (Kd.int .i64) 3 w2 w.heap.size (fun k_ => some k_ = vw.ownBlock) vw (List.replicate workers.toNat (-1))) ∧
          Aside0 (Kd.S (Kd.slice 3 (Kd.int .i64)) 27 w2 w.heap.size (fun k_ => (k_ ≠ g ∧ some k_ ≠ vw.ownBlock) ∧ some k_ ≠ vs.ownBlock) vp (List.replicate k (List.replicate workers.toNat (-1)))) ∧
          Aside0 (Kd.R (Kd.int .i64) 3 w2 w.heap.size (fun k_ => k_ ≠ g ∧ some k_ ≠ vw.ownBlock) vs (List.replicate k (-1))) ∧ Aside0 (Below w.heap.size w w2)) (fun i _ => jobs.toNat - (intOf i).toNat)
      case atStart => exact ⟨0, _, _, Nat.zero_le _, rfl, HX, HV1, ⟨Kd.S_nil _ _ _ _ _⟩, ⟨Kd.R_nil _ _ _ _ _⟩, HB⟩
      case round =>
        clear HX HV1 HB
        obtain ⟨k, vp, vs, hk, rfl, HX, HW, HP, HS, HB⟩ := hrel
        by_cases hlt : k < jobs.toNat
        · have hlt2 : (k : Int) < jobs := by omega
          obtain ⟨wo, rfl⟩ : ∃ wo : World, wo = wr := ⟨_, rfl⟩
          go_upto_region 9 with (first | ((with_reducible refine gate_dst (N := 30) rfl ?_); refine Kd.R_make (Kd.int .i64) (w0 := wo) wo.heap.size 3 rfl (N := 30) rfl 27 (.tmp 29) (.tmp 29) rfl workers rfl rfl Try.underlying27 (.int .i64 0) 8 winfoI rfl (by decide) (by omega) 0 (ok := fun _ => True) (okp := fun _ => True) rfl (fun _ _ => trivial) trivial (by omega) (by omega) (Below.refl _ _) (Nat.le_refl _) ?_; intro v1 w3 hO hBB hG hat; have HR := Aside0.mk hO; have HBo := Aside0.mk hBB; clear hO hBB hG hat))
          obtain ⟨br, cr, rfl, hbr, hbr2, _⟩ := Kd.R_form HR.out (by simp; omega)
          simp only [List.length_replicate] at *
          have HbR := Aside0.mk hbr
          clear hbr hbr2
          go_wp2
          go_loopw [33] (fun i w4 => ∃ (m : Nat), m ≤ workers.toNat ∧ i = .int .i64 m ∧ Aside0 (Kd.R (Kd.int .i64) 3 w4 wo.heap.size (fun _ => True) (.slice (some ⟨br, 0, none⟩) workers.toNat cr) (List.replicate m (-1) ++ List.replicate (workers.toNat - m) 0)) ∧ Aside0 (Below wo.heap.size wo w4)) (fun i _ => workers.toNat - (intOf i).toNat)
          case atStart => exact ⟨0, Nat.zero_le _, rfl, ⟨by simpa using HR.out⟩, HBo⟩
          case round =>
            obtain ⟨m, hm, rfl, HR', HBo'⟩ := hrel
            clear HR HBo
            by_cases hlm : m < workers.toNat
            · have hlm2 : (m : Int) < (workers.toNat : Int) := by omega
              obtain ⟨e1, e2⟩ := Kd.R_celln (0 : Int) HR'.out (m : Int) (by omega) (by omega)
              rw [Int.toNat_natCast] at e1 e2
              go_wp2
              go_roundw
              case rel => exact ⟨m + 1, by omega, by go_num, ⟨by have := Kd.R_putn HR'.out (m : Int) (-1); rw [Int.toNat_natCast, fill_step m _ hlm] at this; exact this⟩, ⟨HBo'.out.setCell (p := ⟨br, m, none⟩) HbR.out _⟩⟩
              case measure => simp [intOf]; omega
            · obtain rfl : m = workers.toNat := by omega
              have HR2 : Aside0 (Kd.R (Kd.int .i64) 3 wr wo.heap.size (fun _ => True) (.slice (some ⟨br, 0, none⟩) workers.toNat cr) (List.replicate workers.toNat (-1))) := ⟨by simpa using HR'.out⟩
              have gl : g < wo.heap.size := blk_lt HX.out
              have HX4 := Aside0.mk ((HBo'.out.block g gl).trans HX.out)
              have HW4 := Aside0.mk (Kd.R_below HW.out HBo'.out)
              have HS4 := Aside0.mk (Kd.R_below (Kd.R_tight rfl HS.out) HBo'.out)
              have HP4 : Aside0 (Kd.S (Kd.slice 3 (Kd.int .i64)) 27 wr w.heap.size (fun k_ => ((k_ ≠ g ∧ some k_ ≠ vw.ownBlock) ∧ some k_ ≠ vs.ownBlock) ∧ ¬ k_ = br) vp (List.replicate k (List.replicate workers.toNat (-1)))) :=
                ⟨Kd.S_mono (Kd.S_old HP.out HBo'.out) (fun k_ hk_ => ⟨hk_.1, fun he => by have := hk_.2; have := HbR.out; omega⟩)⟩
              have hlw : ∀ k_, vw.ownBlock = some k_ → k_ < wo.heap.size := Kd.R_lt HW.out
              have hls : ∀ k_, vs.ownBlock = some k_ → k_ < wo.heap.size := Kd.R_lt HS.out
              have hlp : ∀ k_, vp.ownBlock = some k_ → k_ < wo.heap.size := Kd.S_lt HP.out
              have hvsn := Aside0.mk HS.out.1
              have hvpn := Aside0.mk (Kd.S_R HP.out).1
              have hfr : Aside0 (∀ k_, wo.heap.size ≤ k_ → (k_ ≠ g ∧ some k_ ≠ vw.ownBlock) ∧ some k_ ≠ vs.ownBlock) := ⟨fun k_ hk_ => ⟨⟨by omega, fun he => by have := hlw k_ he.symm; omega⟩, fun he => by have := hls k_ he.symm; omega⟩⟩
              have hszo := HBo'.out.size
              have HLP := Aside0.mk hlp
              have HLW := Aside0.mk hlw
              have HLS := Aside0.mk hls
              have HB4 := Aside0.mk (below_more HB.out HB.out.size HBo'.out)
              have c2 : wr.cell? ⟨g, 2, none⟩ = some vp := (blk_cell HX4.out 2).trans rfl
              have f2 := blk_frozen HX4.out 2
              have HPn := Aside0.mk (Kd.S_ne HP4.out HX4.out (by decide))
              clear hlp hlw hls hm hlm
              go_wp2_with (first | ((with_reducible refine gate_builtin (b := .append) (xs := #[.tmp 44, .tmp 46]) rfl ?_); at_builtin; refine Kd.S_append (Kd.slice 3 (Kd.int .i64)) (w0 := w) w.heap.size rfl (.tmp 44) (.tmp 46) 53 27 (.slice none 0 0) 24 rfl Try.underlying53 winfoL rfl (by decide) (by omega) vp (List.replicate k (List.replicate workers.toNat (-1))) (List.replicate workers.toNat (-1)) [.slice (some ⟨br, 0, none⟩) workers.toNat cr] (fun k_ => (k_ ≠ g ∧ some k_ ≠ vw.ownBlock) ∧ some k_ ≠ vs.ownBlock) (fun k_ => k_ = br) rfl rfl ?aP ?aK ?aF ?aO ?aB ?aS ?aL ?_; (case aP => exact ⟨_, rfl, Kd.R_lower (Kd.R_mono (Kd.R_tight rfl HR2.out) (fun k_ hk_ => by simpa [Value.ownBlock] using hk_)) HB.out.size⟩); (case aK => exact fun k_ hk_ => ⟨by rw [hk_]; exact hfr.out br HbR.out, fun he => by have := HLP.out k_ he.symm; have := HbR.out; omega⟩); (case aF => exact fun k_ hk_ => hfr.out k_ (by omega)); (case aO => exact HP4.out); (case aB => exact HB4.out); (case aS => exact HB4.out.size); (case aL => simp; omega); intro v1 w5 hO hBB hG hat; obtain ⟨Aq, cq, rfl⟩ := Kd.S_slice hO; have HX5 := Aside0.mk (heap_grown HX4.out hG HPn.out); have HP5 : Aside0 (Kd.S (Kd.slice 3 (Kd.int .i64)) 27 w5 w.heap.size (fun k_ => (k_ ≠ g ∧ some k_ ≠ vw.ownBlock) ∧ some k_ ≠ vs.ownBlock) (.slice Aq (k + 1) cq) (List.replicate k (List.replicate workers.toNat (-1)) ++ [List.replicate workers.toNat (-1)])) := ⟨by have h_ := hO; have e_ : (List.replicate k (List.replicate workers.toNat (-1 : Int)) ++ [List.replicate workers.toNat (-1 : Int)]).length = k + 1 := (by simp); rw [e_] at h_; exact h_⟩; have HW5 := Aside0.mk (Kd.R_grown HW4.out hG (fun k_ hk_ he => (hvpn.out k_ he.symm).1.2 hk_)); have HS5 := Aside0.mk (Kd.R_grown HS4.out hG (fun k_ hk_ he => (hvpn.out k_ he.symm).2 hk_)); have HB5 := Aside0.mk hBB; have c5 : w5.cell? ⟨g, 2, none⟩ = some vp := (blk_cell HX5.out 2).trans rfl; have f5 := blk_frozen HX5.out 2; have HX6 : Aside0 ((w5.setCell ⟨g, 2, none⟩ (.slice Aq (k + 1) cq)).heap[g]? = some (.cells #[.int .i64 need, vw, .slice Aq (k + 1) cq, vs] 55 (0, 0))) := ⟨blk_put (cs := #[.int .i64 need, vw, vp, vs]) HX5.out 2 _ rfl⟩; have HP6 := Aside0.mk (Kd.S_far (p := ⟨g, 2, none⟩) HP5.out (fun _ hk_ => hk_.1.1) (.slice Aq (k + 1) cq)); have HW6 := Aside0.mk (Kd.R_far (p := ⟨g, 2, none⟩) HW5.out (fun k_ hk_ he => hvg.out (by have he2 : k_ = g := he; rw [← he2]; exact hk_)) (.slice Aq (k + 1) cq)); have HS6 := Aside0.mk (Kd.R_far (p := ⟨g, 2, none⟩) HS5.out (fun k_ hk_ he => (hvsn.out k_ hk_.symm).1 he) (.slice Aq (k + 1) cq)); have HB6 := Aside0.mk (HB5.out.setCell (p := ⟨g, 2, none⟩) hgB.out (.slice Aq (k + 1) cq)); have c6 : (w5.setCell ⟨g, 2, none⟩ (.slice Aq (k + 1) cq)).cell? ⟨g, 3, none⟩ = some vs := (blk_cell HX6.out 3).trans rfl; have f6 := blk_frozen HX6.out 3; clear hO hBB hG hat) | ((with_reducible refine gate_builtin (b := .append) (xs := #[.tmp 54, .tmp 55]) rfl ?_); at_builtin; refine Kd.R_append (Kd.int .i64) (w0 := w) w.heap.size rfl (.tmp 54) (.tmp 55) 27 3 (.int .i64 0) 8 rfl Try.underlying27 winfoI rfl (by decide) (by omega) vs (List.replicate k (-1)) (-1) [.int .i64 (-1)] (fun k_ => (k_ ≠ g ∧ some k_ ≠ vw.ownBlock) ∧ some k_ ≠ (Value.slice Aq (k + 1) cq).ownBlock) (fun _ => False) rfl (by rw [show (w5.setCell ⟨g, 2, none⟩ (.slice Aq (k + 1) cq)).heap.size = w5.heap.size from by simp [World.setCell]]; rfl) ?bP (fun _ hk => hk.elim) ?bF ?bO ?bB ?bS ?bL ?_; (case bP => exact rfl); (case bF => exact fun k_ hk_ => ⟨⟨fun he => by have := blk_lt HX6.out; omega, fun he => by have := Kd.R_lt HW6.out k_ he.symm; omega⟩, fun he => by have := Kd.S_lt HP6.out k_ he.symm; omega⟩); (case bO => exact Kd.R_mono HS6.out (fun k_ hk_ => ⟨⟨(hvsn.out k_ hk_.symm).1, (hvsn.out k_ hk_.symm).2⟩, fun he => ((Kd.S_R HP6.out).1 k_ he.symm).2 hk_⟩)); (case bB => exact HB6.out); (case bS => exact HB6.out.size); (case bL => simp; omega); intro v2 w7 hO hBB hG hat; obtain ⟨Ar, cr2, rfl⟩ := Kd.R_slice hO; have HX7 := Aside0.mk (heap_grown HX6.out hG (fun he => (hvsn.out g he.symm).1 rfl)); have HP7 := Aside0.mk (Kd.S_after HP6.out hG hat); have HW7 := Aside0.mk (Kd.R_grown HW6.out hG (fun k_ hk_ he => (hvsn.out k_ he.symm).2 hk_)); have HS7 := Aside0.mk (Kd.R_mono hO (ok' := fun k_ => k_ ≠ g ∧ some k_ ≠ vw.ownBlock) (fun _ hk_ => hk_.1)); have HB7 := Aside0.mk hBB; have e_ : (List.replicate k (-1 : Int) ++ [-1]).length = k + 1 := (by simp); rw [e_] at HP7 HS7; clear e_; have c7 : w7.cell? ⟨g, 3, none⟩ = some vs := (blk_cell HX7.out 3).trans rfl; have f7 := blk_frozen HX7.out 3; clear hO hBB hG hat))
              go_roundw
              case rel => exact ⟨k + 1, _, _, by omega, by go_num, ⟨blk_put (cs := #[.int .i64 need, vw, .slice Aq (k + 1) cq, vs]) HX7.out 3 _ rfl⟩, ⟨Kd.R_far (p := ⟨g, 3, none⟩) HW7.out (fun k_ hk_ he => hvg.out (by have he2 : k_ = g := he; rw [← he2]; exact hk_)) _⟩,
                ⟨by rw [List.replicate_succ']; exact Kd.S_far (p := ⟨g, 3, none⟩) HP7.out (fun _ hk_ => hk_.1.1) _⟩, ⟨by rw [List.replicate_succ']; exact Kd.R_far (p := ⟨g, 3, none⟩) HS7.out (fun _ hk_ => hk_.1) _⟩, ⟨HB7.out.setCell (p := ⟨g, 3, none⟩) hgB.out _⟩⟩
              case measure => simp [intOf]; omega
        · obtain rfl : k = jobs.toNat := by omega
          have hge2 : ¬ ((jobs.toNat : Int) < jobs) := by omega
          have hfin : Aside0 (FarmAt wr w.heap.size g (newFarm jobs workers need)) := ⟨vw, vp, vs, fun k_ => some k_ = vw.ownBlock, fun k_ => (k_ ≠ g ∧ some k_ ≠ vw.ownBlock) ∧ some k_ ≠ vs.ownBlock, fun k_ => some k_ = vs.ownBlock,
            fun k_ hk_ => ⟨fun h_ => h_.1.2 hk_, fun h_ => (HS.out.1 k_ h_.symm).2 hk_, fun h_ => hvg.out (by rw [← h_]; exact hk_)⟩,
            fun k_ hk_ => ⟨hk_.1.2, hk_.2, hk_.1.1⟩, fun k_ hk_ => ⟨fun h_ => (HS.out.1 k_ hk_.symm).2 h_, fun h_ => h_.2 hk_, (HS.out.1 k_ hk_.symm).1⟩,
            HX.out, hgB.out, HW.out, HP.out, Kd.R_tight rfl HS.out⟩
          clear hk hlt HX HW HP HS
          go_wp2
          go_ret
          exact HPOST.out _ _ hfin HB
end Go.Proofs.Ytepflpmngegdiaa.H
end
section
namespace Go.Proofs.Ytepflpmngegdiaa.H
open Go.RowKit Go.Proofs.YtepflpmngegdiaaW.PrintWords Go.Proofs.YtepflpmngegdiaaW.PrintLast Go.Proofs.YtepflpmngegdiaaW.PrintMore
set_option linter.unusedVariables false
set_option linter.unusedSimpArgs false

def workers_sizes.f (a0 : Int) (a1 : Int) (a2 : Int) : Option (Int × Int) := if a0 < 0 then (some (3, (-1))) else (if a0 > 12 then (some (3, (-1))) else (if a1 < 1 then (some (3, (-1))) else (if a1 > 8 then (some (3, (-1))) else (if a2 < 1 then (some (3, (-1))) else (if a2 > a1 then (some (3, (-1))) else (some (0, 0)))))))
set_option maxHeartbeats 8000000 in
set_option maxRecDepth 100000 in
theorem workers_sizes.calls (a0 : Int) (a1 : Int) (a2 : Int) (r1 : Int) (r2 : Int) (w : World) (h : workers_sizes.f a0 a1 a2 = some (r1, r2)) :
    Calls Try.prog 28 #[.int .i64 a0, .int .i64 a1, .int .i64 a2] w fun e w' => e = .returned (.agg #[.int .i64 r1, .int .i64 r2]) ∧ Below w.heap.size w w' := by
  have hu25 := Try.underlying25
  have HB := Aside0.mk (Below.refl w.heap.size w)
  have H : (if a0 < 0 then (some (3, (-1))) else (if a0 > 12 then (some (3, (-1))) else (if a1 < 1 then (some (3, (-1))) else (if a1 > 8 then (some (3, (-1))) else (if a2 < 1 then (some (3, (-1))) else (if a2 > a1 then (some (3, (-1))) else (some (0, 0)))))))) = some (r1, r2) := h
  clear h
  by_cases c4 : a0 < 0
  · rw [if_pos c4] at H
    have c4b0 : decide (a0 < 0) = true := decide_eq_true c4
    clear c4
    simp only [Option.some.injEq, Prod.mk.injEq] at H
    obtain ⟨rfl, rfl⟩ := H
    go_enter Try.func28, Try.ntmps28
    go_wp2_with (first | ((with_reducible refine gate_dst (N := 6) rfl ?_); refine box_event ?hg (N := 6) ?hd (cs := #[.int .i64 0, .int .i64 0]) (t := 25) ?hr ?_; (case hd => rfl); (case hg => rfl); (case hr => first | (go_simp; done) | (go_simp; rfl)); intro gb101 hg w5 hbox hb; have n0_ := Aside0.mk (below_step (by repeat (first | (with_reducible first | exact HB.out | apply below_alloc | apply pw_below_drewN | apply below_drew1) | exact HB.out)) hb); have n1_ := Aside0.mk (hbox); have n2_ := Aside0.mk ((by rw [hg]; exact (below_size (by repeat (first | (with_reducible first | exact HB.out | apply below_alloc | apply pw_below_drewN | apply below_drew1) | exact HB.out))) : w.heap.size ≤ gb101)); have n3_ := Aside0.mk ((by rw [hg]; exact (below_size (by repeat (first | (with_reducible first | exact HB.out | apply below_alloc | apply pw_below_drewN | apply below_drew1) | exact HB.out))) : w.heap.size ≤ gb101)); clear HB; have HB := n0_; have BK101 := n1_; have GW101 := n2_; have GE101 := n3_; clear n0_ n1_ n2_ n3_; clear hb hbox hg; have hcz6_0 : w5.cell? ⟨gb101, 0, none⟩ = some (.int .i64 0) := (blk_cell BK101.out 0).trans rfl; have hcz6_1 : w5.cell? ⟨gb101, 1, none⟩ = some (.int .i64 0) := (blk_cell BK101.out 1).trans rfl; have hfz6_0 := blk_frozen BK101.out 0; have hfz6_1 := blk_frozen BK101.out 1))
    refine bodyPost_ret (results_cell_row rfl _ _ gb101 25 #[.int .i64 3, .int .i64 (-1)] (0, 0) _ rfl (by (with_reducible repeat (first | refine blk_drewN ?_ _ | refine blk_drew ?_ | refine blk_alloc ?_ _)); refine blk_put (cs := #[.int .i64 3, .int .i64 0]) ?_ 1 _ rfl; (with_reducible repeat (first | refine blk_drewN ?_ _ | refine blk_drew ?_ | refine blk_alloc ?_ _)); refine blk_put (cs := #[.int .i64 0, .int .i64 0]) ?_ 0 _ rfl; (with_reducible repeat (first | refine blk_drewN ?_ _ | refine blk_drew ?_ | refine blk_alloc ?_ _)); exact BK101.out) Try.underlying25 rfl (by kernel_rfl)) rfl ?_
    exact ⟨by first | rfl | (simp [errW_none, errW_some] <;> rfl) | (simp [*, errW_none, errW_some] <;> rfl), by repeat (first | (with_reducible first | exact HB.out | apply below_alloc | apply pw_below_drewN | apply below_drew1 | refine below_set ?_ GE101.out) | exact HB.out)⟩
  · rw [if_neg c4] at H
    have c4b0 : decide (a0 < 0) = false := decide_eq_false c4
    clear c4
    by_cases c7 : a0 > 12
    · rw [if_pos c7] at H
      have c7b0 : decide (12 < a0) = true := decide_eq_true c7
      clear c7
      simp only [Option.some.injEq, Prod.mk.injEq] at H
      obtain ⟨rfl, rfl⟩ := H
      go_enter Try.func28, Try.ntmps28
      go_wp2_with (first | ((with_reducible refine gate_dst (N := 6) rfl ?_); refine box_event ?hg (N := 6) ?hd (cs := #[.int .i64 0, .int .i64 0]) (t := 25) ?hr ?_; (case hd => rfl); (case hg => rfl); (case hr => first | (go_simp; done) | (go_simp; rfl)); intro gb101 hg w8 hbox hb; have n0_ := Aside0.mk (below_step (by repeat (first | (with_reducible first | exact HB.out | apply below_alloc | apply pw_below_drewN | apply below_drew1) | exact HB.out)) hb); have n1_ := Aside0.mk (hbox); have n2_ := Aside0.mk ((by rw [hg]; exact (below_size (by repeat (first | (with_reducible first | exact HB.out | apply below_alloc | apply pw_below_drewN | apply below_drew1) | exact HB.out))) : w.heap.size ≤ gb101)); have n3_ := Aside0.mk ((by rw [hg]; exact (below_size (by repeat (first | (with_reducible first | exact HB.out | apply below_alloc | apply pw_below_drewN | apply below_drew1) | exact HB.out))) : w.heap.size ≤ gb101)); clear HB; have HB := n0_; have BK101 := n1_; have GW101 := n2_; have GE101 := n3_; clear n0_ n1_ n2_ n3_; clear hb hbox hg; have hcz9_0 : w8.cell? ⟨gb101, 0, none⟩ = some (.int .i64 0) := (blk_cell BK101.out 0).trans rfl; have hcz9_1 : w8.cell? ⟨gb101, 1, none⟩ = some (.int .i64 0) := (blk_cell BK101.out 1).trans rfl; have hfz9_0 := blk_frozen BK101.out 0; have hfz9_1 := blk_frozen BK101.out 1))
      refine bodyPost_ret (results_cell_row rfl _ _ gb101 25 #[.int .i64 3, .int .i64 (-1)] (0, 0) _ rfl (by (with_reducible repeat (first | refine blk_drewN ?_ _ | refine blk_drew ?_ | refine blk_alloc ?_ _)); refine blk_put (cs := #[.int .i64 3, .int .i64 0]) ?_ 1 _ rfl; (with_reducible repeat (first | refine blk_drewN ?_ _ | refine blk_drew ?_ | refine blk_alloc ?_ _)); refine blk_put (cs := #[.int .i64 0, .int .i64 0]) ?_ 0 _ rfl; (with_reducible repeat (first | refine blk_drewN ?_ _ | refine blk_drew ?_ | refine blk_alloc ?_ _)); exact BK101.out) Try.underlying25 rfl (by kernel_rfl)) rfl ?_
      exact ⟨by first | rfl | (simp [errW_none, errW_some] <;> rfl) | (simp [*, errW_none, errW_some] <;> rfl), by repeat (first | (with_reducible first | exact HB.out | apply below_alloc | apply pw_below_drewN | apply below_drew1 | refine below_set ?_ GE101.out) | exact HB.out)⟩
    · rw [if_neg c7] at H
      have c7b0 : decide (12 < a0) = false := decide_eq_false c7
      clear c7
      by_cases c10 : a1 < 1
      · rw [if_pos c10] at H
        have c10b0 : decide (a1 < 1) = true := decide_eq_true c10
        clear c10
        simp only [Option.some.injEq, Prod.mk.injEq] at H
        obtain ⟨rfl, rfl⟩ := H
        go_enter Try.func28, Try.ntmps28
        go_wp2_with (first | ((with_reducible refine gate_dst (N := 6) rfl ?_); refine box_event ?hg (N := 6) ?hd (cs := #[.int .i64 0, .int .i64 0]) (t := 25) ?hr ?_; (case hd => rfl); (case hg => rfl); (case hr => first | (go_simp; done) | (go_simp; rfl)); intro gb101 hg w11 hbox hb; have n0_ := Aside0.mk (below_step (by repeat (first | (with_reducible first | exact HB.out | apply below_alloc | apply pw_below_drewN | apply below_drew1) | exact HB.out)) hb); have n1_ := Aside0.mk (hbox); have n2_ := Aside0.mk ((by rw [hg]; exact (below_size (by repeat (first | (with_reducible first | exact HB.out | apply below_alloc | apply pw_below_drewN | apply below_drew1) | exact HB.out))) : w.heap.size ≤ gb101)); have n3_ := Aside0.mk ((by rw [hg]; exact (below_size (by repeat (first | (with_reducible first | exact HB.out | apply below_alloc | apply pw_below_drewN | apply below_drew1) | exact HB.out))) : w.heap.size ≤ gb101)); clear HB; have HB := n0_; have BK101 := n1_; have GW101 := n2_; have GE101 := n3_; clear n0_ n1_ n2_ n3_; clear hb hbox hg; have hcz12_0 : w11.cell? ⟨gb101, 0, none⟩ = some (.int .i64 0) := (blk_cell BK101.out 0).trans rfl; have hcz12_1 : w11.cell? ⟨gb101, 1, none⟩ = some (.int .i64 0) := (blk_cell BK101.out 1).trans rfl; have hfz12_0 := blk_frozen BK101.out 0; have hfz12_1 := blk_frozen BK101.out 1))
        refine bodyPost_ret (results_cell_row rfl _ _ gb101 25 #[.int .i64 3, .int .i64 (-1)] (0, 0) _ rfl (by (with_reducible repeat (first | refine blk_drewN ?_ _ | refine blk_drew ?_ | refine blk_alloc ?_ _)); refine blk_put (cs := #[.int .i64 3, .int .i64 0]) ?_ 1 _ rfl; (with_reducible repeat (first | refine blk_drewN ?_ _ | refine blk_drew ?_ | refine blk_alloc ?_ _)); refine blk_put (cs := #[.int .i64 0, .int .i64 0]) ?_ 0 _ rfl; (with_reducible repeat (first | refine blk_drewN ?_ _ | refine blk_drew ?_ | refine blk_alloc ?_ _)); exact BK101.out) Try.underlying25 rfl (by kernel_rfl)) rfl ?_
        exact ⟨by first | rfl | (simp [errW_none, errW_some] <;> rfl) | (simp [*, errW_none, errW_some] <;> rfl), by repeat (first | (with_reducible first | exact HB.out | apply below_alloc | apply pw_below_drewN | apply below_drew1 | refine below_set ?_ GE101.out) | exact HB.out)⟩
      · rw [if_neg c10] at H
        have c10b0 : decide (a1 < 1) = false := decide_eq_false c10
        clear c10
        by_cases c13 : a1 > 8
        · rw [if_pos c13] at H
          have c13b0 : decide (8 < a1) = true := decide_eq_true c13
          clear c13
          simp only [Option.some.injEq, Prod.mk.injEq] at H
          obtain ⟨rfl, rfl⟩ := H
          go_enter Try.func28, Try.ntmps28
          go_wp2_with (first | ((with_reducible refine gate_dst (N := 6) rfl ?_); refine box_event ?hg (N := 6) ?hd (cs := #[.int .i64 0, .int .i64 0]) (t := 25) ?hr ?_; (case hd => rfl); (case hg => rfl); (case hr => first | (go_simp; done) | (go_simp; rfl)); intro gb101 hg w14 hbox hb; have n0_ := Aside0.mk (below_step (by repeat (first | (with_reducible first | exact HB.out | apply below_alloc | apply pw_below_drewN | apply below_drew1) | exact HB.out)) hb); have n1_ := Aside0.mk (hbox); have n2_ := Aside0.mk ((by rw [hg]; exact (below_size (by repeat (first | (with_reducible first | exact HB.out | apply below_alloc | apply pw_below_drewN | apply below_drew1) | exact HB.out))) : w.heap.size ≤ gb101)); have n3_ := Aside0.mk ((by rw [hg]; exact (below_size (by repeat (first | (with_reducible first | exact HB.out | apply below_alloc | apply pw_below_drewN | apply below_drew1) | exact HB.out))) : w.heap.size ≤ gb101)); clear HB; have HB := n0_; have BK101 := n1_; have GW101 := n2_; have GE101 := n3_; clear n0_ n1_ n2_ n3_; clear hb hbox hg; have hcz15_0 : w14.cell? ⟨gb101, 0, none⟩ = some (.int .i64 0) := (blk_cell BK101.out 0).trans rfl; have hcz15_1 : w14.cell? ⟨gb101, 1, none⟩ = some (.int .i64 0) := (blk_cell BK101.out 1).trans rfl; have hfz15_0 := blk_frozen BK101.out 0; have hfz15_1 := blk_frozen BK101.out 1))
          refine bodyPost_ret (results_cell_row rfl _ _ gb101 25 #[.int .i64 3, .int .i64 (-1)] (0, 0) _ rfl (by (with_reducible repeat (first | refine blk_drewN ?_ _ | refine blk_drew ?_ | refine blk_alloc ?_ _)); refine blk_put (cs := #[.int .i64 3, .int .i64 0]) ?_ 1 _ rfl; (with_reducible repeat (first | refine blk_drewN ?_ _ | refine blk_drew ?_ | refine blk_alloc ?_ _)); refine blk_put (cs := #[.int .i64 0, .int .i64 0]) ?_ 0 _ rfl; (with_reducible repeat (first | refine blk_drewN ?_ _ | refine blk_drew ?_ | refine blk_alloc ?_ _)); exact BK101.out) Try.underlying25 rfl (by kernel_rfl)) rfl ?_
          exact ⟨by first | rfl | (simp [errW_none, errW_some] <;> rfl) | (simp [*, errW_none, errW_some] <;> rfl), by repeat (first | (with_reducible first | exact HB.out | apply below_alloc | apply pw_below_drewN | apply below_drew1 | refine below_set ?_ GE101.out) | exact HB.out)⟩
        · rw [if_neg c13] at H
          have c13b0 : decide (8 < a1) = false := decide_eq_false c13
          clear c13
          by_cases c16 : a2 < 1
          · rw [if_pos c16] at H
            have c16b0 : decide (a2 < 1) = true := decide_eq_true c16
            clear c16
            simp only [Option.some.injEq, Prod.mk.injEq] at H
            obtain ⟨rfl, rfl⟩ := H
            go_enter Try.func28, Try.ntmps28
            go_wp2_with (first | ((with_reducible refine gate_dst (N := 6) rfl ?_); refine box_event ?hg (N := 6) ?hd (cs := #[.int .i64 0, .int .i64 0]) (t := 25) ?hr ?_; (case hd => rfl); (case hg => rfl); (case hr => first | (go_simp; done) | (go_simp; rfl)); intro gb101 hg w17 hbox hb; have n0_ := Aside0.mk (below_step (by repeat (first | (with_reducible first | exact HB.out | apply below_alloc | apply pw_below_drewN | apply below_drew1) | exact HB.out)) hb); have n1_ := Aside0.mk (hbox); have n2_ := Aside0.mk ((by rw [hg]; exact (below_size (by repeat (first | (with_reducible first | exact HB.out | apply below_alloc | apply pw_below_drewN | apply below_drew1) | exact HB.out))) : w.heap.size ≤ gb101)); have n3_ := Aside0.mk ((by rw [hg]; exact (below_size (by repeat (first | (with_reducible first | exact HB.out | apply below_alloc | apply pw_below_drewN | apply below_drew1) | exact HB.out))) : w.heap.size ≤ gb101)); clear HB; have HB := n0_; have BK101 := n1_; have GW101 := n2_; have GE101 := n3_; clear n0_ n1_ n2_ n3_; clear hb hbox hg; have hcz18_0 : w17.cell? ⟨gb101, 0, none⟩ = some (.int .i64 0) := (blk_cell BK101.out 0).trans rfl; have hcz18_1 : w17.cell? ⟨gb101, 1, none⟩ = some (.int .i64 0) := (blk_cell BK101.out 1).trans rfl; have hfz18_0 := blk_frozen BK101.out 0; have hfz18_1 := blk_frozen BK101.out 1))
            refine bodyPost_ret (results_cell_row rfl _ _ gb101 25 #[.int .i64 3, .int .i64 (-1)] (0, 0) _ rfl (by (with_reducible repeat (first | refine blk_drewN ?_ _ | refine blk_drew ?_ | refine blk_alloc ?_ _)); refine blk_put (cs := #[.int .i64 3, .int .i64 0]) ?_ 1 _ rfl; (with_reducible repeat (first | refine blk_drewN ?_ _ | refine blk_drew ?_ | refine blk_alloc ?_ _)); refine blk_put (cs := #[.int .i64 0, .int .i64 0]) ?_ 0 _ rfl; (with_reducible repeat (first | refine blk_drewN ?_ _ | refine blk_drew ?_ | refine blk_alloc ?_ _)); exact BK101.out) Try.underlying25 rfl (by kernel_rfl)) rfl ?_
            exact ⟨by first | rfl | (simp [errW_none, errW_some] <;> rfl) | (simp [*, errW_none, errW_some] <;> rfl), by repeat (first | (with_reducible first | exact HB.out | apply below_alloc | apply pw_below_drewN | apply below_drew1 | refine below_set ?_ GE101.out) | exact HB.out)⟩
          · rw [if_neg c16] at H
            have c16b0 : decide (a2 < 1) = false := decide_eq_false c16
            clear c16
            by_cases c19 : a2 > a1
            · rw [if_pos c19] at H
              have c19b0 : decide (a1 < a2) = true := decide_eq_true c19
              clear c19
              simp only [Option.some.injEq, Prod.mk.injEq] at H
              obtain ⟨rfl, rfl⟩ := H
              go_enter Try.func28, Try.ntmps28
              go_wp2_with (first | ((with_reducible refine gate_dst (N := 6) rfl ?_); refine box_event ?hg (N := 6) ?hd (cs := #[.int .i64 0, .int .i64 0]) (t := 25) ?hr ?_; (case hd => rfl); (case hg => rfl); (case hr => first | (go_simp; done) | (go_simp; rfl)); intro gb101 hg w20 hbox hb; have n0_ := Aside0.mk (below_step (by repeat (first | (with_reducible first | exact HB.out | apply below_alloc | apply pw_below_drewN | apply below_drew1) | exact HB.out)) hb); have n1_ := Aside0.mk (hbox); have n2_ := Aside0.mk ((by rw [hg]; exact (below_size (by repeat (first | (with_reducible first | exact HB.out | apply below_alloc | apply pw_below_drewN | apply below_drew1) | exact HB.out))) : w.heap.size ≤ gb101)); have n3_ := Aside0.mk ((by rw [hg]; exact (below_size (by repeat (first | (with_reducible first | exact HB.out | apply below_alloc | apply pw_below_drewN | apply below_drew1) | exact HB.out))) : w.heap.size ≤ gb101)); clear HB; have HB := n0_; have BK101 := n1_; have GW101 := n2_; have GE101 := n3_; clear n0_ n1_ n2_ n3_; clear hb hbox hg; have hcz21_0 : w20.cell? ⟨gb101, 0, none⟩ = some (.int .i64 0) := (blk_cell BK101.out 0).trans rfl; have hcz21_1 : w20.cell? ⟨gb101, 1, none⟩ = some (.int .i64 0) := (blk_cell BK101.out 1).trans rfl; have hfz21_0 := blk_frozen BK101.out 0; have hfz21_1 := blk_frozen BK101.out 1))
              refine bodyPost_ret (results_cell_row rfl _ _ gb101 25 #[.int .i64 3, .int .i64 (-1)] (0, 0) _ rfl (by (with_reducible repeat (first | refine blk_drewN ?_ _ | refine blk_drew ?_ | refine blk_alloc ?_ _)); refine blk_put (cs := #[.int .i64 3, .int .i64 0]) ?_ 1 _ rfl; (with_reducible repeat (first | refine blk_drewN ?_ _ | refine blk_drew ?_ | refine blk_alloc ?_ _)); refine blk_put (cs := #[.int .i64 0, .int .i64 0]) ?_ 0 _ rfl; (with_reducible repeat (first | refine blk_drewN ?_ _ | refine blk_drew ?_ | refine blk_alloc ?_ _)); exact BK101.out) Try.underlying25 rfl (by kernel_rfl)) rfl ?_
              exact ⟨by first | rfl | (simp [errW_none, errW_some] <;> rfl) | (simp [*, errW_none, errW_some] <;> rfl), by repeat (first | (with_reducible first | exact HB.out | apply below_alloc | apply pw_below_drewN | apply below_drew1 | refine below_set ?_ GE101.out) | exact HB.out)⟩
            · rw [if_neg c19] at H
              have c19b0 : decide (a1 < a2) = false := decide_eq_false c19
              clear c19
              simp only [Option.some.injEq, Prod.mk.injEq] at H
              obtain ⟨rfl, rfl⟩ := H
              go_enter Try.func28, Try.ntmps28
              go_wp2_with (first | ((with_reducible refine gate_dst (N := 6) rfl ?_); refine box_event ?hg (N := 6) ?hd (cs := #[.int .i64 0, .int .i64 0]) (t := 25) ?hr ?_; (case hd => rfl); (case hg => rfl); (case hr => first | (go_simp; done) | (go_simp; rfl)); intro gb101 hg w22 hbox hb; have n0_ := Aside0.mk (below_step (by repeat (first | (with_reducible first | exact HB.out | apply below_alloc | apply pw_below_drewN | apply below_drew1) | exact HB.out)) hb); have n1_ := Aside0.mk (hbox); have n2_ := Aside0.mk ((by rw [hg]; exact (below_size (by repeat (first | (with_reducible first | exact HB.out | apply below_alloc | apply pw_below_drewN | apply below_drew1) | exact HB.out))) : w.heap.size ≤ gb101)); have n3_ := Aside0.mk ((by rw [hg]; exact (below_size (by repeat (first | (with_reducible first | exact HB.out | apply below_alloc | apply pw_below_drewN | apply below_drew1) | exact HB.out))) : w.heap.size ≤ gb101)); clear HB; have HB := n0_; have BK101 := n1_; have GW101 := n2_; have GE101 := n3_; clear n0_ n1_ n2_ n3_; clear hb hbox hg; have hcz23_0 : w22.cell? ⟨gb101, 0, none⟩ = some (.int .i64 0) := (blk_cell BK101.out 0).trans rfl; have hcz23_1 : w22.cell? ⟨gb101, 1, none⟩ = some (.int .i64 0) := (blk_cell BK101.out 1).trans rfl; have hfz23_0 := blk_frozen BK101.out 0; have hfz23_1 := blk_frozen BK101.out 1))
              refine bodyPost_ret (results_cell_row rfl _ _ gb101 25 #[.int .i64 0, .int .i64 0] (0, 0) _ rfl (by (with_reducible repeat (first | refine blk_drewN ?_ _ | refine blk_drew ?_ | refine blk_alloc ?_ _)); refine blk_put (cs := #[.int .i64 0, .int .i64 0]) ?_ 1 _ rfl; (with_reducible repeat (first | refine blk_drewN ?_ _ | refine blk_drew ?_ | refine blk_alloc ?_ _)); refine blk_put (cs := #[.int .i64 0, .int .i64 0]) ?_ 0 _ rfl; (with_reducible repeat (first | refine blk_drewN ?_ _ | refine blk_drew ?_ | refine blk_alloc ?_ _)); exact BK101.out) Try.underlying25 rfl (by kernel_rfl)) rfl ?_
              exact ⟨by first | rfl | (simp [errW_none, errW_some] <;> rfl) | (simp [*, errW_none, errW_some] <;> rfl), by repeat (first | (with_reducible first | exact HB.out | apply below_alloc | apply pw_below_drewN | apply below_drew1 | refine below_set ?_ GE101.out) | exact HB.out)⟩

end Go.Proofs.Ytepflpmngegdiaa.H
end
section
namespace Go.Proofs.Ytepflpmngegdiaa.H
open Go.RowKit Go.Proofs.YtepflpmngegdiaaW.PrintWords Go.Proofs.YtepflpmngegdiaaW.PrintLast Go.Proofs.YtepflpmngegdiaaW.PrintMore
set_option linter.unusedVariables false
set_option linter.unusedSimpArgs false
open Go.RowKit
attribute [local go_sem high] eqA25
def evOf (F : Farm) (e : S44) : Farm × Int := F.event e.f0 e.f1 e.f2 e.f3
/-- The events from number i on: the farm behind them, the first fault. -/
def evRun (F : Farm) : List S44 → Int → Farm × Int × Int
  | [], _ => (F, 0, 0)
  | e :: es, i => if (evOf F e).2 ≠ 0 then (F, (evOf F e).2, i) else evRun (evOf F e).1 es (i + 1)
abbrev sizesOk (jobs workers need : Int) : Prop := 0 ≤ jobs ∧ jobs ≤ 12 ∧ 1 ≤ workers ∧ workers ≤ 8 ∧ 1 ≤ need ∧ need ≤ workers
def replayF (jobs workers need : Int) (l : List S44) : Farm × Int × Int :=
  if ¬ sizesOk jobs workers need then (newFarm jobs workers need, 3, -1) else if 40 < l.length then (newFarm jobs workers need, 2, -1) else evRun (newFarm jobs workers need) l 0
theorem sizes_f (jobs workers need : Int) : workers_sizes.f jobs workers need = some (if sizesOk jobs workers need then (0, 0) else (3, -1)) := by
  unfold workers_sizes.f sizesOk
  by_cases h : 0 ≤ jobs ∧ jobs ≤ 12 ∧ 1 ≤ workers ∧ workers ≤ 8 ∧ 1 ≤ need ∧ need ≤ workers
  · rw [if_neg (by omega), if_neg (by omega), if_neg (by omega), if_neg (by omega), if_neg (by omega), if_neg (by omega), if_pos h]
  · rw [if_neg h]
    by_cases a : jobs < 0
    · rw [if_pos a]
    rw [if_neg a]
    by_cases a : jobs > 12
    · rw [if_pos a]
    rw [if_neg a]
    by_cases a : workers < 1
    · rw [if_pos a]
    rw [if_neg a]
    by_cases a : workers > 8
    · rw [if_pos a]
    rw [if_neg a]
    by_cases a : need < 1
    · rw [if_pos a]
    rw [if_neg a, if_pos (by omega)]
theorem mem_set_cases {l : List Int} {i : Nat} {x v : Int} (h : v ∈ l.set i x) : v = x ∨ v ∈ l := by
  rcases List.mem_or_eq_of_mem_set h with h | h
  · exact .inr h
  · exact .inl h
theorem Farm.WF.event {F : Farm} {J N : Nat} (h : F.WF J N) (k wk jb vl : Int) : (F.event k wk jb vl).1.WF J N := by
  have hset : ∀ x : Int, -2 ≤ x → x < J → ({ F with working := F.working.set wk.toNat x } : Farm).WF J N := fun x h1 h2 =>
    ⟨by simp [h.work], h.reps, h.rows, h.ress, fun v hv => by rcases mem_set_cases hv with rfl | hv; exact ⟨h1, h2⟩; exact h.vals v hv, h.n8, h.j12⟩
  unfold Farm.event
  by_cases hc : formCode F.results.length F.working.length k wk jb vl = 0
  · obtain ⟨k1, k2, wk0, wk1, hj, hj', hv, hv'⟩ := formCode_ok hc
    simp only [hc]
    rw [if_neg (by omega)]
    by_cases p1 : k = 1
    · rw [if_pos p1]
      obtain ⟨j0, j1, _⟩ := hj p1
      rw [h.ress] at j1
      split
      · exact h
      · split
        · exact h
        · exact hset jb (by omega) j1
    · rw [if_neg p1]
      have hJ := h.vals _ (rd_mem wk0 wk1)
      by_cases p2 : k = 2
      · rw [if_pos p2]
        split
        · exact h
        · rename_i hn
          refine ⟨by simp [Farm.report, h.work], by simp [Farm.report, h.reps], fun r hr => ?_, ?_, fun v hv => ?_, h.n8, h.j12⟩
          · simp only [Farm.report] at hr
            rcases List.mem_or_eq_of_mem_set hr with hr | hr
            · exact h.rows r hr
            · rw [hr, List.length_set, List.getD_eq_getElem?_getD, List.getElem?_eq_getElem (show (rd F.working wk).toNat < F.reports.length by rw [h.reps]; omega)]
              exact h.rows _ (List.getElem_mem _)
          · simp only [Farm.report]
            split
            · rw [List.length_set]; exact h.ress
            · exact h.ress
          · simp only [Farm.report] at hv
            rcases mem_set_cases hv with rfl | hv
            · omega
            · exact h.vals v hv
      · rw [if_neg p2]
        by_cases p3 : k = 3
        · rw [if_pos p3]
          split
          · exact h
          · exact hset (-2) (by omega) (by omega)
        · rw [if_neg p3]
          split
          · exact h
          · exact hset (-1) (by omega) (by omega)
  · simp only
    rw [if_pos hc]
    exact h
theorem newFarm_wf {jobs workers need : Int} (h : sizesOk jobs workers need) : (newFarm jobs workers need).WF jobs.toNat workers.toNat := by
  obtain ⟨h1, h2, h3, h4, _, _⟩ := h
  refine ⟨by simp [newFarm], by simp [newFarm], fun r hr => ?_, by simp [newFarm], fun v hv => ?_, by omega, by omega⟩
  · rw [List.eq_of_mem_replicate hr]; simp
  · rw [List.eq_of_mem_replicate hv]; omega
theorem FarmAt.lower {w : World} {B B' g : Nat} {F : Farm} (h : FarmAt w B g F) (hb : B' ≤ B) : FarmAt w B' g F := by
  obtain ⟨vw, vp, vs, okw, okp, oks, d1, d2, d3, hg, hB, h1, h2, h3⟩ := h
  exact ⟨vw, vp, vs, okw, okp, oks, d1, d2, d3, hg, by omega, Kd.R_lower h1 hb, Kd.S_lower h2 hb, Kd.R_lower h3 hb⟩
def ReplayPost (w : World) (r : Farm × Int × Int) (e : Ending) (w' : World) : Prop :=
  (r.2 ≠ (0, 0) → e = .returned (.tuple #[.pointer none, .agg #[.int .i64 r.2.1, .int .i64 r.2.2]])) ∧
  (r.2 = (0, 0) → ∃ g, e = .returned (.tuple #[.pointer (some ⟨g, 0, none⟩), .agg #[.int .i64 0, .int .i64 0]]) ∧ FarmAt w' w.heap.size g r.1) ∧ Below w.heap.size w w'
theorem rp_bad {w w' : World} {R : Farm × Int × Int} {F : Farm} {a b : Int} (hR : R = (F, a, b)) (ha : a ≠ 0) {e : Ending} (he : e = .returned (.tuple #[.pointer none, .agg #[.int .i64 a, .int .i64 b]])) (hb : Below w.heap.size w w') : ReplayPost w R e w' := by
  subst hR
  exact ⟨fun _ => he, fun h => absurd (congrArg Prod.fst h) ha, hb⟩
theorem rp_ok {w w' : World} {R : Farm × Int × Int} {F : Farm} (hR : R = (F, 0, 0)) (g : Nat) {e : Ending} (he : e = .returned (.tuple #[.pointer (some ⟨g, 0, none⟩), .agg #[.int .i64 0, .int .i64 0]])) (hf : FarmAt w' w.heap.size g F) (hb : Below w.heap.size w w') : ReplayPost w R e w' := by
  subst hR
  exact ⟨fun h => absurd rfl h, fun _ => ⟨g, he, hf⟩, hb⟩
theorem FarmAt.far {w : World} {B g b j : Nat} {F : Farm} {v : Value} (h : FarmAt w B g F) (hb : b < B) : FarmAt (w.setCell ⟨b, j, none⟩ v) B g F := by
  obtain ⟨vw, vp, vs, okw, okp, oks, d1, d2, d3, hg, hB, h1, h2, h3⟩ := h
  refine ⟨vw, vp, vs, fun k => okw k ∧ B ≤ k, fun k => okp k ∧ B ≤ k, fun k => oks k ∧ B ≤ k, fun k hk => ⟨fun h => (d1 k hk.1).1 h.1, fun h => (d1 k hk.1).2.1 h.1, (d1 k hk.1).2.2⟩, fun k hk => ⟨fun h => (d2 k hk.1).1 h.1, fun h => (d2 k hk.1).2.1 h.1, (d2 k hk.1).2.2⟩, fun k hk => ⟨fun h => (d3 k hk.1).1 h.1, fun h => (d3 k hk.1).2.1 h.1, (d3 k hk.1).2.2⟩, (Below.heap_setCell w ⟨b, j, none⟩ v g (show g ≠ b by omega)).trans hg, hB, ?_, ?_, ?_⟩
  · exact Kd.R_far (p := ⟨b, j, none⟩) (Kd.R_mono (Kd.R_bound h1) (fun k hk => ⟨hk.1, hk.2.1⟩)) (fun k hk => show k ≠ b by have := hk.2; omega) _
  · exact Kd.S_far (p := ⟨b, j, none⟩) (Kd.S_mono (Kd.S_bound h2) (fun k hk => ⟨hk.1, hk.2.1⟩)) (fun k hk => show k ≠ b by have := hk.2; omega) _
  · exact Kd.R_far (p := ⟨b, j, none⟩) (Kd.R_mono (Kd.R_bound h3) (fun k hk => ⟨hk.1, hk.2.1⟩)) (fun k hk => show k ≠ b by have := hk.2; omega) _
theorem drop_at (l : List S44) (k : Nat) (h : k < l.length) : l.drop k = rd_T44 l k :: l.drop (k + 1) := by
  rw [List.drop_eq_getElem_cons h]
  congr 1
  simp [rd_T44, List.getD_eq_getElem?_getD, h]
set_option maxHeartbeats 8000000 in
theorem replay_calls (jobs workers need : Int) (A3 : Option Addr) (c3 : Nat) (l : List S44) (w : World) (hr : Kd.C k44 w A3 l.length l) (hc : l.length ≤ c3) :
    Calls Try.prog 26 #[.int .i64 jobs, .int .i64 workers, .int .i64 need, .slice A3 l.length c3] w fun e w' => ReplayPost w (replayF jobs workers need l) e w' := by
  obtain ⟨R, hR⟩ : ∃ R, Aside0 (replayF jobs workers need l = R) := ⟨_, ⟨rfl⟩⟩
  rw [hR.out]
  have HR := Aside0.mk hr
  clear hr
  by_cases hs : sizesOk jobs workers need
  · have hf : workers_sizes.f jobs workers need = some (0, 0) := by rw [sizes_f, if_pos hs]
    have HF := Aside0.mk hf
    have HS := Aside0.mk hs
    clear hf hs
    go_enter Try.func26, Try.ntmps26
    go_upto_region 1 with (first | ((with_reducible refine gate_dst (N := 9) rfl ?_); refine box_event ?hg (N := 9) ?hd (cs := #[.int .i64 0, .int .i64 0]) (t := 25) ?hr ?_; (case hd => rfl); (case hg => rfl); (case hr => first | (go_simp; done) | (go_simp; rfl)); intro ga hg_ w1 hbox_ hb_; have HB1 := Aside0.mk hb_; have HGA := Aside0.mk hbox_; have HGa := Aside0.mk (Nat.le_of_eq hg_.symm); clear hb_ hbox_ hg_))
    go_upto_region 2 with (first | (go_at_call 28; (with_reducible refine (workers_sizes.calls _ _ _ _ _ _ HF.out).mono ?_); rintro e w2 ⟨rfl, hb2⟩; have HB2 := Aside0.mk hb2; clear hb2) | ((with_reducible refine gate_dst (N := 10) rfl ?_); refine box_event ?hg (N := 10) ?hd (cs := #[.int .i64 0, .int .i64 0]) (t := 25) ?hr ?_; (case hd => rfl); (case hg => rfl); (case hr => first | (go_simp; done) | (go_simp; rfl)); intro gb hg_ w3 hbox_ hb_; have HB3 := Aside0.mk hb_; have HGB := Aside0.mk hbox_; have HGb := Aside0.mk (Nat.le_of_eq hg_.symm); have zb0 : w3.cell? ⟨gb, 0, none⟩ = some (.int .i64 0) := (blk_cell HGB.out 0).trans rfl; have zb1 : w3.cell? ⟨gb, 1, none⟩ = some (.int .i64 0) := (blk_cell HGB.out 1).trans rfl; have zbf0 := blk_frozen HGB.out 0; have zbf1 := blk_frozen HGB.out 1; clear hb_ hbox_ hg_))
    clear zb0 zb1 zbf0 zbf1
    have HBa : Aside0 (Below w.heap.size w w3) := ⟨below_more (below_more HB1.out HB1.out.size HB2.out) (Nat.le_trans HB1.out.size HB2.out.size) HB3.out⟩
    have HGA3 : Aside0 (w3.heap[ga]? = some (.cells #[.int .i64 0, .int .i64 0] 25 (0, 0))) := ⟨(HB3.out.block ga (Nat.lt_of_lt_of_le (blk_lt HGA.out) HB2.out.size)).trans ((HB2.out.block ga (blk_lt HGA.out)).trans HGA.out)⟩
    have hgB : Aside0 (w.heap.size ≤ gb) := ⟨by have := HGb.out; have := HB1.out.size; have := HB2.out.size; omega⟩
    have hab : Aside0 (ga ≠ gb) := ⟨by have := HGb.out; have := blk_lt HGA.out; have := HB2.out.size; omega⟩
    have HGB4 : Aside0 (((w3.setCell ⟨gb, 0, none⟩ (.int .i64 (0))).setCell ⟨gb, 1, none⟩ (.int .i64 (0))).heap[gb]? = some (.cells #[.int .i64 (0), .int .i64 (0)] 25 (0, 0))) := ⟨blk_put (cs := #[.int .i64 (0), .int .i64 0]) (blk_put (cs := #[.int .i64 0, .int .i64 0]) HGB.out 0 _ rfl) 1 _ rfl⟩
    have HGA4 : Aside0 (((w3.setCell ⟨gb, 0, none⟩ (.int .i64 (0))).setCell ⟨gb, 1, none⟩ (.int .i64 (0))).heap[ga]? = some (.cells #[.int .i64 0, .int .i64 0] 25 (0, 0))) := ⟨(Below.heap_setCell _ ⟨gb, 1, none⟩ _ ga hab.out).trans ((Below.heap_setCell _ ⟨gb, 0, none⟩ _ ga hab.out).trans HGA3.out)⟩
    have HB4 : Aside0 (Below w.heap.size w ((w3.setCell ⟨gb, 0, none⟩ (.int .i64 (0))).setCell ⟨gb, 1, none⟩ (.int .i64 (0)))) := ⟨(HBa.out.setCell (p := ⟨gb, 0, none⟩) hgB.out _).setCell (p := ⟨gb, 1, none⟩) hgB.out _⟩
    have HR4 := Aside0.mk (Kd.C_below HR.out (HB4.out.mono (Nat.le_refl _)))
    generalize (w3.setCell ⟨gb, 0, none⟩ (.int .i64 (0))).setCell ⟨gb, 1, none⟩ (.int .i64 (0)) = w4 at *
    have hga : Aside0 (w.heap.size ≤ ga) := HGa
    clear HGa HB1 HB2 HB3 HGA HGB HGb HBa HGA3 hgB w1 w2 w3
    have y0 : w4.cell? ⟨gb, 0, none⟩ = some (.int .i64 (0)) := (blk_cell HGB4.out 0).trans rfl
    have y1 : w4.cell? ⟨gb, 1, none⟩ = some (.int .i64 (0)) := (blk_cell HGB4.out 1).trans rfl
    have x0 : w4.cell? ⟨ga, 0, none⟩ = some (.int .i64 0) := (blk_cell HGA4.out 0).trans rfl
    have x1 : w4.cell? ⟨ga, 1, none⟩ = some (.int .i64 0) := (blk_cell HGA4.out 1).trans rfl
    have xf0 := blk_frozen HGA4.out 0
    have xf1 := blk_frozen HGA4.out 1
    by_cases hl : 40 < l.length
    · have hRe : R = (newFarm jobs workers need, 2, -1) := by rw [← hR.out]; unfold replayF; rw [if_neg (by simpa using HS.out), if_pos hl]
      have HRe := Aside0.mk hRe
      have hlb : decide ((40 : Int) < (l.length : Int)) = true := decide_eq_true (by omega)
      clear hRe
      go_wp2
      refine bodyPost_ret (results_tc rfl _ _ ga 25 #[.int .i64 (2), .int .i64 (-1)] (0, 0) _ rfl (by (with_reducible repeat (first | refine blk_drewN ?_ _ | refine blk_drew ?_ | refine blk_alloc ?_ _)); exact blk_put (cs := #[.int .i64 (2), .int .i64 0]) (blk_put (cs := #[.int .i64 0, .int .i64 0]) (by (with_reducible repeat (first | refine blk_drewN ?_ _ | refine blk_drew ?_ | refine blk_alloc ?_ _)); exact HGA4.out) 0 _ rfl) 1 _ rfl) Try.underlying25 rfl (by kernel_rfl)) rfl ?_
      exact rp_bad HRe.out (by decide) rfl (by repeat (first | exact HB4.out | apply pw_below_drewN | apply below_drew1' | refine Below.setCell (p := ⟨ga, _, none⟩) ?_ hga.out _))
    · have hlb : decide ((40 : Int) < (l.length : Int)) = false := decide_eq_false (by omega)
      have hRe : R = evRun (newFarm jobs workers need) l 0 := by rw [← hR.out]; unfold replayF; rw [if_neg (by simpa using HS.out), if_neg hl]
      have HRe := Aside0.mk hRe
      clear hRe
      have HSo := HS.out
      have HW0 := Aside0.mk (newFarm_wf HSo)
      obtain ⟨J, hJ⟩ : ∃ J, J = jobs.toNat := ⟨_, rfl⟩
      obtain ⟨N, hN⟩ : ∃ N, N = workers.toNat := ⟨_, rfl⟩
      rw [← hJ, ← hN] at HW0
      clear hJ hN HSo
      obtain ⟨F0, hF0⟩ : ∃ F0, F0 = newFarm jobs workers need := ⟨_, rfl⟩
      have HRe0 := HRe.out
      rw [← hF0] at HW0 HRe0
      have HF0 := Aside0.mk hF0
      have HRE := Aside0.mk HRe0
      clear HRe HRe0 hF0
      go_upto_region 7 with (first | (go_at_call 29; (with_reducible refine (newFarm_calls jobs workers need _ ?s1 ?s2 ?s3 ?s4).mono ?_); (case s1 => exact HS.out.1); (case s2 => exact HS.out.2.1); (case s3 => exact HS.out.2.2.1); (case s4 => exact HS.out.2.2.2.1); rintro e w5 ⟨g, rfl, hf_, hb_⟩; have HF5 := Aside0.mk hf_; have HB5 := Aside0.mk hb_; clear hf_ hb_))
      rw [← HF0.out] at HF5
      clear y0 y1 x0 x1 xf0 xf1
      go_wp2
      go_loopw [33] (fun i wr => ∃ (k : Nat) (G : Farm), k ≤ l.length ∧ i = .int .i64 k ∧ Aside0 (evRun G (l.drop k) k = R) ∧ Aside0 (G.WF J N) ∧ Aside0 (FarmAt wr w4.heap.size g G) ∧ Aside0 (Below w4.heap.size w4 wr)) (fun i _ => l.length - (intOf i).toNat)
      case atStart => exact ⟨0, F0, Nat.zero_le _, rfl, ⟨by rw [HRE.out]; rfl⟩, HW0, HF5, HB5⟩
      case round =>
        clear HW0 HF5 HB5
        obtain ⟨k, G, hk, rfl, HE, HW, HG, HB⟩ := hrel
        have HGAr : Aside0 (wr.heap[ga]? = some (.cells #[.int .i64 0, .int .i64 0] 25 (0, 0))) := ⟨(HB.out.block ga (blk_lt HGA4.out)).trans HGA4.out⟩
        have HBr : Aside0 (Below w.heap.size w wr) := ⟨below_more HB4.out HB4.out.size HB.out⟩
        by_cases hlt : k < l.length
        · have HC := Kd.C_below HR4.out HB.out
          obtain ⟨ad, rfl, e0, e1, e2, e3⟩ := at_T44 HC (k : Int) (by omega) (by omega)
          rw [Int.toNat_natCast] at e0 e1 e2 e3
          clear HC
          generalize hEe : rd_T44 l (k : Int) = E at *
          have HEe := Aside0.mk hEe
          clear hEe
          obtain ⟨wo, rfl⟩ : ∃ wo : World, wo = wr := ⟨_, rfl⟩
          go_upto_region 10 with (first | ((with_reducible refine gate_dst (N := 13) rfl ?_); refine box_event ?hg (N := 13) ?hd (cs := #[.int .i64 0, .int .i64 0, .int .i64 0, .int .i64 0]) (t := 44) ?hr ?_; (case hd => rfl); (case hg => rfl); (case hr => first | (go_simp; done) | (go_simp; rfl)); intro gc hg_ w6 hbox_ hb_; have HB6 := Aside0.mk hb_; have HGC := Aside0.mk hbox_; have HGc := Aside0.mk (Nat.le_of_eq hg_.symm); have c0 : w6.cell? ⟨gc, 0, none⟩ = some (.int .i64 0) := (blk_cell HGC.out 0).trans rfl; have c1 : w6.cell? ⟨gc, 1, none⟩ = some (.int .i64 0) := (blk_cell HGC.out 1).trans rfl; have c2 : w6.cell? ⟨gc, 2, none⟩ = some (.int .i64 0) := (blk_cell HGC.out 2).trans rfl; have c3 : w6.cell? ⟨gc, 3, none⟩ = some (.int .i64 0) := (blk_cell HGC.out 3).trans rfl; have cf0 := blk_frozen HGC.out 0; have cf1 := blk_frozen HGC.out 1; have cf2 := blk_frozen HGC.out 2; have cf3 := blk_frozen HGC.out 3; clear hb_ hbox_ hg_))
          have HGC7 : Aside0 (((((w6.setCell ⟨gc, 0, none⟩ (.int .i64 E.f0)).setCell ⟨gc, 1, none⟩ (.int .i64 E.f1)).setCell ⟨gc, 2, none⟩ (.int .i64 E.f2)).setCell ⟨gc, 3, none⟩ (.int .i64 E.f3)).heap[gc]? = some (.cells #[.int .i64 E.f0, .int .i64 E.f1, .int .i64 E.f2, .int .i64 E.f3] 44 (0, 0))) := ⟨blk_put (cs := #[.int .i64 E.f0, .int .i64 E.f1, .int .i64 E.f2, .int .i64 0]) (blk_put (cs := #[.int .i64 E.f0, .int .i64 E.f1, .int .i64 0, .int .i64 0]) (blk_put (cs := #[.int .i64 E.f0, .int .i64 0, .int .i64 0, .int .i64 0]) (blk_put (cs := #[.int .i64 0, .int .i64 0, .int .i64 0, .int .i64 0]) HGC.out 0 _ rfl) 1 _ rfl) 2 _ rfl) 3 _ rfl⟩
          have HB7 : Aside0 (Below wo.heap.size wo ((((w6.setCell ⟨gc, 0, none⟩ (.int .i64 E.f0)).setCell ⟨gc, 1, none⟩ (.int .i64 E.f1)).setCell ⟨gc, 2, none⟩ (.int .i64 E.f2)).setCell ⟨gc, 3, none⟩ (.int .i64 E.f3))) := ⟨(((HB6.out.setCell (p := ⟨gc, 0, none⟩) HGc.out _).setCell (p := ⟨gc, 1, none⟩) HGc.out _).setCell (p := ⟨gc, 2, none⟩) HGc.out _).setCell (p := ⟨gc, 3, none⟩) HGc.out _⟩
          generalize ((((w6.setCell ⟨gc, 0, none⟩ (.int .i64 E.f0)).setCell ⟨gc, 1, none⟩ (.int .i64 E.f1)).setCell ⟨gc, 2, none⟩ (.int .i64 E.f2)).setCell ⟨gc, 3, none⟩ (.int .i64 E.f3)) = w7 at *
          clear c0 c1 c2 c3 cf0 cf1 cf2 cf3 HGC HB6 HGc e0 e1 e2 e3 w6
          have HG7 := Aside0.mk (HG.out.below HB7.out)
          have HGA7 : Aside0 (w7.heap[ga]? = some (.cells #[.int .i64 0, .int .i64 0] 25 (0, 0))) := ⟨(HB7.out.block ga (blk_lt HGAr.out)).trans HGAr.out⟩
          have HB47 : Aside0 (Below w4.heap.size w4 w7) := ⟨below_more HB.out HB.out.size HB7.out⟩
          have d0 : w7.cell? ⟨gc, 0, none⟩ = some (.int .i64 E.f0) := (blk_cell HGC7.out 0).trans rfl
          have d1 : w7.cell? ⟨gc, 1, none⟩ = some (.int .i64 E.f1) := (blk_cell HGC7.out 1).trans rfl
          have d2 : w7.cell? ⟨gc, 2, none⟩ = some (.int .i64 E.f2) := (blk_cell HGC7.out 2).trans rfl
          have d3 : w7.cell? ⟨gc, 3, none⟩ = some (.int .i64 E.f3) := (blk_cell HGC7.out 3).trans rfl
          obtain ⟨V, hV⟩ : ∃ V, Aside0 (G.event E.f0 E.f1 E.f2 E.f3 = V) := ⟨_, ⟨rfl⟩⟩
          have HWV := Aside0.mk (HW.out.event E.f0 E.f1 E.f2 E.f3)
          have HEq : Aside0 (evRun G (l.drop k) k = if V.2 ≠ 0 then (G, V.2, (k : Int)) else evRun V.1 (l.drop (k + 1)) ((k : Int) + 1)) := ⟨by rw [drop_at l k hlt, HEe.out]; show (if (evOf G E).2 ≠ 0 then (G, (evOf G E).2, (k : Int)) else evRun (evOf G E).1 (l.drop (k + 1)) ((k : Int) + 1)) = _; rw [show evOf G E = V from hV.out]⟩
          go_upto_region 11 with (first | (go_at_call 30; (with_reducible refine (event_calls G J N HW.out E.f0 E.f1 E.f2 E.f3 _ w4.heap.size g HG7.out).mono ?_); rintro e w8 ⟨rfl, hf_, hb_⟩; have HF8 := Aside0.mk hf_; have HB8 := Aside0.mk hb_; clear hf_ hb_))
          rw [hV.out] at HF8 HWV
          simp only [hV.out]
          have HB48 : Aside0 (Below w4.heap.size w4 w8) := ⟨HB47.out.trans HB8.out⟩
          have HGA8 : Aside0 (w8.heap[ga]? = some (.cells #[.int .i64 0, .int .i64 0] 25 (0, 0))) := ⟨(HB48.out.block ga (blk_lt HGA4.out)).trans HGA4.out⟩
          clear d0 d1 d2 d3 HG7 HGA7 HB47 HB8 HGC7 HB7 HG HB HGAr HBr
          obtain ⟨c, hc_⟩ : ∃ c, Aside0 (V.2 = c) := ⟨_, ⟨rfl⟩⟩
          simp only [hc_.out]
          by_cases hc0 : c = 0
          · subst hc0
            have HEn : Aside0 (evRun V.1 (l.drop (k + 1)) ((k + 1 : Nat) : Int) = R) := ⟨by have h_ := HE.out; rw [HEq.out, if_neg (by rw [hc_.out]; simp)] at h_; exact h_⟩
            go_wp2
            go_roundw
            case rel => exact ⟨k + 1, V.1, by omega, by go_num, HEn, HWV, HF8, HB48⟩
            case measure => simp [intOf]; omega
          · have hcb : (c != 0) = true := bne_iff_ne.mpr hc0
            have HRn : Aside0 (R = (G, c, (k : Int))) := ⟨by have h_ := HE.out; rw [HEq.out, if_pos (by rw [hc_.out]; exact hc0), hc_.out] at h_; exact h_.symm⟩
            have HC0 := Aside0.mk hc0
            clear hc0
            have HBw : Aside0 (Below w.heap.size w w8) := ⟨below_more HB4.out HB4.out.size HB48.out⟩
            have x0 : w8.cell? ⟨ga, 0, none⟩ = some (.int .i64 0) := (blk_cell HGA8.out 0).trans rfl
            have x1 : w8.cell? ⟨ga, 1, none⟩ = some (.int .i64 0) := (blk_cell HGA8.out 1).trans rfl
            have xf0 := blk_frozen HGA8.out 0
            have xf1 := blk_frozen HGA8.out 1
            go_wp2
            refine bodyPost_ret (results_tc rfl _ _ ga 25 #[.int .i64 c, .int .i64 (k : Int)] (0, 0) _ rfl (by (with_reducible repeat (first | refine blk_drewN ?_ _ | refine blk_drew ?_ | refine blk_alloc ?_ _)); exact blk_put (cs := #[.int .i64 c, .int .i64 0]) (blk_put (cs := #[.int .i64 0, .int .i64 0]) (by (with_reducible repeat (first | refine blk_drewN ?_ _ | refine blk_drew ?_ | refine blk_alloc ?_ _)); exact HGA8.out) 0 _ rfl) 1 _ rfl) Try.underlying25 rfl (by kernel_rfl)) rfl ?_
            exact rp_bad HRn.out HC0.out rfl ((HBw.out.setCell (p := ⟨ga, 0, none⟩) hga.out _).setCell (p := ⟨ga, 1, none⟩) hga.out _)
        · obtain rfl : k = l.length := by omega
          have HRn : Aside0 (R = (G, 0, 0)) := ⟨by have h_ := HE.out; rw [List.drop_length] at h_; exact h_.symm⟩
          have HGl := Aside0.mk (HG.out.far (b := ga) (j := 0) (v := .int .i64 0) (blk_lt HGA4.out))
          have HGl2 := Aside0.mk ((HGl.out.far (b := ga) (j := 1) (v := .int .i64 0) (blk_lt HGA4.out)).lower HB4.out.size)
          have x0 : wr.cell? ⟨ga, 0, none⟩ = some (.int .i64 0) := (blk_cell HGAr.out 0).trans rfl
          have x1 : wr.cell? ⟨ga, 1, none⟩ = some (.int .i64 0) := (blk_cell HGAr.out 1).trans rfl
          have xf0 := blk_frozen HGAr.out 0
          have xf1 := blk_frozen HGAr.out 1
          clear hk hlt HG HW HE HGl
          go_wp2
          refine bodyPost_ret (results_tc rfl _ _ ga 25 #[.int .i64 0, .int .i64 0] (0, 0) _ rfl (by (with_reducible repeat (first | refine blk_drewN ?_ _ | refine blk_drew ?_ | refine blk_alloc ?_ _)); exact blk_put (cs := #[.int .i64 0, .int .i64 0]) (blk_put (cs := #[.int .i64 0, .int .i64 0]) (by (with_reducible repeat (first | refine blk_drewN ?_ _ | refine blk_drew ?_ | refine blk_alloc ?_ _)); exact HGAr.out) 0 _ rfl) 1 _ rfl) Try.underlying25 rfl (by kernel_rfl)) rfl ?_
          exact rp_ok HRn.out g rfl HGl2.out ((HBr.out.setCell (p := ⟨ga, 0, none⟩) hga.out _).setCell (p := ⟨ga, 1, none⟩) hga.out _)
  · have hf : workers_sizes.f jobs workers need = some (3, -1) := by rw [sizes_f, if_neg hs]
    have HF := Aside0.mk hf
    have hRe : R = (newFarm jobs workers need, 3, -1) := by rw [← hR.out]; unfold replayF; rw [if_pos hs]
    have HRe := Aside0.mk hRe
    clear hf hs hRe
    go_enter Try.func26, Try.ntmps26
    go_upto_region 1 with (first | ((with_reducible refine gate_dst (N := 9) rfl ?_); refine box_event ?hg (N := 9) ?hd (cs := #[.int .i64 0, .int .i64 0]) (t := 25) ?hr ?_; (case hd => rfl); (case hg => rfl); (case hr => first | (go_simp; done) | (go_simp; rfl)); intro ga hg_ w1 hbox_ hb_; have HB1 := Aside0.mk hb_; have HGA := Aside0.mk hbox_; have HGa := Aside0.mk (Nat.le_of_eq hg_.symm); clear hb_ hbox_ hg_))
    go_upto_region 2 with (first | (go_at_call 28; (with_reducible refine (workers_sizes.calls _ _ _ _ _ _ HF.out).mono ?_); rintro e w2 ⟨rfl, hb2⟩; have HB2 := Aside0.mk hb2; clear hb2) | ((with_reducible refine gate_dst (N := 10) rfl ?_); refine box_event ?hg (N := 10) ?hd (cs := #[.int .i64 0, .int .i64 0]) (t := 25) ?hr ?_; (case hd => rfl); (case hg => rfl); (case hr => first | (go_simp; done) | (go_simp; rfl)); intro gb hg_ w3 hbox_ hb_; have HB3 := Aside0.mk hb_; have HGB := Aside0.mk hbox_; have HGb := Aside0.mk (Nat.le_of_eq hg_.symm); have zb0 : w3.cell? ⟨gb, 0, none⟩ = some (.int .i64 0) := (blk_cell HGB.out 0).trans rfl; have zb1 : w3.cell? ⟨gb, 1, none⟩ = some (.int .i64 0) := (blk_cell HGB.out 1).trans rfl; have zbf0 := blk_frozen HGB.out 0; have zbf1 := blk_frozen HGB.out 1; clear hb_ hbox_ hg_))
    clear zb0 zb1 zbf0 zbf1
    have HBa : Aside0 (Below w.heap.size w w3) := ⟨below_more (below_more HB1.out HB1.out.size HB2.out) (Nat.le_trans HB1.out.size HB2.out.size) HB3.out⟩
    have HGA3 : Aside0 (w3.heap[ga]? = some (.cells #[.int .i64 0, .int .i64 0] 25 (0, 0))) := ⟨(HB3.out.block ga (Nat.lt_of_lt_of_le (blk_lt HGA.out) HB2.out.size)).trans ((HB2.out.block ga (blk_lt HGA.out)).trans HGA.out)⟩
    have hgB : Aside0 (w.heap.size ≤ gb) := ⟨by have := HGb.out; have := HB1.out.size; have := HB2.out.size; omega⟩
    have hab : Aside0 (ga ≠ gb) := ⟨by have := HGb.out; have := blk_lt HGA.out; have := HB2.out.size; omega⟩
    have HGB4 : Aside0 (((w3.setCell ⟨gb, 0, none⟩ (.int .i64 (3))).setCell ⟨gb, 1, none⟩ (.int .i64 (-1))).heap[gb]? = some (.cells #[.int .i64 (3), .int .i64 (-1)] 25 (0, 0))) := ⟨blk_put (cs := #[.int .i64 (3), .int .i64 0]) (blk_put (cs := #[.int .i64 0, .int .i64 0]) HGB.out 0 _ rfl) 1 _ rfl⟩
    have HGA4 : Aside0 (((w3.setCell ⟨gb, 0, none⟩ (.int .i64 (3))).setCell ⟨gb, 1, none⟩ (.int .i64 (-1))).heap[ga]? = some (.cells #[.int .i64 0, .int .i64 0] 25 (0, 0))) := ⟨(Below.heap_setCell _ ⟨gb, 1, none⟩ _ ga hab.out).trans ((Below.heap_setCell _ ⟨gb, 0, none⟩ _ ga hab.out).trans HGA3.out)⟩
    have HB4 : Aside0 (Below w.heap.size w ((w3.setCell ⟨gb, 0, none⟩ (.int .i64 (3))).setCell ⟨gb, 1, none⟩ (.int .i64 (-1)))) := ⟨(HBa.out.setCell (p := ⟨gb, 0, none⟩) hgB.out _).setCell (p := ⟨gb, 1, none⟩) hgB.out _⟩
    have HR4 := Aside0.mk (Kd.C_below HR.out (HB4.out.mono (Nat.le_refl _)))
    generalize (w3.setCell ⟨gb, 0, none⟩ (.int .i64 (3))).setCell ⟨gb, 1, none⟩ (.int .i64 (-1)) = w4 at *
    have hga : Aside0 (w.heap.size ≤ ga) := HGa
    clear HGa HB1 HB2 HB3 HGA HGB HGb HBa HGA3 hgB w1 w2 w3
    have y0 : w4.cell? ⟨gb, 0, none⟩ = some (.int .i64 (3)) := (blk_cell HGB4.out 0).trans rfl
    have y1 : w4.cell? ⟨gb, 1, none⟩ = some (.int .i64 (-1)) := (blk_cell HGB4.out 1).trans rfl
    have x0 : w4.cell? ⟨ga, 0, none⟩ = some (.int .i64 0) := (blk_cell HGA4.out 0).trans rfl
    have x1 : w4.cell? ⟨ga, 1, none⟩ = some (.int .i64 0) := (blk_cell HGA4.out 1).trans rfl
    have xf0 := blk_frozen HGA4.out 0
    have xf1 := blk_frozen HGA4.out 1
    go_wp2
    go_region
    all_goals go_wp2
    all_goals refine bodyPost_ret (results_tc rfl _ _ ga 25 #[.int .i64 3, .int .i64 (-1)] (0, 0) _ rfl (by (with_reducible repeat (first | refine blk_drewN ?_ _ | refine blk_drew ?_ | refine blk_alloc ?_ _)); exact blk_put (cs := #[.int .i64 3, .int .i64 0]) (blk_put (cs := #[.int .i64 0, .int .i64 0]) (by (with_reducible repeat (first | refine blk_drewN ?_ _ | refine blk_drew ?_ | refine blk_alloc ?_ _)); exact HGA4.out) 0 _ rfl) 1 _ rfl) Try.underlying25 rfl (by kernel_rfl)) rfl ?_
    all_goals exact rp_bad HRe.out (by decide) rfl (by repeat (first | exact HB4.out | apply pw_below_drewN | apply below_drew1' | refine Below.setCell (p := ⟨ga, _, none⟩) ?_ hga.out _))
end Go.Proofs.Ytepflpmngegdiaa.H
end
section
namespace Go.Proofs.Ytepflpmngegdiaa.H
open Go.RowKit Go.Proofs.YtepflpmngegdiaaW.PrintWords Go.Proofs.YtepflpmngegdiaaW.PrintLast Go.Proofs.YtepflpmngegdiaaW.PrintMore
set_option linter.unusedVariables false
set_option linter.unusedSimpArgs false
open Go.RowKit
attribute [local go_sem high] eqA25
theorem evRun_code : ∀ (l : List S44) (F : Farm) (i : Int), (evRun F l i).2.1 ≠ 0 ∨ ((evRun F l i).2.1 = 0 ∧ (evRun F l i).2.2 = 0)
  | [], _, _ => .inr ⟨rfl, rfl⟩
  | e :: es, F, i => by
    unfold evRun
    split
    · rename_i h
      exact .inl h
    · exact evRun_code es _ _
theorem replayF_code (a0 a1 a2 : Int) (l : List S44) : (replayF a0 a1 a2 l).2.1 ≠ 0 ∨ ((replayF a0 a1 a2 l).2.1 = 0 ∧ (replayF a0 a1 a2 l).2.2 = 0) := by
  unfold replayF
  split
  · exact .inl (by simp)
  split
  · exact .inl (by simp)
  · exact evRun_code _ _ _
theorem evRun_wf {J N : Nat} : ∀ (l : List S44) (F : Farm) (i : Int), F.WF J N → (evRun F l i).1.WF J N
  | [], _, _, h => h
  | e :: es, F, i, h => by
    unfold evRun
    split
    · exact h
    · exact evRun_wf es _ _ (h.event _ _ _ _)
theorem replayF_wf {a0 a1 a2 : Int} {l : List S44} (h : (replayF a0 a1 a2 l).2.1 = 0) : sizesOk a0 a1 a2 ∧ l.length ≤ 40 ∧ (replayF a0 a1 a2 l).1.WF a0.toNat a1.toNat := by
  unfold replayF at h ⊢
  by_cases hs : sizesOk a0 a1 a2
  · rw [if_neg (by simpa using hs)] at h ⊢
    by_cases hl : 40 < l.length
    · rw [if_pos hl] at h
      simp at h
    · rw [if_neg hl]
      exact ⟨hs, by omega, evRun_wf _ _ _ (newFarm_wf hs)⟩
  · rw [if_pos hs] at h
    simp at h
theorem FarmAt.vres {w : World} {B g : Nat} {F : Farm} (h : FarmAt w B g F) : ∃ A c, w.cell? ⟨g, 3, none⟩ = some (.slice A F.results.length c) ∧ Kd.R (Kd.int .i64) 3 w B (fun _ => True) (.slice A F.results.length c) F.results := by
  obtain ⟨vw, vp, vs, okw, okp, oks, d1, d2, d3, hg, hB, h1, h2, h3⟩ := h
  obtain ⟨A, c, rfl⟩ := Kd.R_slice h3
  exact ⟨A, c, (blk_cell hg 3).trans rfl, Kd.R_mono h3 (fun _ _ => trivial)⟩
theorem FarmAt.vrep {w : World} {B g : Nat} {F : Farm} (h : FarmAt w B g F) (j : Int) (j0 : 0 ≤ j) (j1 : j < F.reports.length) :
    ∃ bp cp A c, w.cell? ⟨g, 2, none⟩ = some (.slice (some ⟨bp, 0, none⟩) F.reports.length cp) ∧ w.cell? ⟨bp, j.toNat, none⟩ = some (.slice A (F.reports.getD j.toNat []).length c) ∧ Kd.R (Kd.int .i64) 3 w B (fun _ => True) (.slice A (F.reports.getD j.toNat []).length c) (F.reports.getD j.toNat []) := by
  obtain ⟨vw, vp, vs, okw, okp, oks, d1, d2, d3, hg, hB, h1w, h2, h3⟩ := h
  obtain ⟨bp, cp, rfl, hb, hlt, cells, hc⟩ := Kd.S_form h2 (by omega)
  obtain ⟨oki, c, hcl, ⟨v, rfl, hR⟩, hcc, hoki, back⟩ := Kd.S_borrow h2 ([] : List Int) j j0 j1
  obtain ⟨A, cj, rfl⟩ := Kd.R_slice hR
  refine ⟨bp, cp, A, cj, (blk_cell hg 2).trans rfl, ?_, Kd.R_mono hR (fun _ _ => trivial)⟩
  have h4 := hcc 0 _ rfl
  rw [add_plain, Nat.add_zero, show (Kd.slice 3 (Kd.int .i64)).sz = 1 from rfl, Nat.mul_one] at h4
  exact h4
theorem R_farI {w : World} {B b j : Nat} {u v : Value} {xs : List Int} (h : Kd.R (Kd.int .i64) 3 w B (fun _ => True) v xs) (hb : b < B) : Kd.R (Kd.int .i64) 3 (w.setCell ⟨b, j, none⟩ u) B (fun _ => True) v xs :=
  Kd.R_mono (Kd.R_far (p := ⟨b, j, none⟩) (Kd.R_mono (Kd.R_bound h) (ok' := fun k => B ≤ k) (fun k hk => hk.2.1)) (fun k hk => show k ≠ b by omega) u) (fun _ _ => trivial)
def workers_Play.f (a0 : Int) (a1 : Int) (a2 : Int) (l3 : List (S44)) : Option (List Int × Int × Int) :=
  let r := replayF a0 a1 a2 l3
  if r.2.1 = 0 then some (r.1.results, 0, 0) else some ([], r.2.1, r.2.2)
set_option maxHeartbeats 8000000 in
theorem workers_Play.calls (a0 : Int) (a1 : Int) (a2 : Int) (A3 : Option Addr) (c3 : Nat) (l3 : List (S44)) (r1 : List Int) (r2 : Int) (r3 : Int) (w : World) (hr3 : Kd.C k44 w A3 l3.length l3) (hc3 : l3.length ≤ c3) (h : workers_Play.f a0 a1 a2 l3 = some (r1, r2, r3)) :
    Calls Try.prog 11 #[.int .i64 a0, .int .i64 a1, .int .i64 a2, .slice A3 l3.length c3] w fun e w' => ∃ v0_ : Value, e = .returned (.tuple #[v0_, .agg #[.int .i64 r2, .int .i64 r3]]) ∧ Kd.R (Kd.int .i64) 3 w' w.heap.size (fun _ => True) v0_ r1 ∧ Below w.heap.size w w' := by
  obtain ⟨R, hR⟩ : ∃ R, Aside0 (replayF a0 a1 a2 l3 = R) := ⟨_, ⟨rfl⟩⟩
  have HR := Aside0.mk hr3
  clear hr3
  obtain ⟨c, hcc⟩ : ∃ c, Aside0 (R.2.1 = c) := ⟨_, ⟨rfl⟩⟩
  obtain ⟨i, hii⟩ : ∃ i, Aside0 (R.2.2 = i) := ⟨_, ⟨rfl⟩⟩
  have HR2 : Aside0 (R.2 = (c, i)) := ⟨by rw [← hcc.out, ← hii.out]⟩
  have HOK : Aside0 (c ≠ 0 ∨ (c = 0 ∧ i = 0)) := ⟨by have h_ := replayF_code a0 a1 a2 l3; rw [hR.out, HR2.out] at h_; exact h_⟩
  by_cases hc0 : c = 0
  · subst hc0
    obtain rfl : i = 0 := by rcases HOK.out with h_ | h_; exact absurd rfl h_; exact h_.2
    clear HOK hcc hii
    obtain ⟨rfl, rfl, rfl⟩ : R.1.results = r1 ∧ 0 = r2 ∧ 0 = r3 := by unfold workers_Play.f at h; rw [hR.out] at h; simp only [HR2.out, if_true, Option.some.injEq, Prod.mk.injEq] at h; exact h
    clear h
    go_enter Try.func11, Try.ntmps11
    go_upto_region 1 with (first | ((with_reducible refine gate_dst (N := 9) rfl ?_); refine box_event ?hg (N := 9) ?hd (cs := #[.int .i64 0, .int .i64 0]) (t := 25) ?hr ?_; (case hd => rfl); (case hg => rfl); (case hr => first | (go_simp; done) | (go_simp; rfl)); intro ga hg_ w1 hbox_ hb_; have HB1 := Aside0.mk hb_; have HGA := Aside0.mk hbox_; have HGa := Aside0.mk (Nat.le_of_eq hg_.symm); have z0ga : w1.cell? ⟨ga, 0, none⟩ = some (.int .i64 0) := (blk_cell HGA.out 0).trans rfl; have z1ga : w1.cell? ⟨ga, 1, none⟩ = some (.int .i64 0) := (blk_cell HGA.out 1).trans rfl; have zf0ga := blk_frozen HGA.out 0; have zf1ga := blk_frozen HGA.out 1; clear hb_ hbox_ hg_))
    clear z0ga z1ga zf0ga zf1ga
    go_upto_region 2 with (first | (go_at_call 26; (with_reducible refine (replay_calls a0 a1 a2 A3 c3 l3 _ (Kd.C_below HR.out HB1.out) hc3).mono ?_); rintro e w2 ⟨hp1_, hp2_, hb2_⟩; have HB2 := Aside0.mk hb2_; clear hb2_; rw [hR.out] at hp1_ hp2_; obtain ⟨g, rfl, hf_⟩ := hp2_ (by rw [HR2.out]); have HF2 := Aside0.mk hf_; clear hf_ hp1_ hp2_; (try simp only [HR2.out])) | ((with_reducible refine gate_dst (N := 11) rfl ?_); refine box_event ?hg (N := 11) ?hd (cs := #[.int .i64 0, .int .i64 0]) (t := 25) ?hr ?_; (case hd => rfl); (case hg => rfl); (case hr => first | (go_simp; done) | (go_simp; rfl)); intro gb hg_ w3 hbox_ hb_; have HB3 := Aside0.mk hb_; have HGB := Aside0.mk hbox_; have HGb := Aside0.mk (Nat.le_of_eq hg_.symm); have z0gb : w3.cell? ⟨gb, 0, none⟩ = some (.int .i64 0) := (blk_cell HGB.out 0).trans rfl; have z1gb : w3.cell? ⟨gb, 1, none⟩ = some (.int .i64 0) := (blk_cell HGB.out 1).trans rfl; have zf0gb := blk_frozen HGB.out 0; have zf1gb := blk_frozen HGB.out 1; clear hb_ hbox_ hg_))
    clear z0gb z1gb zf0gb zf1gb
    have HB12 : Aside0 (Below w.heap.size w w2) := ⟨below_more HB1.out HB1.out.size HB2.out⟩
    have HBa : Aside0 (Below w.heap.size w w3) := ⟨below_more HB12.out HB12.out.size HB3.out⟩
    have HGA3 : Aside0 (w3.heap[ga]? = some (.cells #[.int .i64 0, .int .i64 0] 25 (0, 0))) := ⟨(HB3.out.block ga (Nat.lt_of_lt_of_le (blk_lt HGA.out) HB2.out.size)).trans ((HB2.out.block ga (blk_lt HGA.out)).trans HGA.out)⟩
    have hgB : Aside0 (w.heap.size ≤ gb) := ⟨by have := HGb.out; have := HB12.out.size; omega⟩
    have hab : Aside0 (ga ≠ gb) := ⟨by have := HGb.out; have := blk_lt HGA.out; have := HB2.out.size; omega⟩
    have HF3 := Aside0.mk (HF2.out.below HB3.out)
    have HB24 : Aside0 (Below w2.heap.size w2 ((w3.setCell ⟨gb, 0, none⟩ (.int .i64 0)).setCell ⟨gb, 1, none⟩ (.int .i64 0))) := ⟨(HB3.out.setCell (p := ⟨gb, 0, none⟩) HGb.out _).setCell (p := ⟨gb, 1, none⟩) HGb.out _⟩
    have HF4 := Aside0.mk ((HF2.out.below HB24.out).lower HB1.out.size)
    have HFa := Aside0.mk (((HF2.out.below HB24.out).far (b := ga) (j := 0) (v := .int .i64 0) (blk_lt HGA.out)).lower HB1.out.size)
    clear HFa
    have hgaf : Aside0 (ga < w1.heap.size) := ⟨blk_lt HGA.out⟩
    have HF1 := Aside0.mk (HF2.out.below HB24.out)
    clear HF3 HF2 HB24
    have HGB4 : Aside0 (((w3.setCell ⟨gb, 0, none⟩ (.int .i64 0)).setCell ⟨gb, 1, none⟩ (.int .i64 0)).heap[gb]? = some (.cells #[.int .i64 0, .int .i64 0] 25 (0, 0))) := ⟨blk_put (cs := #[.int .i64 0, .int .i64 0]) (blk_put (cs := #[.int .i64 0, .int .i64 0]) HGB.out 0 _ rfl) 1 _ rfl⟩
    have HGA4 : Aside0 (((w3.setCell ⟨gb, 0, none⟩ (.int .i64 0)).setCell ⟨gb, 1, none⟩ (.int .i64 0)).heap[ga]? = some (.cells #[.int .i64 0, .int .i64 0] 25 (0, 0))) := ⟨(Below.heap_setCell _ ⟨gb, 1, none⟩ _ ga hab.out).trans ((Below.heap_setCell _ ⟨gb, 0, none⟩ _ ga hab.out).trans HGA3.out)⟩
    have HB4 : Aside0 (Below w.heap.size w ((w3.setCell ⟨gb, 0, none⟩ (.int .i64 0)).setCell ⟨gb, 1, none⟩ (.int .i64 0))) := ⟨(HBa.out.setCell (p := ⟨gb, 0, none⟩) hgB.out _).setCell (p := ⟨gb, 1, none⟩) hgB.out _⟩
    generalize ((w3.setCell ⟨gb, 0, none⟩ (.int .i64 0)).setCell ⟨gb, 1, none⟩ (.int .i64 0)) = w4 at *
    have hga := HGa
    clear HB2 HB3 HGA HGB HGb HGa HBa HGA3 hgB HB12
    have y0 : w4.cell? ⟨gb, 0, none⟩ = some (.int .i64 0) := (blk_cell HGB4.out 0).trans rfl
    have y1 : w4.cell? ⟨gb, 1, none⟩ = some (.int .i64 0) := (blk_cell HGB4.out 1).trans rfl
    have x0 : w4.cell? ⟨ga, 0, none⟩ = some (.int .i64 0) := (blk_cell HGA4.out 0).trans rfl
    have x1 : w4.cell? ⟨ga, 1, none⟩ = some (.int .i64 0) := (blk_cell HGA4.out 1).trans rfl
    have xf0 := blk_frozen HGA4.out 0
    have xf1 := blk_frozen HGA4.out 1
    obtain ⟨A, cA, q, HV⟩ := HF1.out.vres
    have HV1 := Aside0.mk (Kd.R_lower (R_farI (b := ga) (j := 1) (u := .int .i64 0) (R_farI (b := ga) (j := 0) (u := .int .i64 0) HV hgaf.out) hgaf.out) HB1.out.size)
    clear HV
    go_wp2
    refine bodyPost_ret (results_tc rfl _ _ ga 25 #[.int .i64 0, .int .i64 0] (0, 0) _ rfl (by (with_reducible repeat (first | refine blk_drewN ?_ _ | refine blk_drew ?_ | refine blk_alloc ?_ _)); exact blk_put (cs := #[.int .i64 0, .int .i64 0]) (blk_put (cs := #[.int .i64 0, .int .i64 0]) (by (with_reducible repeat (first | refine blk_drewN ?_ _ | refine blk_drew ?_ | refine blk_alloc ?_ _)); exact HGA4.out) 0 _ rfl) 1 _ rfl) Try.underlying25 rfl (by kernel_rfl)) rfl ?_
    exact ⟨_, rfl, HV1.out, by repeat (first | exact HB4.out | apply pw_below_drewN | apply below_drew1' | refine Below.setCell (p := ⟨ga, _, none⟩) ?_ hga.out _)⟩
  · have HC0 := Aside0.mk hc0
    have hcb : (c == 0) = false := beq_eq_false_iff_ne.mpr hc0
    obtain ⟨rfl, rfl, rfl⟩ : [] = r1 ∧ c = r2 ∧ i = r3 := by unfold workers_Play.f at h; rw [hR.out] at h; simp only [HR2.out] at h; rw [if_neg HC0.out] at h; simpa using h
    clear h hc0
    go_enter Try.func11, Try.ntmps11
    go_upto_region 1 with (first | ((with_reducible refine gate_dst (N := 9) rfl ?_); refine box_event ?hg (N := 9) ?hd (cs := #[.int .i64 0, .int .i64 0]) (t := 25) ?hr ?_; (case hd => rfl); (case hg => rfl); (case hr => first | (go_simp; done) | (go_simp; rfl)); intro ga hg_ w1 hbox_ hb_; have HB1 := Aside0.mk hb_; have HGA := Aside0.mk hbox_; have HGa := Aside0.mk (Nat.le_of_eq hg_.symm); have z0ga : w1.cell? ⟨ga, 0, none⟩ = some (.int .i64 0) := (blk_cell HGA.out 0).trans rfl; have z1ga : w1.cell? ⟨ga, 1, none⟩ = some (.int .i64 0) := (blk_cell HGA.out 1).trans rfl; have zf0ga := blk_frozen HGA.out 0; have zf1ga := blk_frozen HGA.out 1; clear hb_ hbox_ hg_))
    clear z0ga z1ga zf0ga zf1ga
    go_upto_region 2 with (first | (go_at_call 26; (with_reducible refine (replay_calls a0 a1 a2 A3 c3 l3 _ (Kd.C_below HR.out HB1.out) hc3).mono ?_); rintro e w2 ⟨hp1_, hp2_, hb2_⟩; have HB2 := Aside0.mk hb2_; clear hb2_; rw [hR.out] at hp1_ hp2_; obtain rfl := hp1_ (by rw [HR2.out]; exact fun h => HC0.out (congrArg Prod.fst h)); clear hp1_ hp2_; (try simp only [HR2.out])) | ((with_reducible refine gate_dst (N := 11) rfl ?_); refine box_event ?hg (N := 11) ?hd (cs := #[.int .i64 0, .int .i64 0]) (t := 25) ?hr ?_; (case hd => rfl); (case hg => rfl); (case hr => first | (go_simp; done) | (go_simp; rfl)); intro gb hg_ w3 hbox_ hb_; have HB3 := Aside0.mk hb_; have HGB := Aside0.mk hbox_; have HGb := Aside0.mk (Nat.le_of_eq hg_.symm); have z0gb : w3.cell? ⟨gb, 0, none⟩ = some (.int .i64 0) := (blk_cell HGB.out 0).trans rfl; have z1gb : w3.cell? ⟨gb, 1, none⟩ = some (.int .i64 0) := (blk_cell HGB.out 1).trans rfl; have zf0gb := blk_frozen HGB.out 0; have zf1gb := blk_frozen HGB.out 1; clear hb_ hbox_ hg_))
    clear z0gb z1gb zf0gb zf1gb
    have HB12 : Aside0 (Below w.heap.size w w2) := ⟨below_more HB1.out HB1.out.size HB2.out⟩
    have HBa : Aside0 (Below w.heap.size w w3) := ⟨below_more HB12.out HB12.out.size HB3.out⟩
    have HGA3 : Aside0 (w3.heap[ga]? = some (.cells #[.int .i64 0, .int .i64 0] 25 (0, 0))) := ⟨(HB3.out.block ga (Nat.lt_of_lt_of_le (blk_lt HGA.out) HB2.out.size)).trans ((HB2.out.block ga (blk_lt HGA.out)).trans HGA.out)⟩
    have hgB : Aside0 (w.heap.size ≤ gb) := ⟨by have := HGb.out; have := HB12.out.size; omega⟩
    have hab : Aside0 (ga ≠ gb) := ⟨by have := HGb.out; have := blk_lt HGA.out; have := HB2.out.size; omega⟩
    have HGB4 : Aside0 (((w3.setCell ⟨gb, 0, none⟩ (.int .i64 c)).setCell ⟨gb, 1, none⟩ (.int .i64 i)).heap[gb]? = some (.cells #[.int .i64 c, .int .i64 i] 25 (0, 0))) := ⟨blk_put (cs := #[.int .i64 c, .int .i64 0]) (blk_put (cs := #[.int .i64 0, .int .i64 0]) HGB.out 0 _ rfl) 1 _ rfl⟩
    have HGA4 : Aside0 (((w3.setCell ⟨gb, 0, none⟩ (.int .i64 c)).setCell ⟨gb, 1, none⟩ (.int .i64 i)).heap[ga]? = some (.cells #[.int .i64 0, .int .i64 0] 25 (0, 0))) := ⟨(Below.heap_setCell _ ⟨gb, 1, none⟩ _ ga hab.out).trans ((Below.heap_setCell _ ⟨gb, 0, none⟩ _ ga hab.out).trans HGA3.out)⟩
    have HB4 : Aside0 (Below w.heap.size w ((w3.setCell ⟨gb, 0, none⟩ (.int .i64 c)).setCell ⟨gb, 1, none⟩ (.int .i64 i))) := ⟨(HBa.out.setCell (p := ⟨gb, 0, none⟩) hgB.out _).setCell (p := ⟨gb, 1, none⟩) hgB.out _⟩
    generalize ((w3.setCell ⟨gb, 0, none⟩ (.int .i64 c)).setCell ⟨gb, 1, none⟩ (.int .i64 i)) = w4 at *
    have hga := HGa
    clear HB2 HB3 HGA HGB HGb HGa HBa HGA3 hgB HB12
    have y0 : w4.cell? ⟨gb, 0, none⟩ = some (.int .i64 c) := (blk_cell HGB4.out 0).trans rfl
    have y1 : w4.cell? ⟨gb, 1, none⟩ = some (.int .i64 i) := (blk_cell HGB4.out 1).trans rfl
    have x0 : w4.cell? ⟨ga, 0, none⟩ = some (.int .i64 0) := (blk_cell HGA4.out 0).trans rfl
    have x1 : w4.cell? ⟨ga, 1, none⟩ = some (.int .i64 0) := (blk_cell HGA4.out 1).trans rfl
    have xf0 := blk_frozen HGA4.out 0
    have xf1 := blk_frozen HGA4.out 1
    go_wp2
    go_region
    all_goals go_wp2
    all_goals refine bodyPost_ret (results_tc rfl _ _ ga 25 #[.int .i64 c, .int .i64 i] (0, 0) _ rfl (by (with_reducible repeat (first | refine blk_drewN ?_ _ | refine blk_drew ?_ | refine blk_alloc ?_ _)); exact blk_put (cs := #[.int .i64 c, .int .i64 0]) (blk_put (cs := #[.int .i64 0, .int .i64 0]) (by (with_reducible repeat (first | refine blk_drewN ?_ _ | refine blk_drew ?_ | refine blk_alloc ?_ _)); exact HGA4.out) 0 _ rfl) 1 _ rfl) Try.underlying25 rfl (by kernel_rfl)) rfl ?_
    all_goals exact ⟨_, rfl, Kd.R_nil _ _ _ _ _, by repeat (first | exact HB4.out | apply pw_below_drewN | apply below_drew1' | refine Below.setCell (p := ⟨ga, _, none⟩) ?_ hga.out _)⟩
def workers_Reports.f (a0 : Int) (a1 : Int) (a2 : Int) (l3 : List (S44)) (a4 : Int) : Option (List Int × Int × Int) :=
  let r := replayF a0 a1 a2 l3
  if r.2.1 = 0 then (if a4 < 0 ∨ a0 ≤ a4 then some ([], 3, -2) else some (r.1.reports.getD a4.toNat [], 0, 0)) else some ([], r.2.1, r.2.2)
set_option maxHeartbeats 8000000 in
theorem workers_Reports.calls (a0 : Int) (a1 : Int) (a2 : Int) (A3 : Option Addr) (c3 : Nat) (l3 : List (S44)) (a4 : Int) (r1 : List Int) (r2 : Int) (r3 : Int) (w : World) (hr3 : Kd.C k44 w A3 l3.length l3) (hc3 : l3.length ≤ c3) (h : workers_Reports.f a0 a1 a2 l3 a4 = some (r1, r2, r3)) :
    Calls Try.prog 15 #[.int .i64 a0, .int .i64 a1, .int .i64 a2, .slice A3 l3.length c3, .int .i64 a4] w fun e w' => ∃ v0_ : Value, e = .returned (.tuple #[v0_, .agg #[.int .i64 r2, .int .i64 r3]]) ∧ Kd.R (Kd.int .i64) 3 w' w.heap.size (fun _ => True) v0_ r1 ∧ Below w.heap.size w w' := by
  obtain ⟨R, hR⟩ : ∃ R, Aside0 (replayF a0 a1 a2 l3 = R) := ⟨_, ⟨rfl⟩⟩
  have HR := Aside0.mk hr3
  clear hr3
  obtain ⟨c, hcc⟩ : ∃ c, Aside0 (R.2.1 = c) := ⟨_, ⟨rfl⟩⟩
  obtain ⟨i, hii⟩ : ∃ i, Aside0 (R.2.2 = i) := ⟨_, ⟨rfl⟩⟩
  have HR2 : Aside0 (R.2 = (c, i)) := ⟨by rw [← hcc.out, ← hii.out]⟩
  have HOK : Aside0 (c ≠ 0 ∨ (c = 0 ∧ i = 0)) := ⟨by have h_ := replayF_code a0 a1 a2 l3; rw [hR.out, HR2.out] at h_; exact h_⟩
  by_cases hc0 : c = 0
  · subst hc0
    obtain rfl : i = 0 := by rcases HOK.out with h_ | h_; exact absurd rfl h_; exact h_.2
    clear HOK hcc hii
    by_cases p1 : a4 < 0 ∨ a0 ≤ a4
    · obtain ⟨rfl, rfl, rfl⟩ : [] = r1 ∧ 3 = r2 ∧ -2 = r3 := by unfold workers_Reports.f at h; rw [hR.out] at h; simp only [HR2.out, if_true] at h; rw [if_pos p1] at h; simpa using h
      clear h
      go_enter Try.func15, Try.ntmps15
      go_upto_region 1 with (first | ((with_reducible refine gate_dst (N := 11) rfl ?_); refine box_event ?hg (N := 11) ?hd (cs := #[.int .i64 0, .int .i64 0]) (t := 25) ?hr ?_; (case hd => rfl); (case hg => rfl); (case hr => first | (go_simp; done) | (go_simp; rfl)); intro ga hg_ w1 hbox_ hb_; have HB1 := Aside0.mk hb_; have HGA := Aside0.mk hbox_; have HGa := Aside0.mk (Nat.le_of_eq hg_.symm); have z0ga : w1.cell? ⟨ga, 0, none⟩ = some (.int .i64 0) := (blk_cell HGA.out 0).trans rfl; have z1ga : w1.cell? ⟨ga, 1, none⟩ = some (.int .i64 0) := (blk_cell HGA.out 1).trans rfl; have zf0ga := blk_frozen HGA.out 0; have zf1ga := blk_frozen HGA.out 1; clear hb_ hbox_ hg_))
      clear z0ga z1ga zf0ga zf1ga
      go_upto_region 2 with (first | (go_at_call 26; (with_reducible refine (replay_calls a0 a1 a2 A3 c3 l3 _ (Kd.C_below HR.out HB1.out) hc3).mono ?_); rintro e w2 ⟨hp1_, hp2_, hb2_⟩; have HB2 := Aside0.mk hb2_; clear hb2_; rw [hR.out] at hp1_ hp2_; obtain ⟨g, rfl, hf_⟩ := hp2_ (by rw [HR2.out]); have HF2 := Aside0.mk hf_; clear hf_ hp1_ hp2_; (try simp only [HR2.out])) | ((with_reducible refine gate_dst (N := 13) rfl ?_); refine box_event ?hg (N := 13) ?hd (cs := #[.int .i64 0, .int .i64 0]) (t := 25) ?hr ?_; (case hd => rfl); (case hg => rfl); (case hr => first | (go_simp; done) | (go_simp; rfl)); intro gb hg_ w3 hbox_ hb_; have HB3 := Aside0.mk hb_; have HGB := Aside0.mk hbox_; have HGb := Aside0.mk (Nat.le_of_eq hg_.symm); have z0gb : w3.cell? ⟨gb, 0, none⟩ = some (.int .i64 0) := (blk_cell HGB.out 0).trans rfl; have z1gb : w3.cell? ⟨gb, 1, none⟩ = some (.int .i64 0) := (blk_cell HGB.out 1).trans rfl; have zf0gb := blk_frozen HGB.out 0; have zf1gb := blk_frozen HGB.out 1; clear hb_ hbox_ hg_))
      clear z0gb z1gb zf0gb zf1gb
      have HB12 : Aside0 (Below w.heap.size w w2) := ⟨below_more HB1.out HB1.out.size HB2.out⟩
      have HBa : Aside0 (Below w.heap.size w w3) := ⟨below_more HB12.out HB12.out.size HB3.out⟩
      have HGA3 : Aside0 (w3.heap[ga]? = some (.cells #[.int .i64 0, .int .i64 0] 25 (0, 0))) := ⟨(HB3.out.block ga (Nat.lt_of_lt_of_le (blk_lt HGA.out) HB2.out.size)).trans ((HB2.out.block ga (blk_lt HGA.out)).trans HGA.out)⟩
      have hgB : Aside0 (w.heap.size ≤ gb) := ⟨by have := HGb.out; have := HB12.out.size; omega⟩
      have hab : Aside0 (ga ≠ gb) := ⟨by have := HGb.out; have := blk_lt HGA.out; have := HB2.out.size; omega⟩
      have HF3 := Aside0.mk (HF2.out.below HB3.out)
      have HB24 : Aside0 (Below w2.heap.size w2 ((w3.setCell ⟨gb, 0, none⟩ (.int .i64 0)).setCell ⟨gb, 1, none⟩ (.int .i64 0))) := ⟨(HB3.out.setCell (p := ⟨gb, 0, none⟩) HGb.out _).setCell (p := ⟨gb, 1, none⟩) HGb.out _⟩
      have HF4 := Aside0.mk ((HF2.out.below HB24.out).lower HB1.out.size)
      have HFa := Aside0.mk (((HF2.out.below HB24.out).far (b := ga) (j := 0) (v := .int .i64 0) (blk_lt HGA.out)).lower HB1.out.size)
      clear HFa
      have hgaf : Aside0 (ga < w1.heap.size) := ⟨blk_lt HGA.out⟩
      have HF1 := Aside0.mk (HF2.out.below HB24.out)
      clear HF3 HF2 HB24
      have HGB4 : Aside0 (((w3.setCell ⟨gb, 0, none⟩ (.int .i64 0)).setCell ⟨gb, 1, none⟩ (.int .i64 0)).heap[gb]? = some (.cells #[.int .i64 0, .int .i64 0] 25 (0, 0))) := ⟨blk_put (cs := #[.int .i64 0, .int .i64 0]) (blk_put (cs := #[.int .i64 0, .int .i64 0]) HGB.out 0 _ rfl) 1 _ rfl⟩
      have HGA4 : Aside0 (((w3.setCell ⟨gb, 0, none⟩ (.int .i64 0)).setCell ⟨gb, 1, none⟩ (.int .i64 0)).heap[ga]? = some (.cells #[.int .i64 0, .int .i64 0] 25 (0, 0))) := ⟨(Below.heap_setCell _ ⟨gb, 1, none⟩ _ ga hab.out).trans ((Below.heap_setCell _ ⟨gb, 0, none⟩ _ ga hab.out).trans HGA3.out)⟩
      have HB4 : Aside0 (Below w.heap.size w ((w3.setCell ⟨gb, 0, none⟩ (.int .i64 0)).setCell ⟨gb, 1, none⟩ (.int .i64 0))) := ⟨(HBa.out.setCell (p := ⟨gb, 0, none⟩) hgB.out _).setCell (p := ⟨gb, 1, none⟩) hgB.out _⟩
      generalize ((w3.setCell ⟨gb, 0, none⟩ (.int .i64 0)).setCell ⟨gb, 1, none⟩ (.int .i64 0)) = w4 at *
      have hga := HGa
      clear HB2 HB3 HGA HGB HGb HGa HBa HGA3 hgB HB12
      have y0 : w4.cell? ⟨gb, 0, none⟩ = some (.int .i64 0) := (blk_cell HGB4.out 0).trans rfl
      have y1 : w4.cell? ⟨gb, 1, none⟩ = some (.int .i64 0) := (blk_cell HGB4.out 1).trans rfl
      have x0 : w4.cell? ⟨ga, 0, none⟩ = some (.int .i64 0) := (blk_cell HGA4.out 0).trans rfl
      have x1 : w4.cell? ⟨ga, 1, none⟩ = some (.int .i64 0) := (blk_cell HGA4.out 1).trans rfl
      have xf0 := blk_frozen HGA4.out 0
      have xf1 := blk_frozen HGA4.out 1
      by_cases p2 : a4 < 0
      · have p2b : decide (a4 < 0) = true := decide_eq_true p2
        clear p1 p2
        go_wp2
        refine bodyPost_ret (results_tc rfl _ _ ga 25 #[.int .i64 3, .int .i64 (-2)] (0, 0) _ rfl (by (with_reducible repeat (first | refine blk_drewN ?_ _ | refine blk_drew ?_ | refine blk_alloc ?_ _)); exact blk_put (cs := #[.int .i64 3, .int .i64 0]) (blk_put (cs := #[.int .i64 0, .int .i64 0]) (by (with_reducible repeat (first | refine blk_drewN ?_ _ | refine blk_drew ?_ | refine blk_alloc ?_ _)); exact HGA4.out) 0 _ rfl) 1 _ rfl) Try.underlying25 rfl (by kernel_rfl)) rfl ?_
        exact ⟨_, rfl, Kd.R_nil _ _ _ _ _, by repeat (first | exact HB4.out | apply pw_below_drewN | apply below_drew1' | refine Below.setCell (p := ⟨ga, _, none⟩) ?_ hga.out _)⟩
      · have p2b : decide (a4 < 0) = false := decide_eq_false p2
        have p3b : decide (a0 ≤ a4) = true := decide_eq_true (by omega)
        clear p1 p2
        go_wp2
        refine bodyPost_ret (results_tc rfl _ _ ga 25 #[.int .i64 3, .int .i64 (-2)] (0, 0) _ rfl (by (with_reducible repeat (first | refine blk_drewN ?_ _ | refine blk_drew ?_ | refine blk_alloc ?_ _)); exact blk_put (cs := #[.int .i64 3, .int .i64 0]) (blk_put (cs := #[.int .i64 0, .int .i64 0]) (by (with_reducible repeat (first | refine blk_drewN ?_ _ | refine blk_drew ?_ | refine blk_alloc ?_ _)); exact HGA4.out) 0 _ rfl) 1 _ rfl) Try.underlying25 rfl (by kernel_rfl)) rfl ?_
        exact ⟨_, rfl, Kd.R_nil _ _ _ _ _, by repeat (first | exact HB4.out | apply pw_below_drewN | apply below_drew1' | refine Below.setCell (p := ⟨ga, _, none⟩) ?_ hga.out _)⟩
    · obtain ⟨hrw_, rfl, rfl⟩ : R.1.reports.getD a4.toNat [] = r1 ∧ 0 = r2 ∧ 0 = r3 := by unfold workers_Reports.f at h; rw [hR.out] at h; simp only [HR2.out, if_true] at h; rw [if_neg p1] at h; simp only [Option.some.injEq, Prod.mk.injEq] at h; exact h
      have HRW := Aside0.mk hrw_
      clear h hrw_
      have HWF : Aside0 (sizesOk a0 a1 a2 ∧ l3.length ≤ 40 ∧ R.1.WF a0.toNat a1.toNat) := ⟨by have h_ := replayF_wf (a0 := a0) (a1 := a1) (a2 := a2) (l := l3) (by rw [hR.out, HR2.out]); rw [hR.out] at h_; exact h_⟩
      have p2b : decide (a4 < 0) = false := decide_eq_false (by omega)
      have p3b : decide (a0 ≤ a4) = false := decide_eq_false (by omega)
      have j0 : 0 ≤ a4 := by omega
      have j1 : a4 < (R.1.reports.length : Int) := by rw [HWF.out.2.2.reps]; omega
      clear p1
      go_enter Try.func15, Try.ntmps15
      go_upto_region 1 with (first | ((with_reducible refine gate_dst (N := 11) rfl ?_); refine box_event ?hg (N := 11) ?hd (cs := #[.int .i64 0, .int .i64 0]) (t := 25) ?hr ?_; (case hd => rfl); (case hg => rfl); (case hr => first | (go_simp; done) | (go_simp; rfl)); intro ga hg_ w1 hbox_ hb_; have HB1 := Aside0.mk hb_; have HGA := Aside0.mk hbox_; have HGa := Aside0.mk (Nat.le_of_eq hg_.symm); have z0ga : w1.cell? ⟨ga, 0, none⟩ = some (.int .i64 0) := (blk_cell HGA.out 0).trans rfl; have z1ga : w1.cell? ⟨ga, 1, none⟩ = some (.int .i64 0) := (blk_cell HGA.out 1).trans rfl; have zf0ga := blk_frozen HGA.out 0; have zf1ga := blk_frozen HGA.out 1; clear hb_ hbox_ hg_))
      clear z0ga z1ga zf0ga zf1ga
      go_upto_region 2 with (first | (go_at_call 26; (with_reducible refine (replay_calls a0 a1 a2 A3 c3 l3 _ (Kd.C_below HR.out HB1.out) hc3).mono ?_); rintro e w2 ⟨hp1_, hp2_, hb2_⟩; have HB2 := Aside0.mk hb2_; clear hb2_; rw [hR.out] at hp1_ hp2_; obtain ⟨g, rfl, hf_⟩ := hp2_ (by rw [HR2.out]); have HF2 := Aside0.mk hf_; clear hf_ hp1_ hp2_; (try simp only [HR2.out])) | ((with_reducible refine gate_dst (N := 13) rfl ?_); refine box_event ?hg (N := 13) ?hd (cs := #[.int .i64 0, .int .i64 0]) (t := 25) ?hr ?_; (case hd => rfl); (case hg => rfl); (case hr => first | (go_simp; done) | (go_simp; rfl)); intro gb hg_ w3 hbox_ hb_; have HB3 := Aside0.mk hb_; have HGB := Aside0.mk hbox_; have HGb := Aside0.mk (Nat.le_of_eq hg_.symm); have z0gb : w3.cell? ⟨gb, 0, none⟩ = some (.int .i64 0) := (blk_cell HGB.out 0).trans rfl; have z1gb : w3.cell? ⟨gb, 1, none⟩ = some (.int .i64 0) := (blk_cell HGB.out 1).trans rfl; have zf0gb := blk_frozen HGB.out 0; have zf1gb := blk_frozen HGB.out 1; clear hb_ hbox_ hg_))
      clear z0gb z1gb zf0gb zf1gb
      have HB12 : Aside0 (Below w.heap.size w w2) := ⟨below_more HB1.out HB1.out.size HB2.out⟩
      have HBa : Aside0 (Below w.heap.size w w3) := ⟨below_more HB12.out HB12.out.size HB3.out⟩
      have HGA3 : Aside0 (w3.heap[ga]? = some (.cells #[.int .i64 0, .int .i64 0] 25 (0, 0))) := ⟨(HB3.out.block ga (Nat.lt_of_lt_of_le (blk_lt HGA.out) HB2.out.size)).trans ((HB2.out.block ga (blk_lt HGA.out)).trans HGA.out)⟩
      have hgB : Aside0 (w.heap.size ≤ gb) := ⟨by have := HGb.out; have := HB12.out.size; omega⟩
      have hab : Aside0 (ga ≠ gb) := ⟨by have := HGb.out; have := blk_lt HGA.out; have := HB2.out.size; omega⟩
      have HF3 := Aside0.mk (HF2.out.below HB3.out)
      have HB24 : Aside0 (Below w2.heap.size w2 ((w3.setCell ⟨gb, 0, none⟩ (.int .i64 0)).setCell ⟨gb, 1, none⟩ (.int .i64 0))) := ⟨(HB3.out.setCell (p := ⟨gb, 0, none⟩) HGb.out _).setCell (p := ⟨gb, 1, none⟩) HGb.out _⟩
      have HF4 := Aside0.mk ((HF2.out.below HB24.out).lower HB1.out.size)
      have HFa := Aside0.mk (((HF2.out.below HB24.out).far (b := ga) (j := 0) (v := .int .i64 0) (blk_lt HGA.out)).lower HB1.out.size)
      clear HFa
      have hgaf : Aside0 (ga < w1.heap.size) := ⟨blk_lt HGA.out⟩
      have HF1 := Aside0.mk (HF2.out.below HB24.out)
      clear HF3 HF2 HB24
      have HGB4 : Aside0 (((w3.setCell ⟨gb, 0, none⟩ (.int .i64 0)).setCell ⟨gb, 1, none⟩ (.int .i64 0)).heap[gb]? = some (.cells #[.int .i64 0, .int .i64 0] 25 (0, 0))) := ⟨blk_put (cs := #[.int .i64 0, .int .i64 0]) (blk_put (cs := #[.int .i64 0, .int .i64 0]) HGB.out 0 _ rfl) 1 _ rfl⟩
      have HGA4 : Aside0 (((w3.setCell ⟨gb, 0, none⟩ (.int .i64 0)).setCell ⟨gb, 1, none⟩ (.int .i64 0)).heap[ga]? = some (.cells #[.int .i64 0, .int .i64 0] 25 (0, 0))) := ⟨(Below.heap_setCell _ ⟨gb, 1, none⟩ _ ga hab.out).trans ((Below.heap_setCell _ ⟨gb, 0, none⟩ _ ga hab.out).trans HGA3.out)⟩
      have HB4 : Aside0 (Below w.heap.size w ((w3.setCell ⟨gb, 0, none⟩ (.int .i64 0)).setCell ⟨gb, 1, none⟩ (.int .i64 0))) := ⟨(HBa.out.setCell (p := ⟨gb, 0, none⟩) hgB.out _).setCell (p := ⟨gb, 1, none⟩) hgB.out _⟩
      generalize ((w3.setCell ⟨gb, 0, none⟩ (.int .i64 0)).setCell ⟨gb, 1, none⟩ (.int .i64 0)) = w4 at *
      have hga := HGa
      clear HB2 HB3 HGA HGB HGb HGa HBa HGA3 hgB HB12
      have y0 : w4.cell? ⟨gb, 0, none⟩ = some (.int .i64 0) := (blk_cell HGB4.out 0).trans rfl
      have y1 : w4.cell? ⟨gb, 1, none⟩ = some (.int .i64 0) := (blk_cell HGB4.out 1).trans rfl
      have x0 : w4.cell? ⟨ga, 0, none⟩ = some (.int .i64 0) := (blk_cell HGA4.out 0).trans rfl
      have x1 : w4.cell? ⟨ga, 1, none⟩ = some (.int .i64 0) := (blk_cell HGA4.out 1).trans rfl
      have xf0 := blk_frozen HGA4.out 0
      have xf1 := blk_frozen HGA4.out 1
      obtain ⟨bp, cp, A, cA, q1, q2, HV⟩ := HF1.out.vrep a4 j0 j1
      rw [HRW.out] at q2 HV
      have HV1 := Aside0.mk (Kd.R_lower (R_farI (b := ga) (j := 1) (u := .int .i64 0) (R_farI (b := ga) (j := 0) (u := .int .i64 0) HV hgaf.out) hgaf.out) HB1.out.size)
      clear HV
      go_wp2
      refine bodyPost_ret (results_tc rfl _ _ ga 25 #[.int .i64 0, .int .i64 0] (0, 0) _ rfl (by (with_reducible repeat (first | refine blk_drewN ?_ _ | refine blk_drew ?_ | refine blk_alloc ?_ _)); exact blk_put (cs := #[.int .i64 0, .int .i64 0]) (blk_put (cs := #[.int .i64 0, .int .i64 0]) (by (with_reducible repeat (first | refine blk_drewN ?_ _ | refine blk_drew ?_ | refine blk_alloc ?_ _)); exact HGA4.out) 0 _ rfl) 1 _ rfl) Try.underlying25 rfl (by kernel_rfl)) rfl ?_
      exact ⟨.slice A r1.length cA, rfl, HV1.out, by repeat (first | exact HB4.out | apply pw_below_drewN | apply below_drew1' | refine Below.setCell (p := ⟨ga, _, none⟩) ?_ hga.out _)⟩
  · have HC0 := Aside0.mk hc0
    have hcb : (c == 0) = false := beq_eq_false_iff_ne.mpr hc0
    obtain ⟨rfl, rfl, rfl⟩ : [] = r1 ∧ c = r2 ∧ i = r3 := by unfold workers_Reports.f at h; rw [hR.out] at h; simp only [HR2.out] at h; rw [if_neg HC0.out] at h; simpa using h
    clear h hc0
    go_enter Try.func15, Try.ntmps15
    go_upto_region 1 with (first | ((with_reducible refine gate_dst (N := 11) rfl ?_); refine box_event ?hg (N := 11) ?hd (cs := #[.int .i64 0, .int .i64 0]) (t := 25) ?hr ?_; (case hd => rfl); (case hg => rfl); (case hr => first | (go_simp; done) | (go_simp; rfl)); intro ga hg_ w1 hbox_ hb_; have HB1 := Aside0.mk hb_; have HGA := Aside0.mk hbox_; have HGa := Aside0.mk (Nat.le_of_eq hg_.symm); have z0ga : w1.cell? ⟨ga, 0, none⟩ = some (.int .i64 0) := (blk_cell HGA.out 0).trans rfl; have z1ga : w1.cell? ⟨ga, 1, none⟩ = some (.int .i64 0) := (blk_cell HGA.out 1).trans rfl; have zf0ga := blk_frozen HGA.out 0; have zf1ga := blk_frozen HGA.out 1; clear hb_ hbox_ hg_))
    clear z0ga z1ga zf0ga zf1ga
    go_upto_region 2 with (first | (go_at_call 26; (with_reducible refine (replay_calls a0 a1 a2 A3 c3 l3 _ (Kd.C_below HR.out HB1.out) hc3).mono ?_); rintro e w2 ⟨hp1_, hp2_, hb2_⟩; have HB2 := Aside0.mk hb2_; clear hb2_; rw [hR.out] at hp1_ hp2_; obtain rfl := hp1_ (by rw [HR2.out]; exact fun h => HC0.out (congrArg Prod.fst h)); clear hp1_ hp2_; (try simp only [HR2.out])) | ((with_reducible refine gate_dst (N := 13) rfl ?_); refine box_event ?hg (N := 13) ?hd (cs := #[.int .i64 0, .int .i64 0]) (t := 25) ?hr ?_; (case hd => rfl); (case hg => rfl); (case hr => first | (go_simp; done) | (go_simp; rfl)); intro gb hg_ w3 hbox_ hb_; have HB3 := Aside0.mk hb_; have HGB := Aside0.mk hbox_; have HGb := Aside0.mk (Nat.le_of_eq hg_.symm); have z0gb : w3.cell? ⟨gb, 0, none⟩ = some (.int .i64 0) := (blk_cell HGB.out 0).trans rfl; have z1gb : w3.cell? ⟨gb, 1, none⟩ = some (.int .i64 0) := (blk_cell HGB.out 1).trans rfl; have zf0gb := blk_frozen HGB.out 0; have zf1gb := blk_frozen HGB.out 1; clear hb_ hbox_ hg_))
    clear z0gb z1gb zf0gb zf1gb
    have HB12 : Aside0 (Below w.heap.size w w2) := ⟨below_more HB1.out HB1.out.size HB2.out⟩
    have HBa : Aside0 (Below w.heap.size w w3) := ⟨below_more HB12.out HB12.out.size HB3.out⟩
    have HGA3 : Aside0 (w3.heap[ga]? = some (.cells #[.int .i64 0, .int .i64 0] 25 (0, 0))) := ⟨(HB3.out.block ga (Nat.lt_of_lt_of_le (blk_lt HGA.out) HB2.out.size)).trans ((HB2.out.block ga (blk_lt HGA.out)).trans HGA.out)⟩
    have hgB : Aside0 (w.heap.size ≤ gb) := ⟨by have := HGb.out; have := HB12.out.size; omega⟩
    have hab : Aside0 (ga ≠ gb) := ⟨by have := HGb.out; have := blk_lt HGA.out; have := HB2.out.size; omega⟩
    have HGB4 : Aside0 (((w3.setCell ⟨gb, 0, none⟩ (.int .i64 c)).setCell ⟨gb, 1, none⟩ (.int .i64 i)).heap[gb]? = some (.cells #[.int .i64 c, .int .i64 i] 25 (0, 0))) := ⟨blk_put (cs := #[.int .i64 c, .int .i64 0]) (blk_put (cs := #[.int .i64 0, .int .i64 0]) HGB.out 0 _ rfl) 1 _ rfl⟩
    have HGA4 : Aside0 (((w3.setCell ⟨gb, 0, none⟩ (.int .i64 c)).setCell ⟨gb, 1, none⟩ (.int .i64 i)).heap[ga]? = some (.cells #[.int .i64 0, .int .i64 0] 25 (0, 0))) := ⟨(Below.heap_setCell _ ⟨gb, 1, none⟩ _ ga hab.out).trans ((Below.heap_setCell _ ⟨gb, 0, none⟩ _ ga hab.out).trans HGA3.out)⟩
    have HB4 : Aside0 (Below w.heap.size w ((w3.setCell ⟨gb, 0, none⟩ (.int .i64 c)).setCell ⟨gb, 1, none⟩ (.int .i64 i))) := ⟨(HBa.out.setCell (p := ⟨gb, 0, none⟩) hgB.out _).setCell (p := ⟨gb, 1, none⟩) hgB.out _⟩
    generalize ((w3.setCell ⟨gb, 0, none⟩ (.int .i64 c)).setCell ⟨gb, 1, none⟩ (.int .i64 i)) = w4 at *
    have hga := HGa
    clear HB2 HB3 HGA HGB HGb HGa HBa HGA3 hgB HB12
    have y0 : w4.cell? ⟨gb, 0, none⟩ = some (.int .i64 c) := (blk_cell HGB4.out 0).trans rfl
    have y1 : w4.cell? ⟨gb, 1, none⟩ = some (.int .i64 i) := (blk_cell HGB4.out 1).trans rfl
    have x0 : w4.cell? ⟨ga, 0, none⟩ = some (.int .i64 0) := (blk_cell HGA4.out 0).trans rfl
    have x1 : w4.cell? ⟨ga, 1, none⟩ = some (.int .i64 0) := (blk_cell HGA4.out 1).trans rfl
    have xf0 := blk_frozen HGA4.out 0
    have xf1 := blk_frozen HGA4.out 1
    go_wp2
    go_region
    all_goals go_wp2
    all_goals refine bodyPost_ret (results_tc rfl _ _ ga 25 #[.int .i64 c, .int .i64 i] (0, 0) _ rfl (by (with_reducible repeat (first | refine blk_drewN ?_ _ | refine blk_drew ?_ | refine blk_alloc ?_ _)); exact blk_put (cs := #[.int .i64 c, .int .i64 0]) (blk_put (cs := #[.int .i64 0, .int .i64 0]) (by (with_reducible repeat (first | refine blk_drewN ?_ _ | refine blk_drew ?_ | refine blk_alloc ?_ _)); exact HGA4.out) 0 _ rfl) 1 _ rfl) Try.underlying25 rfl (by kernel_rfl)) rfl ?_
    all_goals exact ⟨_, rfl, Kd.R_nil _ _ _ _ _, by repeat (first | exact HB4.out | apply pw_below_drewN | apply below_drew1' | refine Below.setCell (p := ⟨ga, _, none⟩) ?_ hga.out _)⟩
def nx (F : Farm) (j w : Nat) : Bool := rd F.working w == -1 && decide (rd (F.reports.getD j []) w < 0)
/-- The next assignment. -/
def nextF (F : Farm) : Option (Nat × Nat) := (List.range F.results.length).findSome? fun (j : Nat) => if 0 ≤ rd F.results (j : Int) then none else ((List.range F.working.length).find? fun (w : Nat) => nx F j w).map fun w => (j, w)
theorem findSome_range {α : Type} (f : Nat → Option α) (n j : Nat) (h : j < n) (h0 : ∀ i, i < j → f i = none) {r : α} (hr : f j = some r) : (List.range n).findSome? f = some r := by
  have e : List.range n = List.range j ++ j :: (List.range' (j + 1) (n - j - 1)) := by
    rw [List.range_eq_range', List.range_eq_range', show n = j + ((n - j - 1) + 1) from by omega, ← List.range'_append_1, List.range'_succ]
    simp
  rw [e, List.findSome?_append, List.findSome?_eq_none_iff.2 (fun i hi => h0 i (List.mem_range.1 hi))]
  simp [hr]
theorem find_range (p : Nat → Bool) (n j : Nat) (h : j < n) (h0 : ∀ i, i < j → p i = false) (hj : p j = true) : (List.range n).find? p = some j := by
  rw [← List.findSome?_guard]
  refine findSome_range _ n j h (fun i hi => ?_) ?_
  · simp [Option.guard, h0 i hi]
  · simp [Option.guard, hj]
theorem nextF_some (F : Farm) (j w : Nat) (hj : j < F.results.length) (hw : w < F.working.length) (h0 : ∀ i : Nat, i < j → 0 ≤ rd F.results (i : Int) ∨ ∀ v, v < F.working.length → nx F i v = false) (hr : ¬ 0 ≤ rd F.results (j : Int)) (h1 : ∀ v, v < w → nx F j v = false) (h2 : nx F j w = true) : nextF F = some (j, w) := by
  refine findSome_range _ _ j hj (fun i hi => ?_) ?_
  · rcases h0 i hi with h | h
    · rw [if_pos h]
    · split
      · rfl
      · rw [List.find?_eq_none.2 (fun v hv => by simp [h v (List.mem_range.1 hv)])]
        rfl
  · rw [if_neg hr, find_range _ _ w hw h1 h2]
    rfl
theorem nextF_none (F : Farm) (h0 : ∀ i : Nat, i < F.results.length → 0 ≤ rd F.results (i : Int) ∨ ∀ v, v < F.working.length → nx F i v = false) : nextF F = none := by
  refine List.findSome?_eq_none_iff.2 (fun i hi => ?_)
  rcases h0 i (List.mem_range.1 hi) with h | h
  · rw [if_pos h]
  · split
    · rfl
    · rw [List.find?_eq_none.2 (fun v hv => by simp [h v (List.mem_range.1 hv)])]
      rfl
theorem FarmAt.rdRes {w : World} {B g : Nat} {F : Farm} (h : FarmAt w B g F) : ∃ A c, w.cell? ⟨g, 3, none⟩ = some (.slice A F.results.length c) ∧ ∀ i : Int, 0 ≤ i → i < F.results.length → ∃ b, A = some ⟨b, 0, none⟩ ∧ w.cell? ⟨b, i.toNat, none⟩ = some (.int .i64 (rd F.results i)) := by
  obtain ⟨A, c, h1, _⟩ := h.vres
  refine ⟨A, c, h1, fun i i0 i1 => ?_⟩
  obtain ⟨b, c', h2, h3, _⟩ := h.res i i0 i1
  rw [h1] at h2
  injection h2 with h2
  injection h2 with h2
  exact ⟨b, h2, h3⟩
theorem FarmAt.rdWork {w : World} {B g : Nat} {F : Farm} (h : FarmAt w B g F) : ∃ A c, w.cell? ⟨g, 1, none⟩ = some (.slice A F.working.length c) ∧ ∀ i : Int, 0 ≤ i → i < F.working.length → ∃ b, A = some ⟨b, 0, none⟩ ∧ w.cell? ⟨b, i.toNat, none⟩ = some (.int .i64 (rd F.working i)) := by
  obtain ⟨A, c, _, _, _, _, _, h1, _⟩ := h.cells
  refine ⟨A, c, h1, fun i i0 i1 => ?_⟩
  obtain ⟨b, c', h2, h3, _⟩ := h.work i i0 i1
  rw [h1] at h2
  injection h2 with h2
  injection h2 with h2
  exact ⟨b, h2, h3⟩
def workers_Next.f (a0 : Int) (a1 : Int) (a2 : Int) (l3 : List (S44)) : Option (Int × Int × Bool × Int × Int) :=
  let r := replayF a0 a1 a2 l3
  if r.2.1 = 0 then (match nextF r.1 with | some (j, w) => some ((j : Int), (w : Int), true, 0, 0) | none => some (0, 0, false, 0, 0)) else some (0, 0, false, r.2.1, r.2.2)
set_option maxHeartbeats 8000000 in
theorem workers_Next.calls (a0 : Int) (a1 : Int) (a2 : Int) (A3 : Option Addr) (c3 : Nat) (l3 : List (S44)) (r1 : Int) (r2 : Int) (r3 : Bool) (r4 : Int) (r5 : Int) (w : World) (hr3 : Kd.C k44 w A3 l3.length l3) (hc3 : l3.length ≤ c3) (h : workers_Next.f a0 a1 a2 l3 = some (r1, r2, r3, r4, r5)) :
    Calls Try.prog 17 #[.int .i64 a0, .int .i64 a1, .int .i64 a2, .slice A3 l3.length c3] w fun e w' => e = .returned (.tuple #[.int .i64 r1, .int .i64 r2, .bool r3, .agg #[.int .i64 r4, .int .i64 r5]]) ∧ Below w.heap.size w w' := by
  obtain ⟨R, hR⟩ : ∃ R, Aside0 (replayF a0 a1 a2 l3 = R) := ⟨_, ⟨rfl⟩⟩
  have HR := Aside0.mk hr3
  clear hr3
  obtain ⟨c, hcc⟩ : ∃ c, Aside0 (R.2.1 = c) := ⟨_, ⟨rfl⟩⟩
  obtain ⟨i, hii⟩ : ∃ i, Aside0 (R.2.2 = i) := ⟨_, ⟨rfl⟩⟩
  have HR2 : Aside0 (R.2 = (c, i)) := ⟨by rw [← hcc.out, ← hii.out]⟩
  have HOK : Aside0 (c ≠ 0 ∨ (c = 0 ∧ i = 0)) := ⟨by have h_ := replayF_code a0 a1 a2 l3; rw [hR.out, HR2.out] at h_; exact h_⟩
  by_cases hc0 : c = 0
  · subst hc0
    obtain rfl : i = 0 := by rcases HOK.out with h_ | h_; exact absurd rfl h_; exact h_.2
    clear HOK hcc hii
    have HWF : Aside0 (sizesOk a0 a1 a2 ∧ l3.length ≤ 40 ∧ R.1.WF a0.toNat a1.toNat) := ⟨by have h_ := replayF_wf (a0 := a0) (a1 := a1) (a2 := a2) (l := l3) (by rw [hR.out, HR2.out]); rw [hR.out] at h_; exact h_⟩
    obtain ⟨F, hF⟩ : ∃ F, Aside0 (R.1 = F) := ⟨_, ⟨rfl⟩⟩
    have HN : Aside0 ((match nextF F with | some (j, w) => some ((j : Int), (w : Int), true, (0 : Int), (0 : Int)) | none => some (0, 0, false, 0, 0)) = some (r1, r2, r3, r4, r5)) := ⟨by unfold workers_Next.f at h; rw [hR.out] at h; simp only [HR2.out, if_true, hF.out] at h; exact h⟩
    clear h
    rw [hF.out] at HWF
    have hJ12 : F.results.length ≤ 12 := by rw [HWF.out.2.2.ress]; exact HWF.out.2.2.j12
    have hN8 : F.working.length ≤ 8 := by rw [HWF.out.2.2.work]; exact HWF.out.2.2.n8
    go_enter Try.func17, Try.ntmps17
    go_upto_region 1 with (first | ((with_reducible refine gate_dst (N := 11) rfl ?_); refine box_event ?hg (N := 11) ?hd (cs := #[.int .i64 0, .int .i64 0]) (t := 25) ?hr ?_; (case hd => rfl); (case hg => rfl); (case hr => first | (go_simp; done) | (go_simp; rfl)); intro ga hg_ w1 hbox_ hb_; have HB1 := Aside0.mk hb_; have HGA := Aside0.mk hbox_; have HGa := Aside0.mk (Nat.le_of_eq hg_.symm); have z0ga : w1.cell? ⟨ga, 0, none⟩ = some (.int .i64 0) := (blk_cell HGA.out 0).trans rfl; have z1ga : w1.cell? ⟨ga, 1, none⟩ = some (.int .i64 0) := (blk_cell HGA.out 1).trans rfl; have zf0ga := blk_frozen HGA.out 0; have zf1ga := blk_frozen HGA.out 1; clear hb_ hbox_ hg_))
    clear z0ga z1ga zf0ga zf1ga
    go_upto_region 2 with (first | (go_at_call 26; (with_reducible refine (replay_calls a0 a1 a2 A3 c3 l3 _ (Kd.C_below HR.out HB1.out) hc3).mono ?_); rintro e w2 ⟨hp1_, hp2_, hb2_⟩; have HB2 := Aside0.mk hb2_; clear hb2_; rw [hR.out] at hp1_ hp2_; obtain ⟨g, rfl, hf_⟩ := hp2_ (by rw [HR2.out]); have HF2 := Aside0.mk hf_; clear hf_ hp1_ hp2_; (try simp only [HR2.out])) | ((with_reducible refine gate_dst (N := 13) rfl ?_); refine box_event ?hg (N := 13) ?hd (cs := #[.int .i64 0, .int .i64 0]) (t := 25) ?hr ?_; (case hd => rfl); (case hg => rfl); (case hr => first | (go_simp; done) | (go_simp; rfl)); intro gb hg_ w3 hbox_ hb_; have HB3 := Aside0.mk hb_; have HGB := Aside0.mk hbox_; have HGb := Aside0.mk (Nat.le_of_eq hg_.symm); have z0gb : w3.cell? ⟨gb, 0, none⟩ = some (.int .i64 0) := (blk_cell HGB.out 0).trans rfl; have z1gb : w3.cell? ⟨gb, 1, none⟩ = some (.int .i64 0) := (blk_cell HGB.out 1).trans rfl; have zf0gb := blk_frozen HGB.out 0; have zf1gb := blk_frozen HGB.out 1; clear hb_ hbox_ hg_))
    clear z0gb z1gb zf0gb zf1gb
    have HB12 : Aside0 (Below w.heap.size w w2) := ⟨below_more HB1.out HB1.out.size HB2.out⟩
    have HBa : Aside0 (Below w.heap.size w w3) := ⟨below_more HB12.out HB12.out.size HB3.out⟩
    have HGA3 : Aside0 (w3.heap[ga]? = some (.cells #[.int .i64 0, .int .i64 0] 25 (0, 0))) := ⟨(HB3.out.block ga (Nat.lt_of_lt_of_le (blk_lt HGA.out) HB2.out.size)).trans ((HB2.out.block ga (blk_lt HGA.out)).trans HGA.out)⟩
    have hgB : Aside0 (w.heap.size ≤ gb) := ⟨by have := HGb.out; have := HB12.out.size; omega⟩
    have hab : Aside0 (ga ≠ gb) := ⟨by have := HGb.out; have := blk_lt HGA.out; have := HB2.out.size; omega⟩
    have HF3 := Aside0.mk (HF2.out.below HB3.out)
    have HB24 : Aside0 (Below w2.heap.size w2 ((w3.setCell ⟨gb, 0, none⟩ (.int .i64 0)).setCell ⟨gb, 1, none⟩ (.int .i64 0))) := ⟨(HB3.out.setCell (p := ⟨gb, 0, none⟩) HGb.out _).setCell (p := ⟨gb, 1, none⟩) HGb.out _⟩
    have HF4 := Aside0.mk ((HF2.out.below HB24.out).lower HB1.out.size)
    have HFa := Aside0.mk (((HF2.out.below HB24.out).far (b := ga) (j := 0) (v := .int .i64 0) (blk_lt HGA.out)).lower HB1.out.size)
    clear HFa
    have hgaf : Aside0 (ga < w1.heap.size) := ⟨blk_lt HGA.out⟩
    have HF1 := Aside0.mk (HF2.out.below HB24.out)
    clear HF3 HF2 HB24
    have HGB4 : Aside0 (((w3.setCell ⟨gb, 0, none⟩ (.int .i64 0)).setCell ⟨gb, 1, none⟩ (.int .i64 0)).heap[gb]? = some (.cells #[.int .i64 0, .int .i64 0] 25 (0, 0))) := ⟨blk_put (cs := #[.int .i64 0, .int .i64 0]) (blk_put (cs := #[.int .i64 0, .int .i64 0]) HGB.out 0 _ rfl) 1 _ rfl⟩
    have HGA4 : Aside0 (((w3.setCell ⟨gb, 0, none⟩ (.int .i64 0)).setCell ⟨gb, 1, none⟩ (.int .i64 0)).heap[ga]? = some (.cells #[.int .i64 0, .int .i64 0] 25 (0, 0))) := ⟨(Below.heap_setCell _ ⟨gb, 1, none⟩ _ ga hab.out).trans ((Below.heap_setCell _ ⟨gb, 0, none⟩ _ ga hab.out).trans HGA3.out)⟩
    have HB4 : Aside0 (Below w.heap.size w ((w3.setCell ⟨gb, 0, none⟩ (.int .i64 0)).setCell ⟨gb, 1, none⟩ (.int .i64 0))) := ⟨(HBa.out.setCell (p := ⟨gb, 0, none⟩) hgB.out _).setCell (p := ⟨gb, 1, none⟩) hgB.out _⟩
    generalize ((w3.setCell ⟨gb, 0, none⟩ (.int .i64 0)).setCell ⟨gb, 1, none⟩ (.int .i64 0)) = w4 at *
    have hga := HGa
    clear HB2 HB3 HGA HGB HGb HGa HBa HGA3 hgB HB12
    have y0 : w4.cell? ⟨gb, 0, none⟩ = some (.int .i64 0) := (blk_cell HGB4.out 0).trans rfl
    have y1 : w4.cell? ⟨gb, 1, none⟩ = some (.int .i64 0) := (blk_cell HGB4.out 1).trans rfl
    have x0 : w4.cell? ⟨ga, 0, none⟩ = some (.int .i64 0) := (blk_cell HGA4.out 0).trans rfl
    have x1 : w4.cell? ⟨ga, 1, none⟩ = some (.int .i64 0) := (blk_cell HGA4.out 1).trans rfl
    have xf0 := blk_frozen HGA4.out 0
    have xf1 := blk_frozen HGA4.out 1
    rw [hF.out] at HF1
    obtain ⟨A, cA, q3, INR⟩ := HF1.out.rdRes
    obtain ⟨A1, cA1, q1, INW⟩ := HF1.out.rdWork
    have HIR := Aside0.mk INR
    have HIW := Aside0.mk INW
    clear INR INW
    go_wp2
    go_loop [35] (fun t => ∃ k : Nat, k ≤ F.results.length ∧ t = .int .i64 k ∧ Aside0 (∀ i : Nat, i < k → 0 ≤ rd F.results (i : Int) ∨ ∀ v, v < F.working.length → nx F i v = false)) (fun t => F.results.length - (intOf t).toNat)
    case atStart => exact ⟨0, Nat.zero_le _, rfl, ⟨fun i hi => absurd hi (by omega)⟩⟩
    case round =>
      obtain ⟨k, hk, rfl, HK⟩ := hrel
      by_cases hlt : k < F.results.length
      · obtain ⟨b3, rfl, e3⟩ := HIR.out (k : Int) (by omega) (by omega)
        rw [Int.toNat_natCast] at e3
        by_cases r0 : 0 ≤ rd F.results (k : Int)
        · have r0b : decide (0 ≤ rd F.results (k : Int)) = true := decide_eq_true r0
          have HK1 : Aside0 (∀ i : Nat, i < k + 1 → 0 ≤ rd F.results (i : Int) ∨ ∀ v, v < F.working.length → nx F i v = false) := ⟨fun i hi => by
            rcases Nat.lt_or_ge i k with h_ | h_
            · exact HK.out i h_
            · obtain rfl : i = k := by omega
              exact .inl r0⟩
          clear r0
          go_wp2
          go_round
          case rel => exact ⟨k + 1, by omega, by go_num, HK1⟩
          case measure => simp [intOf]; omega
        · have r0b : decide (0 ≤ rd F.results (k : Int)) = false := decide_eq_false r0
          have HR0 := Aside0.mk r0
          clear r0
          obtain ⟨bp, cp, Aj, cj, g2, e2, inner⟩ := HF1.out.rep (k : Int) (by omega) (by rw [HWF.out.2.2.reps, ← HWF.out.2.2.ress]; omega)
          rw [Int.toNat_natCast] at e2 inner
          have hrl : (F.reports.getD k []).length = F.working.length := by rw [HWF.out.2.2.work]; apply HWF.out.2.2.rows; rw [List.getD_eq_getElem?_getD, List.getElem?_eq_getElem (show k < F.reports.length by rw [HWF.out.2.2.reps, ← HWF.out.2.2.ress]; exact hlt)]; exact List.getElem_mem _
          have hkr : (k : Int) < (F.reports.length : Int) := by rw [HWF.out.2.2.reps, ← HWF.out.2.2.ress]; omega
          rw [hrl] at e2 inner
          generalize hrow_ : F.reports.getD k [] = row at *
          have HROW := Aside0.mk hrow_
          have INN := Aside0.mk inner
          clear inner hrl hrow_
          go_wp2
          go_loop [47] (fun t => ∃ m : Nat, m ≤ F.working.length ∧ t = .int .i64 m ∧ Aside0 (∀ v, v < m → nx F k v = false)) (fun t => F.working.length - (intOf t).toNat)
          case atStart => exact ⟨0, Nat.zero_le _, rfl, ⟨fun i hi => absurd hi (by omega)⟩⟩
          case round =>
            obtain ⟨m, hm, rfl, HM⟩ := hrel
            by_cases hlm : m < F.working.length
            · obtain ⟨b1, rfl, e1⟩ := HIW.out (m : Int) (by omega) (by omega)
              obtain ⟨bj, rfl, ej, _, _, _⟩ := INN.out (m : Int) (by omega) (by omega)
              rw [Int.toNat_natCast] at e1 ej
              have hnext : ∀ b, Aside0 (nx F k m = b) → b = false → Aside0 (∀ v, v < m + 1 → nx F k v = false) := fun b hb hf => ⟨fun v hv => by
                rcases Nat.lt_or_ge v m with h_ | h_
                · exact HM.out v h_
                · obtain rfl : v = m := by omega
                  rw [hb.out, hf]⟩
              have HNX := Aside0.mk hnext
              clear hnext
              by_cases n1 : rd F.working (m : Int) = -1
              · have n1b : (rd F.working (m : Int) == -1) = true := beq_iff_eq.mpr n1
                by_cases n2 : rd row (m : Int) < 0
                · have n2b : decide (rd row (m : Int) < 0) = true := decide_eq_true n2
                  have hfin := nextF_some F k m hlt hlm HK.out (by have := HR0.out; omega) HM.out (by unfold nx; rw [n1b, HROW.out, n2b]; rfl)
                  obtain ⟨rfl, rfl, rfl, rfl, rfl⟩ : (k : Int) = r1 ∧ (m : Int) = r2 ∧ true = r3 ∧ (0 : Int) = r4 ∧ (0 : Int) = r5 := by have h_ := HN.out; rw [hfin] at h_; simpa using h_
                  clear n1 n2 hfin
                  go_wp2
                  refine bodyPost_ret (results_list (rs := [.tmp 8, .tmp 9, .tmp 10, .cell 11 25]) rfl (by simp) (.tmp (.tmp (.tmp (.cell ga 25 #[.int .i64 0, .int .i64 0] (0, 0) _ rfl (by (with_reducible repeat (first | refine blk_drewN ?_ _ | refine blk_drew ?_ | refine blk_alloc ?_ _)); exact blk_put (cs := #[.int .i64 0, .int .i64 0]) (blk_put (cs := #[.int .i64 0, .int .i64 0]) (by (with_reducible repeat (first | refine blk_drewN ?_ _ | refine blk_drew ?_ | refine blk_alloc ?_ _)); exact HGA4.out) 0 _ rfl) 1 _ rfl) Try.underlying25 rfl (by kernel_rfl) .nil))))) rfl ?_
                  exact ⟨rfl, by repeat (first | exact HB4.out | apply pw_below_drewN | apply below_drew1' | refine Below.setCell (p := ⟨ga, _, none⟩) ?_ hga.out _)⟩
                · have n2b : decide (rd row (m : Int) < 0) = false := decide_eq_false n2
                  have HM1 := HNX.out false ⟨by unfold nx; rw [HROW.out, n2b, Bool.and_false]⟩ rfl
                  clear n1 n2
                  go_wp2
                  go_round
                  case rel => exact ⟨m + 1, by omega, by go_num, HM1⟩
                  case measure => simp [intOf]; omega
              · have n1b : (rd F.working (m : Int) == -1) = false := beq_eq_false_iff_ne.mpr n1
                have HM1 := HNX.out false ⟨by unfold nx; rw [n1b]; rfl⟩ rfl
                clear n1
                go_wp2
                go_round
                case rel => exact ⟨m + 1, by omega, by go_num, HM1⟩
                case measure => simp [intOf]; omega
            · obtain rfl : m = F.working.length := by omega
              have HK1 : Aside0 (∀ i : Nat, i < k + 1 → 0 ≤ rd F.results (i : Int) ∨ ∀ v, v < F.working.length → nx F i v = false) := ⟨fun i hi => by
                rcases Nat.lt_or_ge i k with h_ | h_
                · exact HK.out i h_
                · obtain rfl : i = k := by omega
                  exact .inr HM.out⟩
              go_wp2
              go_round
              case rel => exact ⟨k + 1, by omega, by go_num, HK1⟩
              case measure => simp [intOf]; omega
      · obtain rfl : k = F.results.length := by omega
        have hfin := nextF_none F HK.out
        obtain ⟨rfl, rfl, rfl, rfl, rfl⟩ : (0 : Int) = r1 ∧ (0 : Int) = r2 ∧ false = r3 ∧ (0 : Int) = r4 ∧ (0 : Int) = r5 := by have h_ := HN.out; rw [hfin] at h_; simpa using h_
        clear hfin
        go_wp2
        refine bodyPost_ret (results_list (rs := [.tmp 8, .tmp 9, .tmp 10, .cell 11 25]) rfl (by simp) (.tmp (.tmp (.tmp (.cell ga 25 #[.int .i64 0, .int .i64 0] (0, 0) _ rfl (by (with_reducible repeat (first | refine blk_drewN ?_ _ | refine blk_drew ?_ | refine blk_alloc ?_ _)); exact blk_put (cs := #[.int .i64 0, .int .i64 0]) (blk_put (cs := #[.int .i64 0, .int .i64 0]) (by (with_reducible repeat (first | refine blk_drewN ?_ _ | refine blk_drew ?_ | refine blk_alloc ?_ _)); exact HGA4.out) 0 _ rfl) 1 _ rfl) Try.underlying25 rfl (by kernel_rfl) .nil))))) rfl ?_
        exact ⟨rfl, by repeat (first | exact HB4.out | apply pw_below_drewN | apply below_drew1' | refine Below.setCell (p := ⟨ga, _, none⟩) ?_ hga.out _)⟩
  · have HC0 := Aside0.mk hc0
    have hcb : (c == 0) = false := beq_eq_false_iff_ne.mpr hc0
    obtain ⟨rfl, rfl, rfl, rfl, rfl⟩ : 0 = r1 ∧ 0 = r2 ∧ false = r3 ∧ c = r4 ∧ i = r5 := by unfold workers_Next.f at h; rw [hR.out] at h; simp only [HR2.out] at h; rw [if_neg HC0.out] at h; simpa using h
    clear h hc0
    go_enter Try.func17, Try.ntmps17
    go_upto_region 1 with (first | ((with_reducible refine gate_dst (N := 11) rfl ?_); refine box_event ?hg (N := 11) ?hd (cs := #[.int .i64 0, .int .i64 0]) (t := 25) ?hr ?_; (case hd => rfl); (case hg => rfl); (case hr => first | (go_simp; done) | (go_simp; rfl)); intro ga hg_ w1 hbox_ hb_; have HB1 := Aside0.mk hb_; have HGA := Aside0.mk hbox_; have HGa := Aside0.mk (Nat.le_of_eq hg_.symm); have z0ga : w1.cell? ⟨ga, 0, none⟩ = some (.int .i64 0) := (blk_cell HGA.out 0).trans rfl; have z1ga : w1.cell? ⟨ga, 1, none⟩ = some (.int .i64 0) := (blk_cell HGA.out 1).trans rfl; have zf0ga := blk_frozen HGA.out 0; have zf1ga := blk_frozen HGA.out 1; clear hb_ hbox_ hg_))
    clear z0ga z1ga zf0ga zf1ga
    go_upto_region 2 with (first | (go_at_call 26; (with_reducible refine (replay_calls a0 a1 a2 A3 c3 l3 _ (Kd.C_below HR.out HB1.out) hc3).mono ?_); rintro e w2 ⟨hp1_, hp2_, hb2_⟩; have HB2 := Aside0.mk hb2_; clear hb2_; rw [hR.out] at hp1_ hp2_; obtain rfl := hp1_ (by rw [HR2.out]; exact fun h => HC0.out (congrArg Prod.fst h)); clear hp1_ hp2_; (try simp only [HR2.out])) | ((with_reducible refine gate_dst (N := 13) rfl ?_); refine box_event ?hg (N := 13) ?hd (cs := #[.int .i64 0, .int .i64 0]) (t := 25) ?hr ?_; (case hd => rfl); (case hg => rfl); (case hr => first | (go_simp; done) | (go_simp; rfl)); intro gb hg_ w3 hbox_ hb_; have HB3 := Aside0.mk hb_; have HGB := Aside0.mk hbox_; have HGb := Aside0.mk (Nat.le_of_eq hg_.symm); have z0gb : w3.cell? ⟨gb, 0, none⟩ = some (.int .i64 0) := (blk_cell HGB.out 0).trans rfl; have z1gb : w3.cell? ⟨gb, 1, none⟩ = some (.int .i64 0) := (blk_cell HGB.out 1).trans rfl; have zf0gb := blk_frozen HGB.out 0; have zf1gb := blk_frozen HGB.out 1; clear hb_ hbox_ hg_))
    clear z0gb z1gb zf0gb zf1gb
    have HB12 : Aside0 (Below w.heap.size w w2) := ⟨below_more HB1.out HB1.out.size HB2.out⟩
    have HBa : Aside0 (Below w.heap.size w w3) := ⟨below_more HB12.out HB12.out.size HB3.out⟩
    have HGA3 : Aside0 (w3.heap[ga]? = some (.cells #[.int .i64 0, .int .i64 0] 25 (0, 0))) := ⟨(HB3.out.block ga (Nat.lt_of_lt_of_le (blk_lt HGA.out) HB2.out.size)).trans ((HB2.out.block ga (blk_lt HGA.out)).trans HGA.out)⟩
    have hgB : Aside0 (w.heap.size ≤ gb) := ⟨by have := HGb.out; have := HB12.out.size; omega⟩
    have hab : Aside0 (ga ≠ gb) := ⟨by have := HGb.out; have := blk_lt HGA.out; have := HB2.out.size; omega⟩
    have HGB4 : Aside0 (((w3.setCell ⟨gb, 0, none⟩ (.int .i64 c)).setCell ⟨gb, 1, none⟩ (.int .i64 i)).heap[gb]? = some (.cells #[.int .i64 c, .int .i64 i] 25 (0, 0))) := ⟨blk_put (cs := #[.int .i64 c, .int .i64 0]) (blk_put (cs := #[.int .i64 0, .int .i64 0]) HGB.out 0 _ rfl) 1 _ rfl⟩
    have HGA4 : Aside0 (((w3.setCell ⟨gb, 0, none⟩ (.int .i64 c)).setCell ⟨gb, 1, none⟩ (.int .i64 i)).heap[ga]? = some (.cells #[.int .i64 0, .int .i64 0] 25 (0, 0))) := ⟨(Below.heap_setCell _ ⟨gb, 1, none⟩ _ ga hab.out).trans ((Below.heap_setCell _ ⟨gb, 0, none⟩ _ ga hab.out).trans HGA3.out)⟩
    have HB4 : Aside0 (Below w.heap.size w ((w3.setCell ⟨gb, 0, none⟩ (.int .i64 c)).setCell ⟨gb, 1, none⟩ (.int .i64 i))) := ⟨(HBa.out.setCell (p := ⟨gb, 0, none⟩) hgB.out _).setCell (p := ⟨gb, 1, none⟩) hgB.out _⟩
    generalize ((w3.setCell ⟨gb, 0, none⟩ (.int .i64 c)).setCell ⟨gb, 1, none⟩ (.int .i64 i)) = w4 at *
    have hga := HGa
    clear HB2 HB3 HGA HGB HGb HGa HBa HGA3 hgB HB12
    have y0 : w4.cell? ⟨gb, 0, none⟩ = some (.int .i64 c) := (blk_cell HGB4.out 0).trans rfl
    have y1 : w4.cell? ⟨gb, 1, none⟩ = some (.int .i64 i) := (blk_cell HGB4.out 1).trans rfl
    have x0 : w4.cell? ⟨ga, 0, none⟩ = some (.int .i64 0) := (blk_cell HGA4.out 0).trans rfl
    have x1 : w4.cell? ⟨ga, 1, none⟩ = some (.int .i64 0) := (blk_cell HGA4.out 1).trans rfl
    have xf0 := blk_frozen HGA4.out 0
    have xf1 := blk_frozen HGA4.out 1
    go_wp2
    go_region
    all_goals go_wp2
    all_goals refine bodyPost_ret (results_list (rs := [.tmp 8, .tmp 9, .tmp 10, .cell 11 25]) rfl (by simp) (.tmp (.tmp (.tmp (.cell ga 25 #[.int .i64 c, .int .i64 i] (0, 0) _ rfl (by (with_reducible repeat (first | refine blk_drewN ?_ _ | refine blk_drew ?_ | refine blk_alloc ?_ _)); exact blk_put (cs := #[.int .i64 c, .int .i64 0]) (blk_put (cs := #[.int .i64 0, .int .i64 0]) (by (with_reducible repeat (first | refine blk_drewN ?_ _ | refine blk_drew ?_ | refine blk_alloc ?_ _)); exact HGA4.out) 0 _ rfl) 1 _ rfl) Try.underlying25 rfl (by kernel_rfl) .nil))))) rfl ?_
    all_goals exact ⟨rfl, by repeat (first | exact HB4.out | apply pw_below_drewN | apply below_drew1' | refine Below.setCell (p := ⟨ga, _, none⟩) ?_ hga.out _)⟩
end Go.Proofs.Ytepflpmngegdiaa.H
end
