/- Texts that the law WorkersResultsAreFinal comes to, printed and by hand, what is not used left out. -/
import Derived.Test.YtepflpmngegdiaaCWorkersResultsAreFinal3
import Derived.Test.YtepflpmngegdiaaProg
section
namespace Go.Proofs.Ytepflpmngegdiaa.H
open Go.RowKit Go.Proofs.YtepflpmngegdiaaW.PrintWords Go.Proofs.YtepflpmngegdiaaW.PrintLast Go.Proofs.YtepflpmngegdiaaW.PrintMore
set_option linter.unusedVariables false
set_option linter.unusedSimpArgs false



def errW : Option Int → Value
  | none => .nilIface
  | some c => .iface 0 (.int .i64 c)
theorem errW_none : errW none = .nilIface := rfl
theorem errW_some (c : Int) : errW (some c) = .iface 0 (.int .i64 c) := rfl

theorem info44 : (Try.prog.info? 44).map (fun i => (i.zero, i.size, i.bytes)) = some (some (.agg #[(.int .i64 0), (.int .i64 0), (.int .i64 0), (.int .i64 0)]), 4, 32) := by kernel_rfl
-- the values' own types
structure S44 where
  f0 : Int
  f1 : Int
  f2 : Int
  f3 : Int
def z44 : S44 := ⟨(0 : Int), (0 : Int), (0 : Int), (0 : Int)⟩
def k44 : Kd S44 := Kd.iso (Kd.pair (Kd.int .i64) (Kd.pair (Kd.int .i64) (Kd.pair (Kd.int .i64) (Kd.int .i64)))) (fun x : S44 => (x.f0, x.f1, x.f2, x.f3))
theorem k44_open {w : World} {x : S44} {cs : List Value} (h : k44.K w x cs) : cs = [.int .i64 x.f0, .int .i64 x.f1, .int .i64 x.f2, .int .i64 x.f3] := by
  obtain ⟨_, _, rfl, rfl, ⟨_, _, rfl, rfl, ⟨_, _, rfl, rfl, rfl⟩⟩⟩ := h
  exact rfl
theorem k44_mkM (w : World) (base : Nat) (ok : Nat → Prop) (x : S44)  : k44.M w base ok x [.int .i64 x.f0, .int .i64 x.f1, .int .i64 x.f2, .int .i64 x.f3] := ⟨[.int .i64 x.f0], [.int .i64 x.f1, .int .i64 x.f2, .int .i64 x.f3], rfl, rfl, ⟨[.int .i64 x.f1], [.int .i64 x.f2, .int .i64 x.f3], rfl, rfl, ⟨[.int .i64 x.f2], [.int .i64 x.f3], rfl, rfl, rfl⟩⟩⟩
def rd_T44 (xs : List S44) (i : Int) : S44 := xs.getD i.toNat z44
theorem at_T44 {w : World} {A : Option Addr} {n : Nat} {xs : List S44} (h : Kd.C k44 w A n xs) (i : Int) (h0 : 0 ≤ i) (h1 : i < n) : ∃ ad , A = some ad ∧ w.cell? (ad.add (i.toNat * 4)) = some (.int .i64 (rd_T44 xs i).f0) ∧ w.cell? ⟨(ad.add (i.toNat * 4)).block, (ad.add (i.toNat * 4)).off + 1, none⟩ = some (.int .i64 (rd_T44 xs i).f1) ∧ w.cell? ⟨(ad.add (i.toNat * 4)).block, (ad.add (i.toNat * 4)).off + 2, none⟩ = some (.int .i64 (rd_T44 xs i).f2) ∧ w.cell? ⟨(ad.add (i.toNat * 4)).block, (ad.add (i.toNat * 4)).off + 3, none⟩ = some (.int .i64 (rd_T44 xs i).f3) := by
  obtain ⟨ad, c, e, _, hK, hc0⟩ := Kd.C_get h z44 i h0 h1
  have hc : ∀ j u, c[j]? = some u → w.cell? (ad.add (i.toNat * 4 + j)) = some u := hc0
  obtain rfl := k44_open hK
  exact ⟨ad, e, hc 0 _ rfl, by rw [← add_field _ _ 1 (by omega)]; exact hc 1 _ rfl, by rw [← add_field _ _ 2 (by omega)]; exact hc 2 _ rfl, by rw [← add_field _ _ 3 (by omega)]; exact hc 3 _ rfl⟩

end Go.Proofs.Ytepflpmngegdiaa.H
end
section
namespace Go.Proofs.Ytepflpmngegdiaa.H
open Go.RowKit Go.Proofs.YtepflpmngegdiaaW.PrintWords Go.Proofs.YtepflpmngegdiaaW.PrintLast Go.Proofs.YtepflpmngegdiaaW.PrintMore
set_option linter.unusedVariables false
set_option linter.unusedSimpArgs false

theorem eqA25 (d : Nat) (w : World) (x0 y0 : Int) (x1 y1 : Int) :
    (Op.equalIn (d + 2) 25 (.agg #[.int .i64 x0, .int .i64 x1]) (.agg #[.int .i64 y0, .int .i64 y1])).run Try.prog w = .ok (x0 == y0 && (x1 == y1)) w := by
  refine eqA_of Try.underlying25 (by kernel_rfl) ?_
  refine eqf_cons (by rfl) (by go_simp; rfl) (by go_simp; rfl) (by go_simp) ?_
  exact eqf_last (by rfl) (by go_simp; rfl) (by go_simp; rfl) (by go_simp)
end Go.Proofs.Ytepflpmngegdiaa.H
end
section
namespace Go.Proofs.Ytepflpmngegdiaa.H
open Go.RowKit Go.Proofs.YtepflpmngegdiaaW.PrintWords Go.Proofs.YtepflpmngegdiaaW.PrintLast Go.Proofs.YtepflpmngegdiaaW.PrintMore
set_option linter.unusedVariables false
set_option linter.unusedSimpArgs false

def changeforgelaw6_fault.f (a0 : Int) (a1 : Int) : Option (Int × Int) := some (a0, a1)
set_option maxHeartbeats 8000000 in
set_option maxRecDepth 100000 in
theorem changeforgelaw6_fault.calls (a0 : Int) (a1 : Int) (r1 : Int) (r2 : Int) (w : World) (h : changeforgelaw6_fault.f a0 a1 = some (r1, r2)) :
    Calls Try.prog 14 #[.int .i64 a0, .int .i64 a1] w fun e w' => e = .returned (.agg #[.int .i64 r1, .int .i64 r2]) ∧ Below w.heap.size w w' := by
  have hu25 := Try.underlying25
  have HB := Aside0.mk (Below.refl w.heap.size w)
  have H : (some (a0, a1)) = some (r1, r2) := h
  clear h
  simp only [Option.some.injEq, Prod.mk.injEq] at H
  obtain ⟨rfl, rfl⟩ := H
  go_enter Try.func14, Try.ntmps14
  go_wp2_with (first | ((with_reducible refine gate_dst (N := 4) rfl ?_); refine box_event ?hg (N := 4) ?hd (cs := #[.int .i64 0, .int .i64 0]) (t := 25) ?hr ?_; (case hd => rfl); (case hg => rfl); (case hr => first | (go_simp; done) | (go_simp; rfl)); intro gb102 hg w3 hbox hb; have n0_ := Aside0.mk (below_step (by repeat (first | (with_reducible first | exact HB.out | apply below_alloc | apply pw_below_drewN | apply below_drew1) | exact HB.out)) hb); have n1_ := Aside0.mk (hbox); have n2_ := Aside0.mk ((by rw [hg]; exact (below_size (by repeat (first | (with_reducible first | exact HB.out | apply below_alloc | apply pw_below_drewN | apply below_drew1) | exact HB.out))) : w.heap.size ≤ gb102)); have n3_ := Aside0.mk ((by rw [hg]; exact (below_size (by repeat (first | (with_reducible first | exact HB.out | apply below_alloc | apply pw_below_drewN | apply below_drew1) | exact HB.out))) : w.heap.size ≤ gb102)); clear HB; have HB := n0_; have BK102 := n1_; have GW102 := n2_; have GE102 := n3_; clear n0_ n1_ n2_ n3_; clear hb hbox hg; have hcz4_0 : w3.cell? ⟨gb102, 0, none⟩ = some (.int .i64 0) := (blk_cell BK102.out 0).trans rfl; have hcz4_1 : w3.cell? ⟨gb102, 1, none⟩ = some (.int .i64 0) := (blk_cell BK102.out 1).trans rfl; have hfz4_0 := blk_frozen BK102.out 0; have hfz4_1 := blk_frozen BK102.out 1))
  refine bodyPost_ret (results_cell_row rfl _ _ gb102 25 #[.int .i64 a0, .int .i64 a1] (0, 0) _ rfl (by (with_reducible repeat (first | refine blk_drewN ?_ _ | refine blk_drew ?_ | refine blk_alloc ?_ _)); refine blk_put (cs := #[.int .i64 a0, .int .i64 0]) ?_ 1 _ rfl; (with_reducible repeat (first | refine blk_drewN ?_ _ | refine blk_drew ?_ | refine blk_alloc ?_ _)); refine blk_put (cs := #[.int .i64 0, .int .i64 0]) ?_ 0 _ rfl; (with_reducible repeat (first | refine blk_drewN ?_ _ | refine blk_drew ?_ | refine blk_alloc ?_ _)); exact BK102.out) Try.underlying25 rfl (by kernel_rfl)) rfl ?_
  exact ⟨by first | rfl | (simp [errW_none, errW_some] <;> rfl) | (simp [*, errW_none, errW_some] <;> rfl), by repeat (first | (with_reducible first | exact HB.out | apply below_alloc | apply pw_below_drewN | apply below_drew1 | refine below_set ?_ GE102.out) | exact HB.out)⟩

end Go.Proofs.Ytepflpmngegdiaa.H
end
section
namespace Go.Proofs.Ytepflpmngegdiaa.H
open Go.RowKit Go.Proofs.YtepflpmngegdiaaW.PrintWords Go.Proofs.YtepflpmngegdiaaW.PrintLast Go.Proofs.YtepflpmngegdiaaW.PrintMore
set_option linter.unusedVariables false
set_option linter.unusedSimpArgs false

def changeforgelaw6_shift.f  : Option ((List (S44))) := some (([(⟨1, 0, 0, 0⟩ : S44), (⟨2, 0, 0, 8⟩ : S44), (⟨1, 1, 0, 0⟩ : S44), (⟨2, 1, 0, 7⟩ : S44), (⟨1, 2, 0, 0⟩ : S44), (⟨2, 2, 0, 7⟩ : S44)] : List (S44)))
set_option maxHeartbeats 8000000 in
set_option maxRecDepth 100000 in
theorem changeforgelaw6_shift.calls  (r : List (S44)) (w : World) (h : changeforgelaw6_shift.f  = some r) :
    Calls Try.prog 21 #[] w fun e w' => ∃ v0_ : Value, e = .returned (v0_) ∧ Kd.R k44 44 w' w.heap.size (fun _ => True) v0_ r ∧ Below w.heap.size w w' := by
  have hu44 := Try.underlying44
  have HB := Aside0.mk (Below.refl w.heap.size w)
  have H : (some (([(⟨1, 0, 0, 0⟩ : S44), (⟨2, 0, 0, 8⟩ : S44), (⟨1, 1, 0, 0⟩ : S44), (⟨2, 1, 0, 7⟩ : S44), (⟨1, 2, 0, 0⟩ : S44), (⟨2, 2, 0, 7⟩ : S44)] : List (S44)))) = some r := h
  clear h
  obtain ⟨y103, hy103⟩ : ∃ y_ : List (S44), y_ = (([(⟨1, 0, 0, 0⟩ : S44), (⟨2, 0, 0, 8⟩ : S44), (⟨1, 1, 0, 0⟩ : S44), (⟨2, 1, 0, 7⟩ : S44), (⟨1, 2, 0, 0⟩ : S44), (⟨2, 2, 0, 7⟩ : S44)] : List (S44))) := ⟨_, rfl⟩
  replace H : (some y103) = some r := by first | (rw [hy103]; with_reducible exact H) | (have H2_ := (Option.bind_some _ _).symm.trans H; rw [hy103]; with_reducible exact H2_) | (have H2_ := (Option.bind_some _ _).symm.trans H; with_reducible exact H2_) | with_reducible exact H | (rw [hy103]; exact H) | exact H
  have Ny103 := Aside0.mk hy103
  clear hy103
  obtain rfl := Option.some.inj H
  go_enter Try.func21, Try.ntmps21
  go_wp2_with (first | ((with_reducible refine gate_dst (N := 7) rfl ?_); refine Kd.R_lit k44 _ 44 ?hg (N := 7) ?hd (xs := ([(⟨1, 0, 0, 0⟩ : S44), (⟨2, 0, 0, 8⟩ : S44), (⟨1, 1, 0, 0⟩ : S44), (⟨2, 1, 0, 7⟩ : S44), (⟨1, 2, 0, 0⟩ : S44), (⟨2, 2, 0, 7⟩ : S44)] : List (S44))) (inner := [.int .i64 1, .int .i64 0, .int .i64 0, .int .i64 0, .int .i64 2, .int .i64 0, .int .i64 0, .int .i64 8, .int .i64 1, .int .i64 1, .int .i64 0, .int .i64 0, .int .i64 2, .int .i64 1, .int .i64 0, .int .i64 7, .int .i64 1, .int .i64 2, .int .i64 0, .int .i64 0, .int .i64 2, .int .i64 2, .int .i64 0, .int .i64 7]) (ok := fun _ => True) (okp := fun _ => True) ?hr ?hp (fun _ hk => hk) trivial (Below.refl _ _) (Nat.le_refl _) (by simp) ?_; (case hd => rfl); (case hg => rfl); (case hr => first | (go_simp; done) | (go_simp; rfl)); (case hp => exact (Reps.c4 (show Kd.M k44 _ _ _ (⟨1, 0, 0, 0⟩ : S44) [.int .i64 1, .int .i64 0, .int .i64 0, .int .i64 0] from (k44_mkM _ _ _ (⟨1, 0, 0, 0⟩ : S44) )) (Reps.c4 (show Kd.M k44 _ _ _ (⟨2, 0, 0, 8⟩ : S44) [.int .i64 2, .int .i64 0, .int .i64 0, .int .i64 8] from (k44_mkM _ _ _ (⟨2, 0, 0, 8⟩ : S44) )) (Reps.c4 (show Kd.M k44 _ _ _ (⟨1, 1, 0, 0⟩ : S44) [.int .i64 1, .int .i64 1, .int .i64 0, .int .i64 0] from (k44_mkM _ _ _ (⟨1, 1, 0, 0⟩ : S44) )) (Reps.c4 (show Kd.M k44 _ _ _ (⟨2, 1, 0, 7⟩ : S44) [.int .i64 2, .int .i64 1, .int .i64 0, .int .i64 7] from (k44_mkM _ _ _ (⟨2, 1, 0, 7⟩ : S44) )) (Reps.c4 (show Kd.M k44 _ _ _ (⟨1, 2, 0, 0⟩ : S44) [.int .i64 1, .int .i64 2, .int .i64 0, .int .i64 0] from (k44_mkM _ _ _ (⟨1, 2, 0, 0⟩ : S44) )) (Reps.c4 (show Kd.M k44 _ _ _ (⟨2, 2, 0, 7⟩ : S44) [.int .i64 2, .int .i64 2, .int .i64 0, .int .i64 7] from (k44_mkM _ _ _ (⟨2, 2, 0, 7⟩ : S44) )) (Reps.none _ _)))))))); intro v104 w1 ho2 hb hg_ hnew_; clear hg_ hnew_; (first | rw [← Ny103.out] at ho2 | (simp only [Int.reduceToNat] at ho2; rw [← Ny103.out] at ho2)); have n0_ := Aside0.mk (Kd.R_lower ho2 (below_size (by repeat (first | (with_reducible first | exact HB.out | apply below_alloc | apply pw_below_drewN | apply below_drew1) | exact HB.out)))); have n1_ := Aside0.mk (below_step (by repeat (first | (with_reducible first | exact HB.out | apply below_alloc | apply pw_below_drewN | apply below_drew1) | exact HB.out)) hb); clear HB; have HO105 := n0_; have HB := n1_; clear n0_ n1_; clear hb ho2))
  go_ret
  exact ⟨_, by first | rfl | (simp [errW_none, errW_some] <;> rfl) | (simp [*, errW_none, errW_some] <;> rfl), by (with_reducible repeat (first | apply Kd.R_alloc | apply Kd.R_drewN | apply Kd.R_drew)); exact HO105.out, by repeat (first | (with_reducible first | exact HB.out | apply below_alloc | apply pw_below_drewN | apply below_drew1) | exact HB.out)⟩

def changeforgeref5_Ints.l0 : Nat → List Int → List Int → Int → Option (Bool)
  | 0, _, _, _ => none
  | k + 1, x0, x1, x5 => if x5 < (x0.length : Int) then (if 0 ≤ x5 then (if x5 < (x1.length : Int) then (if (rd x0 x5) = (rd x1 x5) then (changeforgeref5_Ints.l0 k x0 x1 (wrap64 (x5 + 1))) else (some false)) else (none)) else (none)) else (some true)
def changeforgeref5_Ints.f (k : Nat) (l0 : List Int) (l1 : List Int) : Option (Bool) := if (l0.length : Int) = (l1.length : Int) then (changeforgeref5_Ints.l0 k l0 l1 0) else (some false)
theorem changeforgeref5_Ints.mono_l : ∀ k, (∀ y0 y1 y2, LeO (changeforgeref5_Ints.l0 k y0 y1 y2) (changeforgeref5_Ints.l0 (k + 1) y0 y1 y2))
  | 0 => fun _ _ _ r h => by simp [changeforgeref5_Ints.l0] at h
  | k + 1 => by
    have ih0 := changeforgeref5_Ints.mono_l k
    · intro y0 y1 y2
      unfold changeforgeref5_Ints.l0
      repeat' first
      | (with_reducible exact ih0 _ _ _)
      | (with_reducible exact LeO.refl _)
      | (with_reducible exact LeO.none _)
      | (with_reducible refine LeO.ite ?_ ?_)
      | (with_reducible refine LeO.bind ?_ (fun _ => ?_))
      | exact ih0 _ _ _
      | exact LeO.none _
      | refine LeO.ite ?_ ?_
      | refine LeO.bind ?_ (fun _ => ?_)
theorem changeforgeref5_Ints.mono : ∀ a0 a1 k, LeO (changeforgeref5_Ints.f k a0 a1) (changeforgeref5_Ints.f (k + 1) a0 a1) := by
  intro a0 a1 k
  have ih0 := changeforgeref5_Ints.mono_l k
  unfold changeforgeref5_Ints.f
  repeat' first
      | (with_reducible exact ih0 _ _ _)
      | (with_reducible exact LeO.refl _)
      | (with_reducible exact LeO.none _)
      | (with_reducible refine LeO.ite ?_ ?_)
      | (with_reducible refine LeO.bind ?_ (fun _ => ?_))
      | exact ih0 _ _ _
      | exact LeO.none _
      | refine LeO.ite ?_ ?_
      | refine LeO.bind ?_ (fun _ => ?_)
set_option maxHeartbeats 8000000 in
set_option maxRecDepth 100000 in
theorem changeforgeref5_Ints.calls (k : Nat) (A0 : Option Addr) (c0 : Nat) (l0 : List Int) (A1 : Option Addr) (c1 : Nat) (l1 : List Int) (r : Bool) (w : World) (hr0 : Kd.C (Kd.int .i64) w A0 l0.length l0) (hc0 : l0.length ≤ c0) (hr1 : Kd.C (Kd.int .i64) w A1 l1.length l1) (hc1 : l1.length ≤ c1) (h : changeforgeref5_Ints.f k l0 l1 = some r) :
    Calls Try.prog 22 #[.slice A0 l0.length c0, .slice A1 l1.length c1] w fun e w' => e = .returned (.bool r) ∧ Drawn0 w w' := by
  have HR0 := Aside0.mk hr0
  have HC0 := Aside0.mk hc0
  clear hr0 hc0
  have HR1 := Aside0.mk hr1
  have HC1 := Aside0.mk hc1
  clear hr1 hc1
  have H : (if (l0.length : Int) = (l1.length : Int) then (changeforgeref5_Ints.l0 k l0 l1 0) else (some false)) = some r := h
  clear h
  by_cases c3 : (l0.length : Int) = (l1.length : Int)
  · rw [if_pos c3] at H
    have c3b0 : ((l0.length : Int) == (l1.length : Int)) = true := beq_iff_eq.mpr c3
    have c3b1 : ((l0.length : Int) != (l1.length : Int)) = false := bne_eq_false_iff_eq.mpr c3
    have c3b2 : (l0.length == l1.length) = true := by first | simpa using c3 | (simp at c3 ⊢; omega)
    clear c3
    have H' := Aside0.mk H
    clear H
    go_enter Try.func22, Try.ntmps22
    go_wp2
    repeat (go_quiet (fail); try go_wp2)
    go_loopg [5] k (fun kq v5 w' => ∃ (x5_1 : Int), v5 = .int .i64 x5_1 ∧ Aside0 (changeforgeref5_Ints.l0 kq l0 l1 x5_1 = some r) ∧ Aside0 (kq ≤ k) ∧ Drawn0 w w')
    case atStart => exact ⟨(0), (by first | rfl | (simp; done) | (simp [*]; done)), H', ⟨Nat.le_refl _⟩, by repeat (first | exact Drawn0.refl _ | apply Drawn0.step)⟩
    case round =>
      clear H'
      try clear c1
      try clear c2
      try clear p2
      try clear c3
      try clear c3b0
      try clear c3b1
      try clear c3b2
      obtain ⟨x5_1, rfl, HA, HK1, ⟨m1, rfl⟩⟩ := hrel
      cases gk with
      | zero => exact absurd HA.out (by simp [changeforgeref5_Ints.l0])
      | succ k1 =>
        have H := HA.out
        clear HA
        simp only [changeforgeref5_Ints.l0] at H
        by_cases c4 : x5_1 < (l0.length : Int)
        · rw [if_pos c4] at H
          have c4b0 : decide (x5_1 < (l0.length : Int)) = true := decide_eq_true c4
          clear c4
          by_cases c5 : 0 ≤ x5_1
          · rw [if_pos c5] at H
            have c5b0 : decide (0 ≤ x5_1) = true := decide_eq_true c5
            clear c5
            by_cases c6 : x5_1 < (l1.length : Int)
            · rw [if_pos c6] at H
              have c6b0 : decide (x5_1 < (l1.length : Int)) = true := decide_eq_true c6
              clear c6
              by_cases c7 : (rd l0 x5_1) = (rd l1 x5_1)
              · rw [if_pos c7] at H
                have c7b0 : ((rd l0 x5_1) == (rd l1 x5_1)) = true := beq_iff_eq.mpr c7
                have c7b1 : ((rd l0 x5_1) != (rd l1 x5_1)) = false := bne_eq_false_iff_eq.mpr c7
                clear c7
                have H' := Aside0.mk H
                clear H
                have p106 : 0 ≤ (x5_1 : Int) := of_decide_eq_true (by first | (with_reducible assumption) | assumption)
                have q106 : x5_1 < (l0.length : Int) := of_decide_eq_true (by first | (with_reducible assumption) | assumption)
                obtain ⟨ad106, e106, hx106_0⟩ := Kd.at_int HR0.out x5_1 p106 q106
                cases e106
                replace p106 := eq_true p106
                replace q106 := eq_true q106
                have p107 : 0 ≤ (x5_1 : Int) := of_decide_eq_true (by first | (with_reducible assumption) | assumption)
                have q107 : x5_1 < (l1.length : Int) := of_decide_eq_true (by first | (with_reducible assumption) | assumption)
                obtain ⟨ad107, e107, hx107_0⟩ := Kd.at_int HR1.out x5_1 p107 q107
                cases e107
                replace p107 := eq_true p107
                replace q107 := eq_true q107
                go_wp2
                repeat (go_quiet (fail); try go_wp2)
                go_roundg k1
                case measure => have := HK1.out; omega
                case rel => exact ⟨(wrap64 (x5_1 + 1)), (by first | rfl | (simp; done) | (simp [*]; done)), H', ⟨by have := HK1.out; omega⟩, by repeat (first | exact Drawn0.refl _ | apply Drawn0.step)⟩
              · rw [if_neg c7] at H
                have c7b0 : ((rd l0 x5_1) == (rd l1 x5_1)) = false := beq_eq_false_iff_ne.mpr c7
                have c7b1 : ((rd l0 x5_1) != (rd l1 x5_1)) = true := bne_iff_ne.mpr c7
                obtain rfl := Option.some.inj H
                have p106 : 0 ≤ (x5_1 : Int) := of_decide_eq_true (by first | (with_reducible assumption) | assumption)
                have q106 : x5_1 < (l0.length : Int) := of_decide_eq_true (by first | (with_reducible assumption) | assumption)
                obtain ⟨ad106, e106, hx106_0⟩ := Kd.at_int HR0.out x5_1 p106 q106
                cases e106
                replace p106 := eq_true p106
                replace q106 := eq_true q106
                have p107 : 0 ≤ (x5_1 : Int) := of_decide_eq_true (by first | (with_reducible assumption) | assumption)
                have q107 : x5_1 < (l1.length : Int) := of_decide_eq_true (by first | (with_reducible assumption) | assumption)
                obtain ⟨ad107, e107, hx107_0⟩ := Kd.at_int HR1.out x5_1 p107 q107
                cases e107
                replace p107 := eq_true p107
                replace q107 := eq_true q107
                go_wp2
                repeat (go_quiet (fail); try go_wp2)
                go_ret
                exact ⟨by first | rfl | (simp; done) | (simp [*]; done), by repeat (first | exact Drawn0.refl _ | apply Drawn0.step)⟩
            · rw [if_neg c6] at H
              exact absurd H (by simp)
          · rw [if_neg c5] at H
            exact absurd H (by simp)
        · rw [if_neg c4] at H
          have c4b0 : decide (x5_1 < (l0.length : Int)) = false := decide_eq_false c4
          clear c4
          obtain rfl := Option.some.inj H
          go_wp2
          repeat (go_quiet (fail); try go_wp2)
          go_ret
          exact ⟨by first | rfl | (simp; done) | (simp [*]; done), by repeat (first | exact Drawn0.refl _ | apply Drawn0.step)⟩
  · rw [if_neg c3] at H
    have c3b0 : ((l0.length : Int) == (l1.length : Int)) = false := beq_eq_false_iff_ne.mpr c3
    have c3b1 : ((l0.length : Int) != (l1.length : Int)) = true := bne_iff_ne.mpr c3
    have c3b2 : (l0.length == l1.length) = false := by first | simpa using c3 | (simp at c3 ⊢; omega)
    obtain rfl := Option.some.inj H
    go_enter Try.func22, Try.ntmps22
    go_wp2
    repeat (go_quiet (fail); try go_wp2)
    go_ret
    exact ⟨by first | rfl | (simp; done) | (simp [*]; done), by repeat (first | exact Drawn0.refl _ | apply Drawn0.step)⟩

end Go.Proofs.Ytepflpmngegdiaa.H
end
section
namespace Go.Proofs.Ytepflpmngegdiaa.H
open Go.RowKit Go.Proofs.YtepflpmngegdiaaW.PrintWords Go.Proofs.YtepflpmngegdiaaW.PrintLast Go.Proofs.YtepflpmngegdiaaW.PrintMore
set_option linter.unusedVariables false
set_option linter.unusedSimpArgs false
open Go.RowKit
structure Farm where
  need : Int
  working : List Int
  reports : List (List Int)
  results : List Int
/-- The farm at block g; all its blocks lie from B on. -/
def FarmAt (w : World) (B g : Nat) (F : Farm) : Prop :=
  ∃ (vw vp vs : Value) (okw okp oks : Nat → Prop), (∀ k, okw k → ¬ okp k ∧ ¬ oks k ∧ k ≠ g) ∧ (∀ k, okp k → ¬ okw k ∧ ¬ oks k ∧ k ≠ g) ∧ (∀ k, oks k → ¬ okw k ∧ ¬ okp k ∧ k ≠ g) ∧
    w.heap[g]? = some (.cells #[.int .i64 F.need, vw, vp, vs] 55 (0, 0)) ∧ B ≤ g ∧
    Kd.R (Kd.int .i64) 3 w B okw vw F.working ∧ Kd.S (Kd.slice 3 (Kd.int .i64)) 27 w B okp vp F.reports ∧ Kd.R (Kd.int .i64) 3 w B oks vs F.results
theorem FarmAt.below {w w1 : World} {B g : Nat} {F : Farm} (h : FarmAt w B g F) (hb : Below w.heap.size w w1) : FarmAt w1 B g F := by
  obtain ⟨vw, vp, vs, okw, okp, oks, d1, d2, d3, hg, hB, h1, h2, h3⟩ := h
  exact ⟨vw, vp, vs, okw, okp, oks, d1, d2, d3, (hb.block g (blk_lt hg)).trans hg, hB, Kd.R_below h1 hb, Kd.S_below h2 hb, Kd.R_below h3 hb⟩
theorem FarmAt.cells {w : World} {B g : Nat} {F : Farm} (h : FarmAt w B g F) : ∃ A1 c1 A2 c2 A3 c3, w.cell? ⟨g, 0, none⟩ = some (.int .i64 F.need) ∧ w.cell? ⟨g, 1, none⟩ = some (.slice A1 F.working.length c1) ∧
    w.cell? ⟨g, 2, none⟩ = some (.slice A2 F.reports.length c2) ∧ w.cell? ⟨g, 3, none⟩ = some (.slice A3 F.results.length c3) := by
  obtain ⟨vw, vp, vs, okw, okp, oks, d1, d2, d3, hg, hB, h1, h2, h3⟩ := h
  obtain ⟨A1, c1, rfl⟩ := Kd.R_slice h1
  obtain ⟨A2, c2, rfl⟩ := Kd.S_slice h2
  obtain ⟨A3, c3, rfl⟩ := Kd.R_slice h3
  exact ⟨A1, c1, A2, c2, A3, c3, (blk_cell hg 0).trans rfl, (blk_cell hg 1).trans rfl, (blk_cell hg 2).trans rfl, (blk_cell hg 3).trans rfl⟩
def formCode (J N k wk jb vl : Int) : Int :=
  if k < 1 ∨ 4 < k then 4 else if wk < 0 ∨ N ≤ wk then 3 else if (k ≠ 1 ∧ jb ≠ 0) ∨ (k ≠ 2 ∧ vl ≠ 0) then 5 else
    if k = 1 ∧ (jb < 0 ∨ J ≤ jb) then 3 else if k = 2 ∧ (vl < 0 ∨ 1000000000 < vl) then 3 else 0
set_option maxHeartbeats 4000000 in
theorem form_calls (F : Farm) (k wk jb vl : Int) (w : World) (B g : Nat) (hF : FarmAt w B g F) (hN : F.working.length ≤ 8) (hJ : F.results.length ≤ 12) :
    Calls Try.prog 31 #[.pointer (some ⟨g, 0, none⟩), .agg #[.int .i64 k, .int .i64 wk, .int .i64 jb, .int .i64 vl]] w fun e w' => e = .returned (.int .i64 (formCode F.results.length F.working.length k wk jb vl)) ∧ Below w.heap.size w w' := by
  obtain ⟨r, hr⟩ : ∃ r, Aside0 (formCode F.results.length F.working.length k wk jb vl = r) := ⟨_, ⟨rfl⟩⟩
  rw [hr.out]
  go_enter Try.func31, Try.ntmps31
  go_upto_region 1 with (first | ((with_reducible refine gate_dst (N := 3) rfl ?_); refine box_event ?hg (N := 3) ?hd (cs := #[.int .i64 k, .int .i64 wk, .int .i64 jb, .int .i64 vl]) (t := 44) ?hr ?_; (case hd => rfl); (case hg => rfl); (case hr => first | (go_simp; done) | (go_simp; rfl)); intro gb hg w1 hbox hb; have hb1 := Aside0.mk hb; have hbx := Aside0.mk hbox; clear hb hbox hg))
  have hF1 := hF.below hb1.out
  have hbox := hbx.out
  clear hF hbx
  obtain ⟨A1, c1, A2, c2, A3, c3, g0, g1, g2, g3⟩ := hF1.cells
  clear hF1
  have z0 : w1.cell? ⟨gb, 0, none⟩ = some (.int .i64 k) := (blk_cell hbox 0).trans rfl
  have z1 : w1.cell? ⟨gb, 1, none⟩ = some (.int .i64 wk) := (blk_cell hbox 1).trans rfl
  have z2 : w1.cell? ⟨gb, 2, none⟩ = some (.int .i64 jb) := (blk_cell hbox 2).trans rfl
  have z3 : w1.cell? ⟨gb, 3, none⟩ = some (.int .i64 vl) := (blk_cell hbox 3).trans rfl
  clear hbox
  by_cases p1 : k < 1
  · have b1 : decide (k < 1) = true := decide_eq_true p1
    obtain rfl : r = 4 := by rw [← hr.out]; unfold formCode; rw [if_pos (by omega)]
    (try clear q1); (try clear q2); (try clear zvl); (try clear zjb); (try clear zz); (try clear zz2); (try clear zz3)
    go_wp2
    go_ret
    exact ⟨rfl, by repeat (first | exact hb1.out | apply pw_below_drewN | apply below_drew1)⟩
  have b1 : decide (k < 1) = false := decide_eq_false p1
  by_cases p2 : 4 < k
  · have b2 : decide (4 < k) = true := decide_eq_true p2
    obtain rfl : r = 4 := by rw [← hr.out]; unfold formCode; rw [if_pos (by omega)]
    (try clear q1); (try clear q2); (try clear zvl); (try clear zjb); (try clear zz); (try clear zz2); (try clear zz3)
    go_wp2
    go_ret
    exact ⟨rfl, by repeat (first | exact hb1.out | apply pw_below_drewN | apply below_drew1)⟩
  have b2 : decide (4 < k) = false := decide_eq_false p2
  by_cases p3 : wk < 0
  · have b3 : decide (wk < 0) = true := decide_eq_true p3
    obtain rfl : r = 3 := by rw [← hr.out]; unfold formCode; rw [if_neg (by omega), if_pos (by omega)]
    (try clear q1); (try clear q2); (try clear zvl); (try clear zjb); (try clear zz); (try clear zz2); (try clear zz3)
    go_wp2
    go_quiet (fail)
    go_wp2
    go_ret
    exact ⟨rfl, by repeat (first | exact hb1.out | apply pw_below_drewN | apply below_drew1)⟩
  have b3 : decide (wk < 0) = false := decide_eq_false p3
  by_cases p4 : (F.working.length : Int) ≤ wk
  · have b4 : decide ((F.working.length : Int) ≤ wk) = true := decide_eq_true p4
    obtain rfl : r = 3 := by rw [← hr.out]; unfold formCode; rw [if_neg (by omega), if_pos (by omega)]
    (try clear q1); (try clear q2); (try clear zvl); (try clear zjb); (try clear zz); (try clear zz2); (try clear zz3)
    go_wp2
    go_quiet (fail)
    go_wp2
    go_ret
    exact ⟨rfl, by repeat (first | exact hb1.out | apply pw_below_drewN | apply below_drew1)⟩
  have b4 : decide ((F.working.length : Int) ≤ wk) = false := decide_eq_false p4
  by_cases q1 : k = 1
  · have q2 : ¬ k = 2 := by omega
    have k1a : (k == 1) = true := beq_iff_eq.mpr q1
    have k1b : (k != 1) = false := bne_eq_false_iff_eq.mpr q1
    have k2a : (k == 2) = false := beq_eq_false_iff_ne.mpr q2
    have k2b : (k != 2) = true := bne_iff_ne.mpr q2
    by_cases zvl : vl = 0
    · have zz := zvl
      have zvlb : (vl != 0) = false := bne_eq_false_iff_eq.mpr zvl
      by_cases r1 : jb < 0
      · have r1b : decide (jb < 0) = true := decide_eq_true r1
        obtain rfl : r = 3 := by rw [← hr.out]; unfold formCode; rw [if_neg (by omega), if_neg (by omega), if_neg (by omega), if_pos (by omega)]
        (try clear q1); (try clear q2); (try clear zvl); (try clear zjb); (try clear zz); (try clear zz2); (try clear zz3)
        go_wp2
        go_quiet (fail)
        go_wp2
        go_quiet (fail)
        go_wp2
        go_ret
        exact ⟨rfl, by repeat (first | exact hb1.out | apply pw_below_drewN | apply below_drew1)⟩
      have r1b : decide (jb < 0) = false := decide_eq_false r1
      by_cases r2 : (F.results.length : Int) ≤ jb
      · have r2b : decide ((F.results.length : Int) ≤ jb) = true := decide_eq_true r2
        obtain rfl : r = 3 := by rw [← hr.out]; unfold formCode; rw [if_neg (by omega), if_neg (by omega), if_neg (by omega), if_pos (by omega)]
        (try clear q1); (try clear q2); (try clear zvl); (try clear zjb); (try clear zz); (try clear zz2); (try clear zz3)
        go_wp2
        go_quiet (fail)
        go_wp2
        go_quiet (fail)
        go_wp2
        go_ret
        exact ⟨rfl, by repeat (first | exact hb1.out | apply pw_below_drewN | apply below_drew1)⟩
      have r2b : decide ((F.results.length : Int) ≤ jb) = false := decide_eq_false r2
      obtain rfl : r = 0 := by rw [← hr.out]; unfold formCode; rw [if_neg (by omega), if_neg (by omega), if_neg (by omega), if_neg (by omega), if_neg (by omega)]
      (try clear q1); (try clear q2); (try clear zvl); (try clear zjb); (try clear zz); (try clear zz2); (try clear zz3)
      go_wp2
      go_quiet (fail)
      go_wp2
      go_quiet (fail)
      go_wp2
      go_ret
      exact ⟨rfl, by repeat (first | exact hb1.out | apply pw_below_drewN | apply below_drew1)⟩
    · have zz := zvl
      have zvlb : (vl != 0) = true := bne_iff_ne.mpr zvl
      obtain rfl : r = 5 := by rw [← hr.out]; unfold formCode; rw [if_neg (by omega), if_neg (by omega), if_pos (by omega)]
      (try clear q1); (try clear q2); (try clear zvl); (try clear zjb); (try clear zz); (try clear zz2); (try clear zz3)
      go_wp2
      go_quiet (fail)
      go_wp2
      go_ret
      exact ⟨rfl, by repeat (first | exact hb1.out | apply pw_below_drewN | apply below_drew1)⟩
  have k1a : (k == 1) = false := beq_eq_false_iff_ne.mpr q1
  have k1b : (k != 1) = true := bne_iff_ne.mpr q1
  by_cases zjb : jb = 0
  · have zz := zjb
    have zjbb : (jb != 0) = false := bne_eq_false_iff_eq.mpr zjb
    by_cases q2 : k = 2
    · have zz2 := q2
      have k2a : (k == 2) = true := beq_iff_eq.mpr q2
      have k2b : (k != 2) = false := bne_eq_false_iff_eq.mpr q2
      by_cases r1 : vl < 0
      · have r1b : decide (vl < 0) = true := decide_eq_true r1
        obtain rfl : r = 3 := by rw [← hr.out]; unfold formCode; rw [if_neg (by omega), if_neg (by omega), if_neg (by omega), if_neg (by omega), if_pos (by omega)]
        (try clear q1); (try clear q2); (try clear zvl); (try clear zjb); (try clear zz); (try clear zz2); (try clear zz3)
        go_wp2
        go_quiet (fail)
        go_wp2
        go_quiet (fail)
        go_wp2
        go_ret
        exact ⟨rfl, by repeat (first | exact hb1.out | apply pw_below_drewN | apply below_drew1)⟩
      have r1b : decide (vl < 0) = false := decide_eq_false r1
      by_cases r2 : 1000000000 < vl
      · have r2b : decide (1000000000 < vl) = true := decide_eq_true r2
        obtain rfl : r = 3 := by rw [← hr.out]; unfold formCode; rw [if_neg (by omega), if_neg (by omega), if_neg (by omega), if_neg (by omega), if_pos (by omega)]
        (try clear q1); (try clear q2); (try clear zvl); (try clear zjb); (try clear zz); (try clear zz2); (try clear zz3)
        go_wp2
        go_quiet (fail)
        go_wp2
        go_quiet (fail)
        go_wp2
        go_ret
        exact ⟨rfl, by repeat (first | exact hb1.out | apply pw_below_drewN | apply below_drew1)⟩
      have r2b : decide (1000000000 < vl) = false := decide_eq_false r2
      obtain rfl : r = 0 := by rw [← hr.out]; unfold formCode; rw [if_neg (by omega), if_neg (by omega), if_neg (by omega), if_neg (by omega), if_neg (by omega)]
      (try clear q1); (try clear q2); (try clear zvl); (try clear zjb); (try clear zz); (try clear zz2); (try clear zz3)
      go_wp2
      go_quiet (fail)
      go_wp2
      go_quiet (fail)
      go_wp2
      go_ret
      exact ⟨rfl, by repeat (first | exact hb1.out | apply pw_below_drewN | apply below_drew1)⟩
    · have zz2 := q2
      have k2a : (k == 2) = false := beq_eq_false_iff_ne.mpr q2
      have k2b : (k != 2) = true := bne_iff_ne.mpr q2
      by_cases zvl : vl = 0
      · have zz3 := zvl
        have zvlb : (vl != 0) = false := bne_eq_false_iff_eq.mpr zvl
        obtain rfl : r = 0 := by rw [← hr.out]; unfold formCode; rw [if_neg (by omega), if_neg (by omega), if_neg (by omega), if_neg (by omega), if_neg (by omega)]
        (try clear q1); (try clear q2); (try clear zvl); (try clear zjb); (try clear zz); (try clear zz2); (try clear zz3)
        go_wp2
        go_quiet (fail)
        go_wp2
        go_quiet (fail)
        go_wp2
        go_ret
        exact ⟨rfl, by repeat (first | exact hb1.out | apply pw_below_drewN | apply below_drew1)⟩
      · have zz3 := zvl
        have zvlb : (vl != 0) = true := bne_iff_ne.mpr zvl
        obtain rfl : r = 5 := by rw [← hr.out]; unfold formCode; rw [if_neg (by omega), if_neg (by omega), if_pos (by omega)]
        (try clear q1); (try clear q2); (try clear zvl); (try clear zjb); (try clear zz); (try clear zz2); (try clear zz3)
        go_wp2
        go_quiet (fail)
        go_wp2
        go_ret
        exact ⟨rfl, by repeat (first | exact hb1.out | apply pw_below_drewN | apply below_drew1)⟩
  · have zz := zjb
    have zjbb : (jb != 0) = true := bne_iff_ne.mpr zjb
    obtain rfl : r = 5 := by rw [← hr.out]; unfold formCode; rw [if_neg (by omega), if_neg (by omega), if_pos (by omega)]
    (try clear q1); (try clear q2); (try clear zvl); (try clear zjb); (try clear zz); (try clear zz2); (try clear zz3)
    go_wp2
    go_quiet (fail)
    go_wp2
    go_ret
    exact ⟨rfl, by repeat (first | exact hb1.out | apply pw_below_drewN | apply below_drew1)⟩
end Go.Proofs.Ytepflpmngegdiaa.H
end
section
namespace Go.Proofs.Ytepflpmngegdiaa.H
open Go.RowKit Go.Proofs.YtepflpmngegdiaaW.PrintWords Go.Proofs.YtepflpmngegdiaaW.PrintLast Go.Proofs.YtepflpmngegdiaaW.PrintMore
set_option linter.unusedVariables false
set_option linter.unusedSimpArgs false
open Go.RowKit
theorem FarmAt.work {w : World} {B g : Nat} {F : Farm} (h : FarmAt w B g F) (i : Int) (h0 : 0 ≤ i) (h1 : i < F.working.length) :
    ∃ bw cw, w.cell? ⟨g, 1, none⟩ = some (.slice (some ⟨bw, 0, none⟩) F.working.length cw) ∧ w.cell? ⟨bw, i.toNat, none⟩ = some (.int .i64 (rd F.working i)) ∧ w.frozen? ⟨bw, i.toNat, none⟩ = false ∧ B ≤ bw ∧
      ∀ x, FarmAt (w.setCell ⟨bw, i.toNat, none⟩ (.int .i64 x)) B g { F with working := F.working.set i.toNat x } := by
  obtain ⟨vw, vp, vs, okw, okp, oks, d1, d2, d3, hg, hB, h1w, h2, h3⟩ := h
  obtain ⟨bw, cw, rfl, hb, hlt, cells, hc⟩ := Kd.R_form h1w (by omega)
  have ho := h1w.1 bw rfl
  obtain ⟨q1, q2⟩ := Kd.R_cell (0 : Int) h1w i h0 h1
  refine ⟨bw, cw, (blk_cell hg 1).trans rfl, q1, q2, hb, fun x => ?_⟩
  obtain ⟨r1, _⟩ := Kd.R_put h1w i x
  refine ⟨_, vp, vs, okw, okp, oks, d1, d2, d3, (Below.heap_setCell w ⟨bw, i.toNat, none⟩ _ g ?_).trans hg, hB, ?_, Kd.S_far h2 (fun k hk he => (d2 k hk).1 (by rw [he]; exact ho)) _, Kd.R_far h3 (fun k hk he => (d3 k hk).1 (by rw [he]; exact ho)) _⟩
  · exact fun he => (d1 bw ho).2.2 he.symm
  · exact r1
theorem FarmAt.res {w : World} {B g : Nat} {F : Farm} (h : FarmAt w B g F) (i : Int) (h0 : 0 ≤ i) (h1 : i < F.results.length) :
    ∃ bw cw, w.cell? ⟨g, 3, none⟩ = some (.slice (some ⟨bw, 0, none⟩) F.results.length cw) ∧ w.cell? ⟨bw, i.toNat, none⟩ = some (.int .i64 (rd F.results i)) ∧ w.frozen? ⟨bw, i.toNat, none⟩ = false ∧ B ≤ bw ∧
      ∀ x, FarmAt (w.setCell ⟨bw, i.toNat, none⟩ (.int .i64 x)) B g { F with results := F.results.set i.toNat x } := by
  obtain ⟨vw, vp, vs, okw, okp, oks, d1, d2, d3, hg, hB, h1w, h2, h3⟩ := h
  obtain ⟨bw, cw, rfl, hb, hlt, cells, hc⟩ := Kd.R_form h3 (by omega)
  have ho := h3.1 bw rfl
  obtain ⟨q1, q2⟩ := Kd.R_cell (0 : Int) h3 i h0 h1
  refine ⟨bw, cw, (blk_cell hg 3).trans rfl, q1, q2, hb, fun x => ?_⟩
  obtain ⟨r1, _⟩ := Kd.R_put h3 i x
  refine ⟨vw, vp, _, okw, okp, oks, d1, d2, d3, (Below.heap_setCell w ⟨bw, i.toNat, none⟩ _ g ?_).trans hg, hB, Kd.R_far h1w (fun k hk he => (d1 k hk).2.1 (by rw [he]; exact ho)) _, Kd.S_far h2 (fun k hk he => (d2 k hk).2.1 (by rw [he]; exact ho)) _, ?_⟩
  · exact fun he => (d3 bw ho).2.2 he.symm
  · exact r1
theorem FarmAt.rep {w : World} {B g : Nat} {F : Farm} (h : FarmAt w B g F) (j : Int) (j0 : 0 ≤ j) (j1 : j < F.reports.length) :
    ∃ bp cp A cj, w.cell? ⟨g, 2, none⟩ = some (.slice (some ⟨bp, 0, none⟩) F.reports.length cp) ∧ w.cell? ⟨bp, j.toNat, none⟩ = some (.slice A (F.reports.getD j.toNat []).length cj) ∧
      ∀ i : Int, 0 ≤ i → i < (F.reports.getD j.toNat []).length → ∃ bj, A = some ⟨bj, 0, none⟩ ∧ w.cell? ⟨bj, i.toNat, none⟩ = some (.int .i64 (rd (F.reports.getD j.toNat []) i)) ∧ w.frozen? ⟨bj, i.toNat, none⟩ = false ∧ B ≤ bj ∧
        ∀ x, FarmAt (w.setCell ⟨bj, i.toNat, none⟩ (.int .i64 x)) B g { F with reports := F.reports.set j.toNat ((F.reports.getD j.toNat []).set i.toNat x) } := by
  obtain ⟨vw, vp, vs, okw, okp, oks, d1, d2, d3, hg, hB, h1w, h2, h3⟩ := h
  obtain ⟨bp, cp, rfl, hb, hlt, cells, hc⟩ := Kd.S_form h2 (by omega)
  obtain ⟨oki, c, hcl, ⟨v, rfl, hR⟩, hcc, hoki, back⟩ := Kd.S_borrow h2 ([] : List Int) j j0 j1
  obtain ⟨A, cj, rfl⟩ := Kd.R_slice hR
  refine ⟨bp, cp, A, cj, (blk_cell hg 2).trans rfl, ?_, fun i i0 i1 => ?_⟩
  · have h4 := hcc 0 _ rfl
    rw [add_plain, Nat.add_zero, show (Kd.slice 3 (Kd.int .i64)).sz = 1 from rfl, Nat.mul_one] at h4
    exact h4
  obtain ⟨bj, cj', he, hbj, _, _⟩ := Kd.R_form hR (by omega)
  injection he with hA _ hcap
  subst hA
  have ho := hR.1 bj rfl
  obtain ⟨q1, q2⟩ := Kd.R_cell (0 : Int) hR i i0 i1
  refine ⟨bj, rfl, q1, q2, hbj, fun x => ?_⟩
  obtain ⟨r1, r2⟩ := Kd.R_put hR i x
  have hp := (hoki bj ho).1
  refine ⟨vw, _, vs, okw, okp, oks, d1, d2, d3, (Below.heap_setCell w ⟨bj, i.toNat, none⟩ _ g ?_).trans hg, hB, Kd.R_far h1w (fun k hk he => (d1 k hk).1 (by rw [he]; exact hp)) _, ?_, Kd.R_far h3 (fun k hk he => (d3 k hk).2.1 (by rw [he]; exact hp)) _⟩
  · exact fun he => (d2 bj hp).2.2 he.symm
  · have hz := back (x' := (F.reports.getD j.toNat []).set i.toNat x) r2 (fun k hk => by injection hk with hk; rw [← hk]; exact ho) ⟨_, rfl, r1⟩
    simpa using hz
/-- report, as a function. -/
def Farm.report (F : Farm) (worker value : Int) : Farm :=
  let job := rd F.working worker
  let row := (F.reports.getD job.toNat []).set worker.toNat value
  { F with working := F.working.set worker.toNat (-1), reports := F.reports.set job.toNat row,
           results := if rd F.results job < 0 ∧ F.need ≤ (row.countP (· == value) : Int) then F.results.set job.toNat value else F.results }
theorem getD_set_self {α : Type} (l : List α) (i : Nat) (x d : α) (h : i < l.length) : (l.set i x).getD i d = x := by
  simp [List.getD_eq_getElem?_getD, h]
theorem countP_take_succ (l : List Int) (v : Int) (k : Nat) (h : k < l.length) : (l.take (k + 1)).countP (· == v) = (l.take k).countP (· == v) + if rd l k = v then 1 else 0 := by
  rw [List.take_succ_eq_append_getElem h, List.countP_append]
  have e : rd l (k : Int) = l[k] := by simp [rd, List.getD_eq_getElem?_getD, h]
  rw [e]
  by_cases hv : l[k] = v <;> simp [hv]
set_option maxHeartbeats 4000000 in
theorem report_calls (F : Farm) (worker value : Int) (w : World) (B g : Nat) (hF : FarmAt w B g F) (hw0 : 0 ≤ worker) (hw1 : worker < F.working.length) (hN : F.working.length ≤ 8)
    (hJ : F.reports.length = F.results.length) (hJ12 : F.results.length ≤ 12) (hj0 : 0 ≤ rd F.working worker) (hj1 : rd F.working worker < F.results.length) (hrow : ∀ r ∈ F.reports, r.length = F.working.length) :
    Calls Try.prog 32 #[.pointer (some ⟨g, 0, none⟩), .int .i64 worker, .int .i64 value] w fun e w' => e = .returned (.tuple #[]) ∧ FarmAt w' B g (F.report worker value) ∧ Below B w w' := by
  obtain ⟨R, hR⟩ : ∃ R, Aside0 (F.report worker value = R) := ⟨_, ⟨rfl⟩⟩
  rw [hR.out]
  obtain ⟨job, hjob⟩ : ∃ job, Aside0 (rd F.working worker = job) := ⟨_, ⟨rfl⟩⟩
  rw [hjob.out] at hj0 hj1
  have hF0 := Aside0.mk hF
  clear hF
  obtain ⟨bw, cw, g1, q1, q2, hbw, back1⟩ := hF0.out.work worker hw0 hw1
  rw [hjob.out] at q1
  have hB1 := Aside0.mk (back1 (-1))
  clear back1
  have hrow1 : (F.reports.getD job.toNat []).length = F.working.length := by
    apply hrow
    rw [List.getD_eq_getElem?_getD, List.getElem?_eq_getElem (show job.toNat < F.reports.length by omega)]
    exact List.getElem_mem _
  obtain ⟨hrow2⟩ : Aside0 (∀ r ∈ F.reports, r.length = F.working.length) := ⟨hrow⟩
  clear hrow hrow2
  have HJ := Aside0.mk hJ
  have hjr : job < (F.reports.length : Int) := by omega
  have HR1 := Aside0.mk hrow1
  clear hJ hrow1
  go_enter Try.func32, Try.ntmps32
  go_upto_region 2 with (fail)
  have HB := Aside0.mk ((Below.refl B w).setCell (p := ⟨bw, worker.toNat, none⟩) hbw (.int .i64 (-1)))
  generalize w.setCell ⟨bw, worker.toNat, none⟩ (.int .i64 (-1)) = w1 at *
  clear g1 q1 q2 hbw hF0
  obtain ⟨bp, cp, A, cj, g2, q3, inner⟩ := hB1.out.rep job hj0 (by have := HJ.out; show job < ((F.reports.length : Nat) : Int); omega)
  obtain ⟨bj, rfl, q4, q5, hbj, back2⟩ := inner worker hw0 (by have := HR1.out; show worker < (((F.reports.getD job.toNat []).length : Nat) : Int); omega)
  clear inner
  have hB2 := Aside0.mk (back2 value)
  clear back2 hB1
  simp only [HR1.out] at q3
  go_upto_region 3 with (fail)
  have HB2 := Aside0.mk (HB.out.setCell (p := ⟨bj, worker.toNat, none⟩) hbj (.int .i64 value))
  generalize w1.setCell ⟨bj, worker.toNat, none⟩ (.int .i64 value) = w2 at *
  clear g2 q3 q4 q5 hbj HB w1
  obtain ⟨row, hrw⟩ : ∃ row, Aside0 ((F.reports.getD job.toNat []).set worker.toNat value = row) := ⟨_, ⟨rfl⟩⟩
  have hlen : row.length = F.working.length := by rw [← hrw.out, List.length_set]; exact HR1.out
  have HL := Aside0.mk hlen
  have hB3 : Aside0 (FarmAt w2 B g { F with working := F.working.set worker.toNat (-1), reports := F.reports.set job.toNat row }) := ⟨by have := hB2.out; rw [hrw.out] at this; exact this⟩
  clear hB2 hlen
  have hget : (F.reports.set job.toNat row).getD job.toNat [] = row := getD_set_self _ _ _ _ (by have := HJ.out; omega)
  obtain ⟨bp2, cp2, A2, cj2, g2, q3, inner⟩ := hB3.out.rep job hj0 (by have := HJ.out; show job < (((F.reports.set job.toNat row).length : Nat) : Int); rw [List.length_set]; omega)
  simp only [hget, List.length_set] at g2 q3 inner
  clear hget
  obtain ⟨b3, c3, g3, q6, q7, hb3, back3⟩ := hB3.out.res job hj0 hj1
  obtain ⟨_, _, _, _, _, _, g0, _, _, _⟩ := hB3.out.cells
  have INN := Aside0.mk inner
  have BK := Aside0.mk back3
  clear inner back3
  go_wp2
  go_loop [7, 9, 41] (fun n v i => ∃ k : Nat, k ≤ row.length ∧ i = .int .i64 k ∧ n = .int .i64 ((row.take k).countP (· == value) : Nat)) (fun _ _ i => row.length - (intOf i).toNat)
  case atStart => exact ⟨0, Nat.zero_le _, rfl, rfl⟩
  case round =>
    obtain ⟨k, hk, rfl, rfl⟩ := hrel
    by_cases hlt : k < row.length
    · obtain ⟨bq, rfl, q8, _, _, _⟩ := INN.out k (by omega) (by omega)
      rw [Int.toNat_natCast] at q8
      have hcs := Aside0.mk (countP_take_succ row value k hlt)
      have hle : (row.take k).countP (· == value) ≤ k := Nat.le_trans List.countP_le_length (by simp; omega)
      have hlN : row.length ≤ 8 := by rw [HL.out]; exact hN
      by_cases hv : rd row k = value
      · have hvb : (rd row k == value) = true := beq_iff_eq.mpr hv
        clear hv
        go_wp2
        go_round
        case rel => exact ⟨k + 1, by omega, by go_num, by rw [hcs.out, if_pos (by simpa using hvb)]; go_num⟩
        case measure => simp [intOf]; omega
      · have hvb : (rd row k == value) = false := beq_eq_false_iff_ne.mpr hv
        clear hv
        go_wp2
        go_round
        case rel => exact ⟨k + 1, by omega, by go_num, by rw [hcs.out, if_neg (by simpa using hvb)]; go_num⟩
        case measure => simp [intOf]; omega
    · obtain rfl : k = row.length := by omega
      simp only [List.take_length]
      clear hk hlt
      obtain ⟨m, hm⟩ : ∃ m, Aside0 (row.countP (· == value) = m) := ⟨_, ⟨rfl⟩⟩
      simp only [hm.out]
      have hm8 : m ≤ 8 := by rw [← hm.out]; exact Nat.le_trans List.countP_le_length (by rw [HL.out]; exact hN)
      by_cases c1 : rd F.results job < 0
      · have c1b : decide (rd F.results job < 0) = true := decide_eq_true c1
        by_cases c2 : F.need ≤ (m : Int)
        · have c2b : decide (F.need ≤ (m : Int)) = true := decide_eq_true c2
          have hRe : R = { F with working := F.working.set worker.toNat (-1), reports := F.reports.set job.toNat row, results := F.results.set job.toNat value } := by
            rw [← hR.out]; unfold Farm.report; simp only [hjob.out, hrw.out, hm.out]; rw [if_pos ⟨c1, c2⟩]
          have HRE := Aside0.mk hRe
          clear hRe c1 c2
          go_wp2
          go_end0
          exact ⟨rfl, by rw [HRE.out]; exact BK.out value, HB2.out.setCell (p := ⟨b3, job.toNat, none⟩) hb3 _⟩
        · have c2b : decide (F.need ≤ (m : Int)) = false := decide_eq_false c2
          have hRe : R = { F with working := F.working.set worker.toNat (-1), reports := F.reports.set job.toNat row } := by
            rw [← hR.out]; unfold Farm.report; simp only [hjob.out, hrw.out, hm.out]; rw [if_neg (by omega)]
          have HRE := Aside0.mk hRe
          clear hRe c1 c2
          go_wp2
          go_end0
          exact ⟨rfl, by rw [HRE.out]; exact hB3.out, HB2.out⟩
      · have c1b : decide (rd F.results job < 0) = false := decide_eq_false c1
        have hRe : R = { F with working := F.working.set worker.toNat (-1), reports := F.reports.set job.toNat row } := by
          rw [← hR.out]; unfold Farm.report; simp only [hjob.out, hrw.out, hm.out]; rw [if_neg (by omega)]
        have HRE := Aside0.mk hRe
        clear hRe c1
        go_wp2
        go_end0
        exact ⟨rfl, by rw [HRE.out]; exact hB3.out, HB2.out⟩
end Go.Proofs.Ytepflpmngegdiaa.H
end
