/- Texts that the law TopBuildStepsAreOrdered comes to, printed and by hand, what is not used left out. -/
import Derived.Test.YtffcaglfcnmhdaaDoorCTopBuildStepsAreOrdered6
import Derived.Lib.LazyBuf
section
namespace Go.Proofs.YtffcaglfcnmhdaaDoor.H
open Go.RowKit Go.Proofs.YtffcaglfcnmhdaaDoorW.PrintWords Go.Proofs.YtffcaglfcnmhdaaDoorW.PrintLast Go.Proofs.YtffcaglfcnmhdaaDoorW.PrintMore
set_option linter.unusedVariables false
set_option linter.unusedSimpArgs false
open Go.RowKit
def slices_Clone_int_int.f (l0 : List Int) : Option (List Int) := if l0.length < 1000000000 then some l0 else none
theorem C_none {α : Type} {d : Kd α} {w : World} {n : Nat} {xs : List α} (h : Kd.C d w none n xs) : xs = [] := by
  obtain ⟨h1, h2, h3⟩ := h
  rcases Nat.eq_zero_or_pos n with h0 | h0
  · exact List.eq_nil_of_length_eq_zero (by omega)
  · obtain ⟨ad, e, _⟩ := h3 h0
    cases e
set_option maxHeartbeats 4000000 in
theorem slices_Clone_int_int.calls (A0 : Option Addr) (c0 : Nat) (l0 : List Int) (r : List Int) (w : World) (hr0 : Kd.C (Kd.int .i64) w A0 l0.length l0) (hc0 : l0.length ≤ c0) (h : slices_Clone_int_int.f l0 = some r) :
    Calls Tryd.prog 25 #[.slice A0 l0.length c0] w fun e w' => ∃ v0_ : Value, e = .returned (v0_) ∧ Kd.R (Kd.int .i64) 3 w' w.heap.size (fun _ => True) v0_ r ∧ Below w.heap.size w w' := by
  unfold slices_Clone_int_int.f at h
  by_cases hl : l0.length < 1000000000
  case neg => rw [if_neg hl] at h; cases h
  rw [if_pos hl] at h
  obtain rfl := Option.some.inj h
  clear h
  have HL := Aside0.mk hl
  have HR0 := Aside0.mk hr0
  clear hr0 hl
  rcases A0 with _ | ad
  · obtain rfl := C_none HR0.out
    have hE := fun (w : World) => run_eql_slice_nil (P := Tryd.prog) w 28 3 none 0 c0 Tryd.underlying28
    go_enter Tryd.func25, Tryd.ntmps25
    go_wp2
    go_ret
    exact ⟨_, rfl, Kd.R_nil _ _ _ _ _, Below.refl _ _⟩
  · have hE := fun (w : World) => run_eql_slice_nil (P := Tryd.prog) w 28 3 (some ad) l0.length c0 Tryd.underlying28
    go_enter Tryd.func25, Tryd.ntmps25
    go_wp2_with (first | ((with_reducible refine gate_dst (N := 5) rfl ?_); refine Kd.R_lit (Kd.int .i64) (w0 := w) w.heap.size 3 ?hg (N := 5) ?hd (xs := ([] : List Int)) (inner := []) (ok := fun _ => True) (okp := fun _ => True) ?hr ?hp (fun _ hk => hk) trivial (Below.refl _ _) (Nat.le_refl _) (by simp) ?_; (case hd => rfl); (case hg => rfl); (case hr => first | (go_simp; done) | (go_simp; rfl)); (case hp => exact (Reps.none _ _)); intro v5 w5 ho hb hg_ hnew_; clear hg_ hnew_; have HO := Aside0.mk ho; have HB := Aside0.mk hb; clear hb ho) | ((with_reducible refine gate_builtin (b := .append) (xs := #[.tmp 5, .tmp 6]) rfl ?_); at_builtin; refine Kd.R_append_rows (Kd.int .i64) (w0 := w) w.heap.size rfl (.tmp 5) (.tmp 6) 28 3 (.int .i64 0) 8 rfl Tryd.underlying28 info3 rfl (by decide) (by omega) v5 ([] : List Int) l0 _ _ _ (fun _ => True) (fun _ => False) rfl rfl ?aO ?aR (fun _ _ h => h) (fun _ h => h.elim) ?aF ?aB ?aS ?aL ?_; (case aR => exact Kd.C_below HR0.out HB.out); (case aB => exact HB.out); (case aF => exact (fun _ _ => trivial)); (case aO => exact HO.out); (case aS => exact HB.out.size); (case aL => have := HL.out; simp only [List.length_nil]; omega); intro v7 w7 ho hb hg hat; rw [List.nil_append] at ho; have HO7 := Aside0.mk ho; have HB7 := Aside0.mk hb; clear ho hb hg hat))
    go_ret
    exact ⟨_, rfl, HO7.out, HB7.out⟩
end Go.Proofs.YtffcaglfcnmhdaaDoor.H
end
section
namespace Go.Proofs.YtffcaglfcnmhdaaDoor.H
open Go.RowKit Go.Proofs.YtffcaglfcnmhdaaDoorW.PrintWords Go.Proofs.YtffcaglfcnmhdaaDoorW.PrintLast Go.Proofs.YtffcaglfcnmhdaaDoorW.PrintMore
attribute [local go_sem] max2_int max_two
set_option linter.unusedVariables false
set_option linter.unusedSimpArgs false

attribute [local go_sem high] eqA25
def depgraph_reach.l0 : Nat → List (List Int) → List Bool → List Int → Option (List Bool)
  | 0, _, _, _ => none
  | k + 1, x0, x5, x6 => if (x6.length : Int) > 0 then (if 0 < (x6.length : Int) then (if 1 ≤ (x6.length : Int) then ((some (x6.drop (1 : Int).toNat : List Int)).bind fun y172 => (if 0 ≤ (rd x6 0) then (if (rd x6 0) < (x5.length : Int) then (if (rdOf false x5 (rd x6 0) = true) then (depgraph_reach.l0 k x0 x5 y172) else (if (rd x6 0) < (x0.length : Int) then (if y172.length + (rd_L1 x0 (rd x6 0)).length < 17592186044416 then (depgraph_reach.l0 k x0 (x5.set ((rd x6 0) : Int).toNat true) (y172 ++ (rd_L1 x0 (rd x6 0)))) else (none)) else (none))) else (none)) else (none))) else (none)) else (none)) else (some x5)
def depgraph_reach.f (k : Nat) (l0 : List (List Int)) (a1 : Int) : Option (List Bool) := if 0 ≤ (l0.length : Int) then (if ((l0.length : Int) : Int).toNat ≤ 281474976710656 then (if 0 ≤ a1 then (if a1 < (l0.length : Int) then ((slices_Clone_int_int.f (rd_L1 l0 a1)).bind fun t168 => (depgraph_reach.l0 k l0 (List.replicate ((l0.length : Int) : Int).toNat false) t168)) else (none)) else (none)) else (none)) else (none)
theorem depgraph_reach.mono_l : ∀ k, (∀ y0 y1 y2, LeO (depgraph_reach.l0 k y0 y1 y2) (depgraph_reach.l0 (k + 1) y0 y1 y2))
  | 0 => fun _ _ _ r h => by simp [depgraph_reach.l0] at h
  | k + 1 => by
    have ih0 := depgraph_reach.mono_l k
    · intro y0 y1 y2
      unfold depgraph_reach.l0
      repeat' first
      | (with_reducible exact ih0 _ _ _)
      | (with_reducible exact LeO.refl _)
      | (with_reducible exact LeO.none _)
      | (with_reducible refine LeO.ite ?_ ?_)
      | (with_reducible refine LeO.bind ?_ (fun _ => ?_))
      | exact ih0 _ _ _
      | exact LeO.none _
      | refine LeO.ite ?_ ?_
      | refine LeO.bind ?_ (fun _ => ?_)
theorem depgraph_reach.mono : ∀ a0 a1 k, LeO (depgraph_reach.f k a0 a1) (depgraph_reach.f (k + 1) a0 a1) := by
  intro a0 a1 k
  have ih0 := depgraph_reach.mono_l k
  unfold depgraph_reach.f
  repeat' first
      | (with_reducible exact ih0 _ _ _)
      | (with_reducible exact LeO.refl _)
      | (with_reducible exact LeO.none _)
      | (with_reducible refine LeO.ite ?_ ?_)
      | (with_reducible refine LeO.bind ?_ (fun _ => ?_))
      | exact ih0 _ _ _
      | exact LeO.none _
      | refine LeO.ite ?_ ?_
      | refine LeO.bind ?_ (fun _ => ?_)
set_option maxHeartbeats 8000000 in
set_option maxRecDepth 100000 in
theorem depgraph_reach.calls (k : Nat) (A0 : Option Addr) (c0 : Nat) (l0 : List (List Int)) (a1 : Int) (r : List Bool) (w : World) (hr0 : Kd.C (Kd.slice 3 (Kd.int .i64)) w A0 l0.length l0) (hc0 : l0.length ≤ c0) (h : depgraph_reach.f k l0 a1 = some r) :
    Calls Tryd.prog 23 #[.slice A0 l0.length c0, .int .i64 a1] w fun e w' => ∃ v0_ : Value, e = .returned (v0_) ∧ Kd.R Kd.bool 4 w' w.heap.size (fun _ => True) v0_ r ∧ Below w.heap.size w w' := by
  have HR0 := Aside0.mk hr0
  have HC0 := Aside0.mk hc0
  clear hr0 hc0
  have HB := Aside0.mk (Below.refl w.heap.size w)
  have H : (if 0 ≤ (l0.length : Int) then (if ((l0.length : Int) : Int).toNat ≤ 281474976710656 then (if 0 ≤ a1 then (if a1 < (l0.length : Int) then ((slices_Clone_int_int.f (rd_L1 l0 a1)).bind fun t168 => (depgraph_reach.l0 k l0 (List.replicate ((l0.length : Int) : Int).toNat false) t168)) else (none)) else (none)) else (none)) else (none)) = some r := h
  clear h
  by_cases c3 : 0 ≤ (l0.length : Int)
  · rw [if_pos c3] at H
    have c3b0 := eq_true c3
    have c3b1 : decide (0 ≤ (l0.length : Int)) = true := decide_eq_true c3
    clear c3
    by_cases c4 : ((l0.length : Int) : Int).toNat ≤ 281474976710656
    · rw [if_pos c4] at H
      have c4b0 := eq_true c4
      have c4b1 : decide (((l0.length : Int) : Int).toNat ≤ 281474976710656) = true := decide_eq_true c4
      clear c4
      obtain ⟨y164, hy164⟩ : ∃ y_ : List Bool, y_ = (List.replicate ((l0.length : Int) : Int).toNat false) := ⟨_, rfl⟩
      replace H : (if 0 ≤ a1 then (if a1 < (l0.length : Int) then ((slices_Clone_int_int.f (rd_L1 l0 a1)).bind fun t168 => (depgraph_reach.l0 k l0 y164 t168)) else (none)) else (none)) = some r := by first | (rw [hy164]; with_reducible exact H) | (have H2_ := (Option.bind_some _ _).symm.trans H; rw [hy164]; with_reducible exact H2_) | (have H2_ := (Option.bind_some _ _).symm.trans H; with_reducible exact H2_) | with_reducible exact H | (rw [hy164]; exact H) | exact H
      have Ny164 := Aside0.mk hy164
      clear hy164
      by_cases c5 : 0 ≤ a1
      · rw [if_pos c5] at H
        have c5b0 : decide (0 ≤ a1) = true := decide_eq_true c5
        clear c5
        by_cases c6 : a1 < (l0.length : Int)
        · rw [if_pos c6] at H
          have c6b0 : decide (a1 < (l0.length : Int)) = true := decide_eq_true c6
          clear c6
          replace H := Option.bind_eq_some_iff.mp H
          obtain ⟨t168, A70, H⟩ := H
          replace H : (depgraph_reach.l0 k l0 y164 t168) = some r := H
          have A7 := Aside0.mk A70
          clear A70
          have H' := Aside0.mk H
          clear H
          go_enter Tryd.func23, Tryd.ntmps23
          go_wp2_with (first | ((with_reducible refine gate_dst (N := 10) rfl ?_); refine Kd.R_make Kd.bool _ 4 rfl (N := 10) rfl 47 _ _ rfl (l0.length : Int) rfl rfl Tryd.underlying47 (.bool false) 1 info4 rfl (by decide) (by omega) false (ok := fun _ => True) (okp := fun _ => True) rfl (fun _ hk => hk) trivial (of_decide_eq_true (by first | (with_reducible assumption) | assumption)) (Nat.le_trans (Nat.mul_le_mul_right _ (of_decide_eq_true (by first | (with_reducible assumption) | assumption) : (l0.length : Int).toNat ≤ 281474976710656)) (by omega)) (Below.refl _ _) (Nat.le_refl _) ?_; intro v165 w8 ho9 hb hg_ hnew_; clear hg_ hnew_; (first | rw [← Ny164.out] at ho9 | (simp only [Int.reduceToNat] at ho9; rw [← Ny164.out] at ho9)); have n0_ := Aside0.mk (Kd.R_lower ho9 (below_size (by repeat (first | (with_reducible first | exact HB.out | apply below_alloc | apply pw_below_drewN | apply below_drew1) | exact HB.out)))); have n1_ := Aside0.mk (below_step (by repeat (first | (with_reducible first | exact HB.out | apply below_alloc | apply pw_below_drewN | apply below_drew1) | exact HB.out)) hb); clear HB; have HO166 := n0_; have HB := n1_; clear n0_ n1_; clear hb ho9; have p167 : 0 ≤ (a1 : Int) := of_decide_eq_true (by first | (with_reducible assumption) | assumption); have q167 : a1 < (l0.length : Int) := of_decide_eq_true (by first | (with_reducible assumption) | assumption); obtain ⟨ad167, A167_0, c167_0, e167, hx167_0, hl167_0, hi167_0⟩ := at_L1 HR0.out a1 p167 q167; cases e167; replace hx167_0 := (HB.out.cell (World.block_lt_of_cell? w _ hx167_0)).trans hx167_0; have HR167_0 := Aside0.mk hi167_0; have HC167_0 := Aside0.mk hl167_0; clear hi167_0 hl167_0; replace p167 := eq_true p167; replace q167 := eq_true q167) | ((with_reducible refine gate_callee (f := 25) rfl ?_); refine goesL_ (some 15) rfl rfl Tryd.func25 (by kernel_rfl) rfl #[.slice A167_0 (rd_L1 l0 a1).length c167_0] rfl (by (try simp only [List.map_toArray, List.map_cons, List.map_nil]); first | done | rfl | (simp only [List.length_drop, List.length_take]; rfl)) ?_; (with_reducible refine (slices_Clone_int_int.calls _ _ (rd_L1 l0 a1) t168 _ ?side1 ?side2 A7.out).mono ?_); (case side1 => repeat (first | exact (Kd.C_below HR167_0.out HB.out) | (with_reducible refine Kd.C_alloc ?_ _) | (with_reducible refine Kd.C_drewN ?_ _) | (with_reducible refine Kd.C_drew ?_))); (case side2 => exact HC167_0.out); rintro e w10 ⟨v169, rfl, ho0, hb⟩; refine ⟨_, rfl, ?_⟩; have n0_ := Aside0.mk (Kd.R_below (by (with_reducible repeat (first | apply Kd.R_alloc | apply Kd.R_drewN | apply Kd.R_drew)); exact HO166.out) hb); have n1_ := Aside0.mk (Kd.R_lower ho0 (below_size (by repeat (first | (with_reducible first | exact HB.out | apply below_alloc | apply pw_below_drewN | apply below_drew1) | exact HB.out)))); have n2_ := Aside0.mk (below_step (by repeat (first | (with_reducible first | exact HB.out | apply below_alloc | apply pw_below_drewN | apply below_drew1) | exact HB.out)) hb); clear HO166; clear HB; have HO166 := n0_; have HO170 := n1_; have HB := n2_; clear n0_ n1_ n2_; (try clear hb); (try clear hb2); (try clear hk); (try clear hi); (try clear ho0)))
          go_loopg [6] k (fun kq v6 w' => ∃ (x5_1 : List Bool) (x6_1 : List Int), Aside0 (depgraph_reach.l0 kq l0 x5_1 x6_1 = some r) ∧ Aside0 (kq ≤ k) ∧ Aside0 (Kd.R Kd.bool 4 w' w.heap.size (fun _ => True) v165 x5_1) ∧ Aside0 (Kd.Q (Kd.int .i64) 3 w' w.heap.size (fun _ => True) v6 x6_1) ∧ Aside0 (Below w.heap.size w w'))
          case atStart => exact ⟨(y164), (t168), H', ⟨Nat.le_refl _⟩, ⟨by (with_reducible repeat (first | apply Kd.R_alloc | apply Kd.R_drewN | apply Kd.R_drew)); exact HO166.out⟩, ⟨Kd.Q_of_R (by (with_reducible repeat (first | apply Kd.R_alloc | apply Kd.R_drewN | apply Kd.R_drew)); exact HO170.out)⟩, ⟨by repeat (first | (with_reducible first | exact HB.out | apply below_alloc | apply pw_below_drewN | apply below_drew1) | exact HB.out)⟩⟩
          case round =>
            clear H'
            try clear c1
            try clear p1
            try clear q1
            try clear hx1
            try clear c2
            try clear p2
            try clear c3
            try clear c3b0
            try clear c3b1
            try clear c4
            try clear c4b0
            try clear c4b1
            try clear c5
            try clear c5b0
            try clear c6
            try clear c6b0
            try clear hx167_0
            try clear p167
            try clear q167
            obtain ⟨x5_1, x6_1, HA, HK1, HO_5, HO_6, HB⟩ := hrel
            cases gk with
            | zero => exact absurd HA.out (by simp [depgraph_reach.l0])
            | succ k1 =>
              have H := HA.out
              clear HA
              simp only [depgraph_reach.l0] at H
              by_cases c11 : (x6_1.length : Int) > 0
              · rw [if_pos c11] at H
                have c11b0 : decide (0 < (x6_1.length : Int)) = true := decide_eq_true c11
                have c11b1 : decide (0 < x6_1.length) = true := decide_eq_true (by omega)
                clear c11
                by_cases c12 : 0 < (x6_1.length : Int)
                · rw [if_pos c12] at H
                  have c12b0 : decide (0 < (x6_1.length : Int)) = true := decide_eq_true c12
                  have c12b1 : decide (0 < x6_1.length) = true := decide_eq_true (by omega)
                  clear c12
                  by_cases c13 : 1 ≤ (x6_1.length : Int)
                  · rw [if_pos c13] at H
                    have c13b0 := eq_true c13
                    have c13b1 : decide (1 ≤ (x6_1.length : Int)) = true := decide_eq_true c13
                    clear c13
                    obtain ⟨y172, hy172⟩ : ∃ y_ : List Int, y_ = (x6_1.drop (1 : Int).toNat) := ⟨_, rfl⟩
                    replace H : (if 0 ≤ (rd x6_1 0) then (if (rd x6_1 0) < (x5_1.length : Int) then (if (rdOf false x5_1 (rd x6_1 0) = true) then (depgraph_reach.l0 k1 l0 x5_1 y172) else (if (rd x6_1 0) < (l0.length : Int) then (if y172.length + (rd_L1 l0 (rd x6_1 0)).length < 17592186044416 then (depgraph_reach.l0 k1 l0 (x5_1.set ((rd x6_1 0) : Int).toNat true) (y172 ++ (rd_L1 l0 (rd x6_1 0)))) else (none)) else (none))) else (none)) else (none)) = some r := by first | (rw [hy172]; with_reducible exact H) | (have H2_ := (Option.bind_some _ _).symm.trans H; rw [hy172]; with_reducible exact H2_) | (have H2_ := (Option.bind_some _ _).symm.trans H; with_reducible exact H2_) | with_reducible exact H | (rw [hy172]; exact H) | exact H
                    have Ny172 := Aside0.mk hy172
                    clear hy172
                    by_cases c14 : 0 ≤ (rd x6_1 0)
                    · rw [if_pos c14] at H
                      have c14b0 : decide (0 ≤ (rd x6_1 0)) = true := decide_eq_true c14
                      clear c14
                      by_cases c15 : (rd x6_1 0) < (x5_1.length : Int)
                      · rw [if_pos c15] at H
                        have c15b0 : decide ((rd x6_1 0) < (x5_1.length : Int)) = true := decide_eq_true c15
                        clear c15
                        obtain ⟨bq16, hbq16⟩ : ∃ b_ : Bool, b_ = (rdOf false x5_1 (rd x6_1 0)) := ⟨_, rfl⟩
                        replace H : (if (bq16 = true) then (depgraph_reach.l0 k1 l0 x5_1 y172) else (if (rd x6_1 0) < (l0.length : Int) then (if y172.length + (rd_L1 l0 (rd x6_1 0)).length < 17592186044416 then (depgraph_reach.l0 k1 l0 (x5_1.set ((rd x6_1 0) : Int).toNat true) (y172 ++ (rd_L1 l0 (rd x6_1 0)))) else (none)) else (none))) = some r := by rw [← hbq16] at H; exact H
                        have Nbq16 := Aside0.mk hbq16
                        clear hbq16
                        by_cases c17 : (bq16 = true)
                        · subst c17
                          have H1 : (depgraph_reach.l0 k1 l0 x5_1 y172) = some r := by rw [if_pos rfl] at H; exact H
                          clear H
                          have H := H1
                          clear H1
                          have H' := Aside0.mk H
                          clear H
                          obtain ⟨Ao18, co18, eo18, _⟩ := Kd.Q_slice HO_6.out
                          subst eo18
                          have p171 : 0 ≤ (0 : Int) := (by omega)
                          have q171 : 0 < (x6_1.length : Int) := of_decide_eq_true (by first | (with_reducible assumption) | assumption)
                          obtain ⟨ad171, e171, hx171_0⟩ := Kd.at_int (Kd.Q_reads' HO_6.out).2.2 0 p171 q171
                          cases e171
                          have qi171 : (0 < x6_1.length) = True := eq_true (by omega)
                          (try rw [show ((0 : Int)).toNat = 0 from rfl] at hx171_0)
                          (try rw [Addr.add_zero'] at hx171_0)
                          replace p171 := eq_true p171
                          replace q171 := eq_true q171
                          have q19 : (1 : Int) ≤ ((x6_1.length : Int) : Int) := of_decide_eq_true (by first | (with_reducible assumption) | assumption)
                          obtain ⟨i019, hi019, _, hsz19, _⟩ := info_parts info3
                          have hcut19 := cut_from (P := Tryd.prog) 28 3 .i64 Tryd.underlying28 hi019 1 hsz19 (some ad171) x6_1.length co18 1 (by omega) q19
                          have hr19 := Kd.Q_drop (k := (1 : Int).toNat) HO_6.out (by omega)
                          obtain ⟨A19, hA19⟩ : ∃ A1, A1 = (if co18 = (1 : Int).toNat then (some ad171) else ((some ad171) : Option Addr).map (·.add ((1 : Int).toNat * 1))) := ⟨_, rfl⟩
                          obtain ⟨c19, hc19⟩ : ∃ c1, c1 = co18 - (1 : Int).toNat := ⟨_, rfl⟩
                          have hy19 : y172.length = x6_1.length - (1 : Int).toNat := (by rw [Ny172.out, List.length_drop])
                          rw [← Ny172.out] at hr19
                          rw [← hy19, ← hA19, ← hc19] at hcut19
                          replace hr19 : Kd.Q (Kd.int .i64) 3 wr w.heap.size (fun _ => True) (.slice A19 y172.length c19) y172 := (by rw [hA19, hc19, hy19]; exact hr19)
                          have HE19 : Aside0 ((Value.slice A19 y172.length c19).ownBlock = (.slice (some ad171) x6_1.length co18 : Value).ownBlock) := ⟨by rw [hA19]; split <;> (cases ((some ad171) : Option Addr) <;> rfl)⟩
                          clear hy19 hi019 hsz19 HO_6 hA19 hc19
                          have HO174 := Aside0.mk hr19
                          clear hr19
                          replace q19 := eq_true q19
                          obtain ⟨Ao20, co20, eo20⟩ := Kd.R_slice HO_5.out
                          subst eo20
                          have p175 : 0 ≤ ((rd x6_1 0) : Int) := of_decide_eq_true (by first | (with_reducible assumption) | assumption)
                          have q175 : (rd x6_1 0) < (x5_1.length : Int) := of_decide_eq_true (by first | (with_reducible assumption) | assumption)
                          obtain ⟨ad175, e175, hx175_0⟩ := Kd.at_bool (Kd.R_reads' HO_5.out).2.2 (rd x6_1 0) p175 q175
                          (try rw [← Nbq16.out] at hx175_0)
                          cases e175
                          replace p175 := eq_true p175
                          replace q175 := eq_true q175
                          go_wp2
                          go_roundg k1
                          case measure => have := HK1.out; omega
                          case rel => exact ⟨(x5_1), (y172), H', ⟨by have := HK1.out; omega⟩, ⟨by (with_reducible repeat (first | apply Kd.R_alloc | apply Kd.R_drewN | apply Kd.R_drew)); exact HO_5.out⟩, ⟨by (with_reducible repeat (first | apply Kd.Q_alloc | apply Kd.Q_drewN | apply Kd.Q_drew)); exact HO174.out⟩, ⟨by repeat (first | (with_reducible first | exact HB.out | apply below_alloc | apply pw_below_drewN | apply below_drew1) | exact HB.out)⟩⟩
                        · replace c17 := Bool.eq_false_iff.mpr c17
                          subst c17
                          have H1 : (if (rd x6_1 0) < (l0.length : Int) then (if y172.length + (rd_L1 l0 (rd x6_1 0)).length < 17592186044416 then (depgraph_reach.l0 k1 l0 (x5_1.set ((rd x6_1 0) : Int).toNat true) (y172 ++ (rd_L1 l0 (rd x6_1 0)))) else (none)) else (none)) = some r := by rw [if_neg (show ¬ (false = true) by decide)] at H; exact H
                          clear H
                          have H := H1
                          clear H1
                          obtain ⟨y176, hy176⟩ : ∃ y_ : List Bool, y_ = (x5_1.set ((rd x6_1 0) : Int).toNat true) := ⟨_, rfl⟩
                          replace H : (if (rd x6_1 0) < (l0.length : Int) then (if y172.length + (rd_L1 l0 (rd x6_1 0)).length < 17592186044416 then (depgraph_reach.l0 k1 l0 y176 (y172 ++ (rd_L1 l0 (rd x6_1 0)))) else (none)) else (none)) = some r := by first | (rw [hy176]; with_reducible exact H) | (have H2_ := (Option.bind_some _ _).symm.trans H; rw [hy176]; with_reducible exact H2_) | (have H2_ := (Option.bind_some _ _).symm.trans H; with_reducible exact H2_) | with_reducible exact H | (rw [hy176]; exact H) | exact H
                          have Ny176 := Aside0.mk hy176
                          clear hy176
                          by_cases c22 : (rd x6_1 0) < (l0.length : Int)
                          · rw [if_pos c22] at H
                            have c22b0 : decide ((rd x6_1 0) < (l0.length : Int)) = true := decide_eq_true c22
                            clear c22
                            by_cases c23 : y172.length + (rd_L1 l0 (rd x6_1 0)).length < 17592186044416
                            · rw [if_pos c23] at H
                              have LMc23 := Aside0.mk c23
                              clear c23
                              obtain ⟨y178, hy178⟩ : ∃ y_ : List Int, y_ = (y172 ++ (rd_L1 l0 (rd x6_1 0))) := ⟨_, rfl⟩
                              replace H : (depgraph_reach.l0 k1 l0 y176 y178) = some r := by first | (rw [hy178]; with_reducible exact H) | (have H2_ := (Option.bind_some _ _).symm.trans H; rw [hy178]; with_reducible exact H2_) | (have H2_ := (Option.bind_some _ _).symm.trans H; with_reducible exact H2_) | with_reducible exact H | (rw [hy178]; exact H) | exact H
                              have Ny178 := Aside0.mk hy178
                              clear hy178
                              have H' := Aside0.mk H
                              clear H
                              obtain ⟨Ao24, co24, eo24, _⟩ := Kd.Q_slice HO_6.out
                              subst eo24
                              have p171 : 0 ≤ (0 : Int) := (by omega)
                              have q171 : 0 < (x6_1.length : Int) := of_decide_eq_true (by first | (with_reducible assumption) | assumption)
                              obtain ⟨ad171, e171, hx171_0⟩ := Kd.at_int (Kd.Q_reads' HO_6.out).2.2 0 p171 q171
                              cases e171
                              have qi171 : (0 < x6_1.length) = True := eq_true (by omega)
                              (try rw [show ((0 : Int)).toNat = 0 from rfl] at hx171_0)
                              (try rw [Addr.add_zero'] at hx171_0)
                              replace p171 := eq_true p171
                              replace q171 := eq_true q171
                              have q25 : (1 : Int) ≤ ((x6_1.length : Int) : Int) := of_decide_eq_true (by first | (with_reducible assumption) | assumption)
                              obtain ⟨i025, hi025, _, hsz25, _⟩ := info_parts info3
                              have hcut25 := cut_from (P := Tryd.prog) 28 3 .i64 Tryd.underlying28 hi025 1 hsz25 (some ad171) x6_1.length co24 1 (by omega) q25
                              have hr25 := Kd.Q_drop (k := (1 : Int).toNat) HO_6.out (by omega)
                              obtain ⟨A25, hA25⟩ : ∃ A1, A1 = (if co24 = (1 : Int).toNat then (some ad171) else ((some ad171) : Option Addr).map (·.add ((1 : Int).toNat * 1))) := ⟨_, rfl⟩
                              obtain ⟨c25, hc25⟩ : ∃ c1, c1 = co24 - (1 : Int).toNat := ⟨_, rfl⟩
                              have hy25 : y172.length = x6_1.length - (1 : Int).toNat := (by rw [Ny172.out, List.length_drop])
                              rw [← Ny172.out] at hr25
                              rw [← hy25, ← hA25, ← hc25] at hcut25
                              replace hr25 : Kd.Q (Kd.int .i64) 3 wr w.heap.size (fun _ => True) (.slice A25 y172.length c25) y172 := (by rw [hA25, hc25, hy25]; exact hr25)
                              have HE25 : Aside0 ((Value.slice A25 y172.length c25).ownBlock = (.slice (some ad171) x6_1.length co24 : Value).ownBlock) := ⟨by rw [hA25]; split <;> (cases ((some ad171) : Option Addr) <;> rfl)⟩
                              clear hy25 hi025 hsz25 HO_6 hA25 hc25
                              have HO174 := Aside0.mk hr25
                              clear hr25
                              replace q25 := eq_true q25
                              obtain ⟨Ao26, co26, eo26⟩ := Kd.R_slice HO_5.out
                              subst eo26
                              have p175 : 0 ≤ ((rd x6_1 0) : Int) := of_decide_eq_true (by first | (with_reducible assumption) | assumption)
                              have q175 : (rd x6_1 0) < (x5_1.length : Int) := of_decide_eq_true (by first | (with_reducible assumption) | assumption)
                              obtain ⟨ad175, e175, hx175_0⟩ := Kd.at_bool (Kd.R_reads' HO_5.out).2.2 (rd x6_1 0) p175 q175
                              (try rw [← Nbq16.out] at hx175_0)
                              cases e175
                              replace p175 := eq_true p175
                              replace q175 := eq_true q175
                              have p21 : 0 ≤ ((rd x6_1 0) : Int) := of_decide_eq_true (by first | (with_reducible assumption) | assumption)
                              have q21 : ((rd x6_1 0) : Int) < ((x5_1.length : Int) : Int) := of_decide_eq_true (by first | (with_reducible assumption) | assumption)
                              obtain ⟨go21, co21, eo21, gb21, gl21, cl21, HG21⟩ := Kd.R_form HO_5.out (by omega)
                              (first | cases eo21 | (injection eo21 with ea_ en_ ec_; (first | subst ea_ | (injection ea_ with ea_; subst ea_)); subst ec_; clear en_))
                              have GB21 := Aside0.mk gb21
                              have GG21 := Aside0.mk HG21
                              clear gb21 gl21 HG21
                              (first | simp only [add_plain] at hx175_0 | skip)
                              obtain ⟨hx21_0, hf21_0⟩ := Kd.R_celln false HO_5.out ((rd x6_1 0) : Int) p21 q21
                              replace p21 := eq_true p21
                              replace q21 := eq_true q21
                              have HP27 := Kd.R_putg HO_5.out ((rd x6_1 0) : Int) true
                              go_wp2_with (first | ((with_reducible refine gate_store (t := 4) (p := 31) rfl ?_); refine store_event (t := 4) (p := 31) (v := ?vo_w28) (w1 := (wr.setCell ⟨go21, ((rd x6_1 0) : Int).toNat, none⟩ (.bool true))) ?hg ?ho ?hn ?hr ?_; (case ho => rfl); (case hg => rfl); (case hn => rfl); (case hr => first | (go_simp; done) | (go_simp; rfl)); intro w28 hw; have hg : wr.grownBy w28 (some go21) := (by rw [hw]; exact HP27.2); have hp_ : Kd.R Kd.bool 4 w28 w.heap.size (fun _ => True) (.slice (some ⟨go21, 0, none⟩) x5_1.length co26) y176 := (by rw [hw, Ny176.out]; exact HP27.1); clear HP27; have n0_ := Aside0.mk (hp_); have n1_ := Aside0.mk (Kd.Q_over' (v := (.slice (some ⟨go21, 0, none⟩) x5_1.length co26)) (by (with_reducible repeat (first | apply Kd.Q_alloc | apply Kd.Q_drewN | apply Kd.Q_drew)); exact HO174.out) (Kd.R_typed HO_5.out) (by decide) hg); have n2_ := Aside0.mk ((by rw [hw]; exact below_set (HB.out) GB21.out : Below w.heap.size w w28)); clear HO_5; clear HO174; clear HB; have HO_5 := n0_; have HO174 := n1_; have HB := n2_; clear n0_ n1_ n2_; clear hg hw hp_; have p177 : 0 ≤ ((rd x6_1 0) : Int) := of_decide_eq_true (by first | (with_reducible assumption) | assumption); have q177 : (rd x6_1 0) < (l0.length : Int) := of_decide_eq_true (by first | (with_reducible assumption) | assumption); obtain ⟨ad177, A177_0, c177_0, e177, hx177_0, hl177_0, hi177_0⟩ := at_L1 HR0.out (rd x6_1 0) p177 q177; obtain rfl : ad167 = ad177 := (by injection e177); replace hx177_0 := (HB.out.cell (World.block_lt_of_cell? w _ hx177_0)).trans hx177_0; have HR177_0 := Aside0.mk hi177_0; have HC177_0 := Aside0.mk hl177_0; clear hi177_0 hl177_0; replace p177 := eq_true p177; replace q177 := eq_true q177) | ((with_reducible refine gate_builtin (b := .append) (xs := #[.tmp 32, .tmp 36]) rfl ?_); at_builtin; refine Kd.Q_append_rows (Kd.int .i64) (w0 := w) w.heap.size rfl (.tmp 32) (.tmp 36) 28 3 (.int .i64 0) 8 rfl Tryd.underlying28 info3 rfl (by decide) (by omega) (.slice A25 y172.length c25) y172 (rd_L1 l0 (rd x6_1 0)) _ _ _ (fun _ => True) (fun _ => False) rfl rfl ?aO ?aR (fun _ _ h => h) (fun _ h => h.elim) ?aF ?aB ?aS ?aL ?_; (case aR => repeat (first | exact (Kd.C_below HR177_0.out HB.out) | (with_reducible refine Kd.C_alloc ?_ _) | (with_reducible refine Kd.C_drewN ?_ _) | (with_reducible refine Kd.C_drew ?_))); (case aB => exact (by repeat (first | (with_reducible first | exact HB.out | apply below_alloc | apply pw_below_drewN | apply below_drew1) | exact HB.out))); (case aF => exact (fun _ _ => trivial)); (case aO => exact (by (with_reducible repeat (first | apply Kd.Q_alloc | apply Kd.Q_drewN | apply Kd.Q_drew)); exact HO174.out)); (case aS => exact (below_size (by repeat (first | (with_reducible first | exact HB.out | apply below_alloc | apply pw_below_drewN | apply below_drew1) | exact HB.out)))); (case aL => have := LMc23.out; omega); intro v179 w29 ho hb hg hat; rw [← Ny178.out] at ho; have n0_ := Aside0.mk (Kd.R_over' (by (with_reducible repeat (first | apply Kd.R_alloc | apply Kd.R_drewN | apply Kd.R_drew)); exact HO_5.out) (Kd.Q_typed (by (with_reducible repeat (first | apply Kd.Q_alloc | apply Kd.Q_drewN | apply Kd.Q_drew)); exact HO174.out)) (by decide) hg); have n1_ := Aside0.mk (hb); have n2_ := Aside0.mk (ho); clear HO_5; clear HB; clear HO174; have HO_5 := n0_; have HB := n1_; have HO180 := n2_; clear n0_ n1_ n2_; clear ho hb hg hat))
                              go_roundg k1
                              case measure => have := HK1.out; omega
                              case rel => exact ⟨(y176), (y178), H', ⟨by have := HK1.out; omega⟩, ⟨by (with_reducible repeat (first | apply Kd.R_alloc | apply Kd.R_drewN | apply Kd.R_drew)); exact HO_5.out⟩, ⟨by (with_reducible repeat (first | apply Kd.Q_alloc | apply Kd.Q_drewN | apply Kd.Q_drew)); exact HO180.out⟩, ⟨by repeat (first | (with_reducible first | exact HB.out | apply below_alloc | apply pw_below_drewN | apply below_drew1) | exact HB.out)⟩⟩
                            · rw [if_neg c23] at H
                              exact absurd H (by simp)
                          · rw [if_neg c22] at H
                            exact absurd H (by simp)
                      · rw [if_neg c15] at H
                        exact absurd H (by simp)
                    · rw [if_neg c14] at H
                      exact absurd H (by simp)
                  · rw [if_neg c13] at H
                    exact absurd H (by simp)
                · rw [if_neg c12] at H
                  exact absurd H (by simp)
              · rw [if_neg c11] at H
                have c11b0 : decide (0 < (x6_1.length : Int)) = false := decide_eq_false c11
                have c11b1 : decide (0 < x6_1.length) = false := decide_eq_false (by omega)
                clear c11
                obtain rfl := Option.some.inj H
                obtain ⟨Ao30, co30, eo30, _⟩ := Kd.Q_slice HO_6.out
                subst eo30
                go_wp2
                go_ret
                exact ⟨_, by first | rfl | (simp [errW_none, errW_some] <;> rfl) | (simp [*, errW_none, errW_some] <;> rfl), by (with_reducible repeat (first | apply Kd.R_alloc | apply Kd.R_drewN | apply Kd.R_drew)); exact HO_5.out, by repeat (first | (with_reducible first | exact HB.out | apply below_alloc | apply pw_below_drewN | apply below_drew1) | exact HB.out)⟩
        · rw [if_neg c6] at H
          exact absurd H (by simp)
      · rw [if_neg c5] at H
        exact absurd H (by simp)
    · rw [if_neg c4] at H
      exact absurd H (by simp)
  · rw [if_neg c3] at H
    exact absurd H (by simp)

def depgraph_first.l0 : Nat → List (List Int) → Int → Int → Option (Int)
  | 0, _, _, _ => none
  | k + 1, x0, x5, x6 => if x6 < x5 then ((depgraph_reach.f k x0 x6).bind fun t181 => (if 0 ≤ x6 then (if x6 < (t181.length : Int) then (if rdOf false t181 x6 = true then (some x6) else (depgraph_first.l0 k x0 x5 (wrap64 (x6 + 1)))) else (none)) else (none))) else (some (-1))
def depgraph_first.f (k : Nat) (l0 : List (List Int)) : Option (Int) := depgraph_first.l0 k l0 (l0.length : Int) 0
theorem depgraph_first.mono_l : ∀ k, (∀ y0 y1 y2, LeO (depgraph_first.l0 k y0 y1 y2) (depgraph_first.l0 (k + 1) y0 y1 y2))
  | 0 => fun _ _ _ r h => by simp [depgraph_first.l0] at h
  | k + 1 => by
    have ih0 := depgraph_first.mono_l k
    · intro y0 y1 y2
      unfold depgraph_first.l0
      repeat' first
      | (with_reducible exact ih0 _ _ _)
      | (with_reducible exact depgraph_reach.mono _ _ _)
      | (with_reducible exact LeO.refl _)
      | (with_reducible exact LeO.none _)
      | (with_reducible refine LeO.ite ?_ ?_)
      | (with_reducible refine LeO.bind ?_ (fun _ => ?_))
      | exact ih0 _ _ _
      | exact depgraph_reach.mono _ _ _
      | exact LeO.none _
      | refine LeO.ite ?_ ?_
      | refine LeO.bind ?_ (fun _ => ?_)
theorem depgraph_first.mono : ∀ a0 k, LeO (depgraph_first.f k a0) (depgraph_first.f (k + 1) a0) := by
  intro a0 k
  have ih0 := depgraph_first.mono_l k
  unfold depgraph_first.f
  repeat' first
      | (with_reducible exact ih0 _ _ _)
      | (with_reducible exact depgraph_reach.mono _ _ _)
      | (with_reducible exact LeO.refl _)
      | (with_reducible exact LeO.none _)
      | (with_reducible refine LeO.ite ?_ ?_)
      | (with_reducible refine LeO.bind ?_ (fun _ => ?_))
      | exact ih0 _ _ _
      | exact depgraph_reach.mono _ _ _
      | exact LeO.none _
      | refine LeO.ite ?_ ?_
      | refine LeO.bind ?_ (fun _ => ?_)
set_option maxHeartbeats 8000000 in
set_option maxRecDepth 100000 in
theorem depgraph_first.calls (k : Nat) (A0 : Option Addr) (c0 : Nat) (l0 : List (List Int)) (r : Int) (w : World) (hr0 : Kd.C (Kd.slice 3 (Kd.int .i64)) w A0 l0.length l0) (hc0 : l0.length ≤ c0) (h : depgraph_first.f k l0 = some r) :
    Calls Tryd.prog 18 #[.slice A0 l0.length c0] w fun e w' => e = .returned (.int .i64 r) ∧ Below w.heap.size w w' := by
  have HR0 := Aside0.mk hr0
  have HC0 := Aside0.mk hc0
  clear hr0 hc0
  have HB := Aside0.mk (Below.refl w.heap.size w)
  have H : (depgraph_first.l0 k l0 (l0.length : Int) 0) = some r := h
  clear h
  have H' := Aside0.mk H
  clear H
  go_enter Tryd.func18, Tryd.ntmps18
  go_wp2
  go_loopg [6] k (fun kq v6 w' => ∃ (x6_1 : Int), v6 = .int .i64 x6_1 ∧ Aside0 (depgraph_first.l0 kq l0 (l0.length : Int) x6_1 = some r) ∧ Aside0 (kq ≤ k) ∧ Aside0 (Below w.heap.size w w'))
  case atStart => exact ⟨(0), (by first | rfl | (simp; done) | (simp [*]; done)), H', ⟨Nat.le_refl _⟩, ⟨by repeat (first | (with_reducible first | exact HB.out | apply below_alloc | apply pw_below_drewN | apply below_drew1) | exact HB.out)⟩⟩
  case round =>
    clear H'
    try clear c1
    obtain ⟨x6_1, rfl, HA, HK1, HB⟩ := hrel
    cases gk with
    | zero => exact absurd HA.out (by simp [depgraph_first.l0])
    | succ k1 =>
      have H := HA.out
      clear HA
      simp only [depgraph_first.l0] at H
      by_cases c2 : x6_1 < (l0.length : Int)
      · rw [if_pos c2] at H
        have c2b0 : decide (x6_1 < (l0.length : Int)) = true := decide_eq_true c2
        clear c2
        replace H := Option.bind_eq_some_iff.mp H
        obtain ⟨t181, A30, H⟩ := H
        replace H : (if 0 ≤ x6_1 then (if x6_1 < (t181.length : Int) then (if rdOf false t181 x6_1 = true then (some x6_1) else (depgraph_first.l0 k1 l0 (l0.length : Int) (wrap64 (x6_1 + 1)))) else (none)) else (none)) = some r := H
        have A3 := Aside0.mk A30
        clear A30
        by_cases c4 : 0 ≤ x6_1
        · rw [if_pos c4] at H
          have c4b0 : decide (0 ≤ x6_1) = true := decide_eq_true c4
          clear c4
          by_cases c5 : x6_1 < (t181.length : Int)
          · rw [if_pos c5] at H
            have c5b0 : decide (x6_1 < (t181.length : Int)) = true := decide_eq_true c5
            clear c5
            obtain ⟨bq6, hbq6⟩ : ∃ b_ : Bool, b_ = (rdOf false t181 x6_1) := ⟨_, rfl⟩
            replace H : (if bq6 = true then (some x6_1) else (depgraph_first.l0 k1 l0 (l0.length : Int) (wrap64 (x6_1 + 1)))) = some r := by rw [← hbq6] at H; exact H
            have Nbq6 := Aside0.mk hbq6
            clear hbq6
            by_cases c7 : bq6 = true
            · subst c7
              have H1 : (some x6_1) = some r := by rw [if_pos rfl] at H; exact H
              clear H
              have H := H1
              clear H1
              obtain rfl := Option.some.inj H
              go_wp2_with (first | ((with_reducible refine gate_callee (f := 23) rfl ?_); refine goesL_ (some 11) rfl rfl Tryd.func23 (by kernel_rfl) rfl #[.slice A0 l0.length c0, .int .i64 x6_1] rfl (by (try simp only [List.map_toArray, List.map_cons, List.map_nil]); first | done | rfl | (simp only [List.length_drop, List.length_take]; rfl)) ?_; (with_reducible refine (depgraph_reach.calls k1 _ _ l0 x6_1 t181 _ ?side1 ?side2 A3.out).mono ?_); (case side1 => repeat (first | exact (Kd.C_below HR0.out HB.out) | (with_reducible refine Kd.C_alloc ?_ _) | (with_reducible refine Kd.C_drewN ?_ _) | (with_reducible refine Kd.C_drew ?_))); (case side2 => exact HC0.out); rintro e w8 ⟨v182, rfl, ho0, hb⟩; refine ⟨_, rfl, ?_⟩; have n0_ := Aside0.mk (Kd.R_lower ho0 (below_size (by repeat (first | (with_reducible first | exact HB.out | apply below_alloc | apply pw_below_drewN | apply below_drew1) | exact HB.out)))); have n1_ := Aside0.mk (below_step (by repeat (first | (with_reducible first | exact HB.out | apply below_alloc | apply pw_below_drewN | apply below_drew1) | exact HB.out)) hb); clear HB; have HO183 := n0_; have HB := n1_; clear n0_ n1_; (try clear hb); (try clear hb2); (try clear hk); (try clear hi); (try clear ho0); obtain ⟨Ao9, co9, eo9⟩ := Kd.R_slice HO183.out; subst eo9; have p184 : 0 ≤ (x6_1 : Int) := of_decide_eq_true (by first | (with_reducible assumption) | assumption); have q184 : x6_1 < (t181.length : Int) := of_decide_eq_true (by first | (with_reducible assumption) | assumption); obtain ⟨ad184, e184, hx184_0⟩ := Kd.at_bool (Kd.R_reads' HO183.out).2.2 x6_1 p184 q184; (try rw [← Nbq6.out] at hx184_0); cases e184; replace p184 := eq_true p184; replace q184 := eq_true q184))
              go_ret
              exact ⟨by first | rfl | (simp [errW_none, errW_some] <;> rfl) | (simp [*, errW_none, errW_some] <;> rfl), by repeat (first | (with_reducible first | exact HB.out | apply below_alloc | apply pw_below_drewN | apply below_drew1) | exact HB.out)⟩
            · replace c7 := Bool.eq_false_iff.mpr c7
              subst c7
              have H1 : (depgraph_first.l0 k1 l0 (l0.length : Int) (wrap64 (x6_1 + 1))) = some r := by rw [if_neg (show ¬ (false = true) by decide)] at H; exact H
              clear H
              have H := H1
              clear H1
              have H' := Aside0.mk H
              clear H
              go_wp2_with (first | ((with_reducible refine gate_callee (f := 23) rfl ?_); refine goesL_ (some 11) rfl rfl Tryd.func23 (by kernel_rfl) rfl #[.slice A0 l0.length c0, .int .i64 x6_1] rfl (by (try simp only [List.map_toArray, List.map_cons, List.map_nil]); first | done | rfl | (simp only [List.length_drop, List.length_take]; rfl)) ?_; (with_reducible refine (depgraph_reach.calls k1 _ _ l0 x6_1 t181 _ ?side1 ?side2 A3.out).mono ?_); (case side1 => repeat (first | exact (Kd.C_below HR0.out HB.out) | (with_reducible refine Kd.C_alloc ?_ _) | (with_reducible refine Kd.C_drewN ?_ _) | (with_reducible refine Kd.C_drew ?_))); (case side2 => exact HC0.out); rintro e w10 ⟨v182, rfl, ho0, hb⟩; refine ⟨_, rfl, ?_⟩; have n0_ := Aside0.mk (Kd.R_lower ho0 (below_size (by repeat (first | (with_reducible first | exact HB.out | apply below_alloc | apply pw_below_drewN | apply below_drew1) | exact HB.out)))); have n1_ := Aside0.mk (below_step (by repeat (first | (with_reducible first | exact HB.out | apply below_alloc | apply pw_below_drewN | apply below_drew1) | exact HB.out)) hb); clear HB; have HO183 := n0_; have HB := n1_; clear n0_ n1_; (try clear hb); (try clear hb2); (try clear hk); (try clear hi); (try clear ho0); obtain ⟨Ao11, co11, eo11⟩ := Kd.R_slice HO183.out; subst eo11; have p184 : 0 ≤ (x6_1 : Int) := of_decide_eq_true (by first | (with_reducible assumption) | assumption); have q184 : x6_1 < (t181.length : Int) := of_decide_eq_true (by first | (with_reducible assumption) | assumption); obtain ⟨ad184, e184, hx184_0⟩ := Kd.at_bool (Kd.R_reads' HO183.out).2.2 x6_1 p184 q184; (try rw [← Nbq6.out] at hx184_0); cases e184; replace p184 := eq_true p184; replace q184 := eq_true q184))
              go_roundg k1
              case measure => have := HK1.out; omega
              case rel => exact ⟨(wrap64 (x6_1 + 1)), (by first | rfl | (simp; done) | (simp [*]; done)), H', ⟨by have := HK1.out; omega⟩, ⟨by repeat (first | (with_reducible first | exact HB.out | apply below_alloc | apply pw_below_drewN | apply below_drew1) | exact HB.out)⟩⟩
          · rw [if_neg c5] at H
            exact absurd H (by simp)
        · rw [if_neg c4] at H
          exact absurd H (by simp)
      · rw [if_neg c2] at H
        have c2b0 : decide (x6_1 < (l0.length : Int)) = false := decide_eq_false c2
        clear c2
        obtain rfl := Option.some.inj H
        go_wp2
        go_ret
        exact ⟨by first | rfl | (simp [errW_none, errW_some] <;> rfl) | (simp [*, errW_none, errW_some] <;> rfl), by repeat (first | (with_reducible first | exact HB.out | apply below_alloc | apply pw_below_drewN | apply below_drew1) | exact HB.out)⟩

def depgraph_acyclic.f (k : Nat) (l0 : List (List Int)) : Option (Int × Int) := (depgraph_Validate.f k l0).bind fun bt186 => (if (!(bt186.1 == 0) || (!(bt186.2 == 0))) = true then (some (bt186.1, bt186.2)) else ((depgraph_first.f k l0).bind fun t189 => (if t189 ≥ 0 then (some (20, t189)) else (some (0, 0)))))
theorem depgraph_acyclic.mono : ∀ a0 k, LeO (depgraph_acyclic.f k a0) (depgraph_acyclic.f (k + 1) a0) := by
  intro a0 k
  unfold depgraph_acyclic.f
  repeat' first
      | (with_reducible exact depgraph_Validate.mono _ _)
      | (with_reducible exact depgraph_first.mono _ _)
      | (with_reducible exact LeO.refl _)
      | (with_reducible exact LeO.none _)
      | (with_reducible refine LeO.ite ?_ ?_)
      | (with_reducible refine LeO.bind ?_ (fun _ => ?_))
      | exact depgraph_Validate.mono _ _
      | exact depgraph_first.mono _ _
      | exact LeO.none _
      | refine LeO.ite ?_ ?_
      | refine LeO.bind ?_ (fun _ => ?_)
set_option maxHeartbeats 8000000 in
set_option maxRecDepth 100000 in
theorem depgraph_acyclic.calls (k : Nat) (A0 : Option Addr) (c0 : Nat) (l0 : List (List Int)) (r1 : Int) (r2 : Int) (w : World) (hr0 : Kd.C (Kd.slice 3 (Kd.int .i64)) w A0 l0.length l0) (hc0 : l0.length ≤ c0) (h : depgraph_acyclic.f k l0 = some (r1, r2)) :
    Calls Tryd.prog 10 #[.slice A0 l0.length c0] w fun e w' => e = .returned (.agg #[.int .i64 r1, .int .i64 r2]) ∧ Below w.heap.size w w' := by
  have hu25 := Tryd.underlying25
  have HR0 := Aside0.mk hr0
  have HC0 := Aside0.mk hc0
  clear hr0 hc0
  have HB := Aside0.mk (Below.refl w.heap.size w)
  have H : ((depgraph_Validate.f k l0).bind fun bt186 => (if (!(bt186.1 == 0) || (!(bt186.2 == 0))) = true then (some (bt186.1, bt186.2)) else ((depgraph_first.f k l0).bind fun t189 => (if t189 ≥ 0 then (some (20, t189)) else (some (0, 0)))))) = some (r1, r2) := h
  clear h
  replace H := Option.bind_eq_some_iff.mp H
  obtain ⟨⟨t186, t187⟩, A20, H⟩ := H
  replace H : (if (!(t186 == 0) || (!(t187 == 0))) = true then (some (t186, t187)) else ((depgraph_first.f k l0).bind fun t189 => (if t189 ≥ 0 then (some (20, t189)) else (some (0, 0))))) = some (r1, r2) := H
  have A2 := Aside0.mk A20
  clear A20
  by_cases c3 : (!(t186 == 0) || (!(t187 == 0))) = true
  · rw [if_pos c3] at H
    have c3b0 : (!(t186 == 0) || (!(t187 == 0))) = true := c3
    clear c3
    simp only [Option.some.injEq, Prod.mk.injEq] at H
    obtain ⟨rfl, rfl⟩ := H
    go_enter Tryd.func10, Tryd.ntmps10
    go_wp2_with (first | ((with_reducible refine gate_dst (N := 2) rfl ?_); refine box_event ?hg (N := 2) ?hd (cs := #[.int .i64 0, .int .i64 0]) (t := 25) ?hr ?_; (case hd => rfl); (case hg => rfl); (case hr => first | (go_simp; done) | (go_simp; rfl)); intro gb185 hg w4 hbox hb; have n0_ := Aside0.mk (below_step (by repeat (first | (with_reducible first | exact HB.out | apply below_alloc | apply pw_below_drewN | apply below_drew1) | exact HB.out)) hb); have n1_ := Aside0.mk (hbox); have n2_ := Aside0.mk ((by rw [hg]; exact (below_size (by repeat (first | (with_reducible first | exact HB.out | apply below_alloc | apply pw_below_drewN | apply below_drew1) | exact HB.out))) : w.heap.size ≤ gb185)); have n3_ := Aside0.mk ((by rw [hg]; exact (below_size (by repeat (first | (with_reducible first | exact HB.out | apply below_alloc | apply pw_below_drewN | apply below_drew1) | exact HB.out))) : w.heap.size ≤ gb185)); clear HB; have HB := n0_; have BK185 := n1_; have GW185 := n2_; have GE185 := n3_; clear n0_ n1_ n2_ n3_; clear hb hbox hg) | ((with_reducible refine gate_callee (f := 17) rfl ?_); refine goesL_ (some 6) rfl rfl Tryd.func17 (by kernel_rfl) rfl #[.slice A0 l0.length c0] rfl (by (try simp only [List.map_toArray, List.map_cons, List.map_nil]); first | done | rfl | (simp only [List.length_drop, List.length_take]; rfl)) ?_; (with_reducible refine (depgraph_Validate.calls k _ _ l0 t186 t187 _ ?side1 ?side2 A2.out).mono ?_); (case side1 => repeat (first | exact (Kd.C_below HR0.out HB.out) | (with_reducible refine Kd.C_alloc ?_ _) | (with_reducible refine Kd.C_drewN ?_ _) | (with_reducible refine Kd.C_drew ?_))); (case side2 => exact HC0.out); rintro e w5 ⟨rfl, hb⟩; refine ⟨_, rfl, ?_⟩; have n0_ := Aside0.mk (blk_below (g := gb185) (o := .cells #[.int .i64 0, .int .i64 0] 25 (0, 0)) (by (with_reducible repeat (first | refine blk_drewN ?_ _ | refine blk_drew ?_ | refine blk_alloc ?_ _)); exact BK185.out) hb); have n1_ := Aside0.mk (below_step (by repeat (first | (with_reducible first | exact HB.out | apply below_alloc | apply pw_below_drewN | apply below_drew1 | refine below_set ?_ GE185.out) | exact HB.out)) hb); clear BK185; clear HB; have BK185 := n0_; have HB := n1_; clear n0_ n1_; (try clear hb); (try clear hb2); (try clear hk); (try clear hi)) | ((with_reducible refine gate_dst (N := 3) rfl ?_); refine box_event ?hg (N := 3) ?hd (cs := #[.int .i64 0, .int .i64 0]) (t := 25) ?hr ?_; (case hd => rfl); (case hg => rfl); (case hr => first | (go_simp; done) | (go_simp; rfl)); intro gb188 hg w6 hbox hb; have n0_ := Aside0.mk (blk_below (g := gb185) (o := .cells #[.int .i64 0, .int .i64 0] 25 (0, 0)) (by (with_reducible repeat (first | refine blk_drewN ?_ _ | refine blk_drew ?_ | refine blk_alloc ?_ _)); exact BK185.out) hb); have n1_ := Aside0.mk (below_step (by repeat (first | (with_reducible first | exact HB.out | apply below_alloc | apply pw_below_drewN | apply below_drew1 | refine below_set ?_ GE185.out) | exact HB.out)) hb); have n2_ := Aside0.mk (hbox); have n3_ := Aside0.mk ((by rw [hg]; exact (below_size (by repeat (first | (with_reducible first | exact HB.out | apply below_alloc | apply pw_below_drewN | apply below_drew1 | refine below_set ?_ GE185.out) | exact HB.out))) : w.heap.size ≤ gb188)); have n4_ := Aside0.mk ((by rw [hg]; exact (below_size (by repeat (first | (with_reducible first | exact HB.out | apply below_alloc | apply pw_below_drewN | apply below_drew1 | refine below_set ?_ GE185.out) | exact HB.out))) : w.heap.size ≤ gb188)); have n5_ := Aside0.mk ((by rw [hg]; exact Nat.ne_of_lt (blk_lt (g := gb185) (o := .cells #[.int .i64 0, .int .i64 0] 25 (0, 0)) (by (with_reducible repeat (first | refine blk_drewN ?_ _ | refine blk_drew ?_ | refine blk_alloc ?_ _)); exact BK185.out)) : gb185 ≠ gb188)); have n6_ := Aside0.mk ((by rw [hg]; exact Nat.ne_of_gt (blk_lt (g := gb185) (o := .cells #[.int .i64 0, .int .i64 0] 25 (0, 0)) (by (with_reducible repeat (first | refine blk_drewN ?_ _ | refine blk_drew ?_ | refine blk_alloc ?_ _)); exact BK185.out)) : gb188 ≠ gb185)); clear BK185; clear HB; have BK185 := n0_; have HB := n1_; have BK188 := n2_; have GW188 := n3_; have GE188 := n4_; have NB185_188 := n5_; have NB188_185 := n6_; clear n0_ n1_ n2_ n3_ n4_ n5_ n6_; clear hb hbox hg; have hnb7 := NB188_185.out; have hnc7 := NB185_188.out; have hcz8_0 : w6.cell? ⟨gb188, 0, none⟩ = some (.int .i64 0) := (blk_cell BK188.out 0).trans rfl; have hcz8_1 : w6.cell? ⟨gb188, 1, none⟩ = some (.int .i64 0) := (blk_cell BK188.out 1).trans rfl; have hfz8_0 := blk_frozen BK188.out 0; have hfz8_1 := blk_frozen BK188.out 1; have hcz9_0 : w6.cell? ⟨gb185, 0, none⟩ = some (.int .i64 0) := (blk_cell BK185.out 0).trans rfl; have hcz9_1 : w6.cell? ⟨gb185, 1, none⟩ = some (.int .i64 0) := (blk_cell BK185.out 1).trans rfl; have hfz9_0 := blk_frozen BK185.out 0; have hfz9_1 := blk_frozen BK185.out 1))
    refine bodyPost_ret (results_cell_row rfl _ _ gb185 25 #[.int .i64 t186, .int .i64 t187] (0, 0) _ rfl (by (with_reducible repeat (first | refine blk_drewN ?_ _ | refine blk_drew ?_ | refine blk_alloc ?_ _)); refine blk_put (cs := #[.int .i64 t186, .int .i64 0]) ?_ 1 _ rfl; (with_reducible repeat (first | refine blk_drewN ?_ _ | refine blk_drew ?_ | refine blk_alloc ?_ _)); refine blk_put (cs := #[.int .i64 0, .int .i64 0]) ?_ 0 _ rfl; (with_reducible repeat (first | refine blk_drewN ?_ _ | refine blk_drew ?_ | refine blk_alloc ?_ _)); refine blk_far ?_ NB185_188.out _; (with_reducible repeat (first | refine blk_drewN ?_ _ | refine blk_drew ?_ | refine blk_alloc ?_ _)); refine blk_far ?_ NB185_188.out _; (with_reducible repeat (first | refine blk_drewN ?_ _ | refine blk_drew ?_ | refine blk_alloc ?_ _)); exact BK185.out) Tryd.underlying25 rfl (by kernel_rfl)) rfl ?_
    exact ⟨by first | rfl | (simp [errW_none, errW_some] <;> rfl) | (simp [*, errW_none, errW_some] <;> rfl), by repeat (first | (with_reducible first | exact HB.out | apply below_alloc | apply pw_below_drewN | apply below_drew1 | refine below_set ?_ GE185.out | refine below_set ?_ GE188.out) | exact HB.out)⟩
  · rw [if_neg c3] at H
    have c3b0 : (!(t186 == 0) || (!(t187 == 0))) = false := by simpa using c3
    clear c3
    replace H := Option.bind_eq_some_iff.mp H
    obtain ⟨t189, A100, H⟩ := H
    replace H : (if t189 ≥ 0 then (some (20, t189)) else (some (0, 0))) = some (r1, r2) := H
    have A10 := Aside0.mk A100
    clear A100
    by_cases c11 : t189 ≥ 0
    · rw [if_pos c11] at H
      have c11b0 : decide (0 ≤ t189) = true := decide_eq_true c11
      clear c11
      simp only [Option.some.injEq, Prod.mk.injEq] at H
      obtain ⟨rfl, rfl⟩ := H
      go_enter Tryd.func10, Tryd.ntmps10
      go_wp2_with (first | ((with_reducible refine gate_dst (N := 2) rfl ?_); refine box_event ?hg (N := 2) ?hd (cs := #[.int .i64 0, .int .i64 0]) (t := 25) ?hr ?_; (case hd => rfl); (case hg => rfl); (case hr => first | (go_simp; done) | (go_simp; rfl)); intro gb185 hg w12 hbox hb; have n0_ := Aside0.mk (below_step (by repeat (first | (with_reducible first | exact HB.out | apply below_alloc | apply pw_below_drewN | apply below_drew1) | exact HB.out)) hb); have n1_ := Aside0.mk (hbox); have n2_ := Aside0.mk ((by rw [hg]; exact (below_size (by repeat (first | (with_reducible first | exact HB.out | apply below_alloc | apply pw_below_drewN | apply below_drew1) | exact HB.out))) : w.heap.size ≤ gb185)); have n3_ := Aside0.mk ((by rw [hg]; exact (below_size (by repeat (first | (with_reducible first | exact HB.out | apply below_alloc | apply pw_below_drewN | apply below_drew1) | exact HB.out))) : w.heap.size ≤ gb185)); clear HB; have HB := n0_; have BK185 := n1_; have GW185 := n2_; have GE185 := n3_; clear n0_ n1_ n2_ n3_; clear hb hbox hg) | ((with_reducible refine gate_callee (f := 17) rfl ?_); refine goesL_ (some 6) rfl rfl Tryd.func17 (by kernel_rfl) rfl #[.slice A0 l0.length c0] rfl (by (try simp only [List.map_toArray, List.map_cons, List.map_nil]); first | done | rfl | (simp only [List.length_drop, List.length_take]; rfl)) ?_; (with_reducible refine (depgraph_Validate.calls k _ _ l0 t186 t187 _ ?side1 ?side2 A2.out).mono ?_); (case side1 => repeat (first | exact (Kd.C_below HR0.out HB.out) | (with_reducible refine Kd.C_alloc ?_ _) | (with_reducible refine Kd.C_drewN ?_ _) | (with_reducible refine Kd.C_drew ?_))); (case side2 => exact HC0.out); rintro e w13 ⟨rfl, hb⟩; refine ⟨_, rfl, ?_⟩; have n0_ := Aside0.mk (blk_below (g := gb185) (o := .cells #[.int .i64 0, .int .i64 0] 25 (0, 0)) (by (with_reducible repeat (first | refine blk_drewN ?_ _ | refine blk_drew ?_ | refine blk_alloc ?_ _)); exact BK185.out) hb); have n1_ := Aside0.mk (below_step (by repeat (first | (with_reducible first | exact HB.out | apply below_alloc | apply pw_below_drewN | apply below_drew1 | refine below_set ?_ GE185.out) | exact HB.out)) hb); clear BK185; clear HB; have BK185 := n0_; have HB := n1_; clear n0_ n1_; (try clear hb); (try clear hb2); (try clear hk); (try clear hi)) | ((with_reducible refine gate_dst (N := 3) rfl ?_); refine box_event ?hg (N := 3) ?hd (cs := #[.int .i64 0, .int .i64 0]) (t := 25) ?hr ?_; (case hd => rfl); (case hg => rfl); (case hr => first | (go_simp; done) | (go_simp; rfl)); intro gb188 hg w14 hbox hb; have n0_ := Aside0.mk (blk_below (g := gb185) (o := .cells #[.int .i64 0, .int .i64 0] 25 (0, 0)) (by (with_reducible repeat (first | refine blk_drewN ?_ _ | refine blk_drew ?_ | refine blk_alloc ?_ _)); exact BK185.out) hb); have n1_ := Aside0.mk (below_step (by repeat (first | (with_reducible first | exact HB.out | apply below_alloc | apply pw_below_drewN | apply below_drew1 | refine below_set ?_ GE185.out) | exact HB.out)) hb); have n2_ := Aside0.mk (hbox); have n3_ := Aside0.mk ((by rw [hg]; exact (below_size (by repeat (first | (with_reducible first | exact HB.out | apply below_alloc | apply pw_below_drewN | apply below_drew1 | refine below_set ?_ GE185.out) | exact HB.out))) : w.heap.size ≤ gb188)); have n4_ := Aside0.mk ((by rw [hg]; exact (below_size (by repeat (first | (with_reducible first | exact HB.out | apply below_alloc | apply pw_below_drewN | apply below_drew1 | refine below_set ?_ GE185.out) | exact HB.out))) : w.heap.size ≤ gb188)); have n5_ := Aside0.mk ((by rw [hg]; exact Nat.ne_of_lt (blk_lt (g := gb185) (o := .cells #[.int .i64 0, .int .i64 0] 25 (0, 0)) (by (with_reducible repeat (first | refine blk_drewN ?_ _ | refine blk_drew ?_ | refine blk_alloc ?_ _)); exact BK185.out)) : gb185 ≠ gb188)); have n6_ := Aside0.mk ((by rw [hg]; exact Nat.ne_of_gt (blk_lt (g := gb185) (o := .cells #[.int .i64 0, .int .i64 0] 25 (0, 0)) (by (with_reducible repeat (first | refine blk_drewN ?_ _ | refine blk_drew ?_ | refine blk_alloc ?_ _)); exact BK185.out)) : gb188 ≠ gb185)); clear BK185; clear HB; have BK185 := n0_; have HB := n1_; have BK188 := n2_; have GW188 := n3_; have GE188 := n4_; have NB185_188 := n5_; have NB188_185 := n6_; clear n0_ n1_ n2_ n3_ n4_ n5_ n6_; clear hb hbox hg; have hnb15 := NB188_185.out; have hnc15 := NB185_188.out; have hcz16_0 : w14.cell? ⟨gb188, 0, none⟩ = some (.int .i64 0) := (blk_cell BK188.out 0).trans rfl; have hcz16_1 : w14.cell? ⟨gb188, 1, none⟩ = some (.int .i64 0) := (blk_cell BK188.out 1).trans rfl; have hfz16_0 := blk_frozen BK188.out 0; have hfz16_1 := blk_frozen BK188.out 1) | ((with_reducible refine gate_callee (f := 18) rfl ?_); refine goesL_ (some 12) rfl rfl Tryd.func18 (by kernel_rfl) rfl #[.slice A0 l0.length c0] rfl (by (try simp only [List.map_toArray, List.map_cons, List.map_nil]); first | done | rfl | (simp only [List.length_drop, List.length_take]; rfl)) ?_; (with_reducible refine (depgraph_first.calls k _ _ l0 t189 _ ?side1 ?side2 A10.out).mono ?_); (case side1 => exact Kd.C_below HR0.out (by repeat (first | (with_reducible first | exact HB.out | apply below_alloc | apply pw_below_drewN | apply below_drew1 | refine below_set ?_ GE185.out | refine below_set ?_ GE188.out) | exact HB.out))); (case side2 => exact HC0.out); rintro e w17 ⟨rfl, hb⟩; refine ⟨_, rfl, ?_⟩; have n0_ := Aside0.mk (blk_below (g := gb185) (o := .cells #[.int .i64 0, .int .i64 0] 25 (0, 0)) (by (with_reducible repeat (first | refine blk_drewN ?_ _ | refine blk_drew ?_ | refine blk_alloc ?_ _)); refine blk_far ?_ NB185_188.out _; (with_reducible repeat (first | refine blk_drewN ?_ _ | refine blk_drew ?_ | refine blk_alloc ?_ _)); refine blk_far ?_ NB185_188.out _; (with_reducible repeat (first | refine blk_drewN ?_ _ | refine blk_drew ?_ | refine blk_alloc ?_ _)); exact BK185.out) hb); have n1_ := Aside0.mk (blk_below (g := gb188) (o := .cells #[.int .i64 t186, .int .i64 t187] 25 (0, 0)) (by (with_reducible repeat (first | refine blk_drewN ?_ _ | refine blk_drew ?_ | refine blk_alloc ?_ _)); refine blk_put (cs := #[.int .i64 t186, .int .i64 0]) ?_ 1 _ rfl; (with_reducible repeat (first | refine blk_drewN ?_ _ | refine blk_drew ?_ | refine blk_alloc ?_ _)); refine blk_put (cs := #[.int .i64 0, .int .i64 0]) ?_ 0 _ rfl; (with_reducible repeat (first | refine blk_drewN ?_ _ | refine blk_drew ?_ | refine blk_alloc ?_ _)); exact BK188.out) hb); have n2_ := Aside0.mk (below_step (by repeat (first | (with_reducible first | exact HB.out | apply below_alloc | apply pw_below_drewN | apply below_drew1 | refine below_set ?_ GE185.out | refine below_set ?_ GE188.out) | exact HB.out)) hb); clear BK185; clear BK188; clear HB; have BK185 := n0_; have BK188 := n1_; have HB := n2_; clear n0_ n1_ n2_; (try clear hb); (try clear hb2); (try clear hk); (try clear hi); have hcz18_0 : w17.cell? ⟨gb185, 0, none⟩ = some (.int .i64 0) := (blk_cell BK185.out 0).trans rfl; have hcz18_1 : w17.cell? ⟨gb185, 1, none⟩ = some (.int .i64 0) := (blk_cell BK185.out 1).trans rfl; have hfz18_0 := blk_frozen BK185.out 0; have hfz18_1 := blk_frozen BK185.out 1))
      refine bodyPost_ret (results_cell_row rfl _ _ gb185 25 #[.int .i64 20, .int .i64 t189] (0, 0) _ rfl (by (with_reducible repeat (first | refine blk_drewN ?_ _ | refine blk_drew ?_ | refine blk_alloc ?_ _)); refine blk_put (cs := #[.int .i64 20, .int .i64 0]) ?_ 1 _ rfl; (with_reducible repeat (first | refine blk_drewN ?_ _ | refine blk_drew ?_ | refine blk_alloc ?_ _)); refine blk_put (cs := #[.int .i64 0, .int .i64 0]) ?_ 0 _ rfl; (with_reducible repeat (first | refine blk_drewN ?_ _ | refine blk_drew ?_ | refine blk_alloc ?_ _)); exact BK185.out) Tryd.underlying25 rfl (by kernel_rfl)) rfl ?_
      exact ⟨by first | rfl | (simp [errW_none, errW_some] <;> rfl) | (simp [*, errW_none, errW_some] <;> rfl), by repeat (first | (with_reducible first | exact HB.out | apply below_alloc | apply pw_below_drewN | apply below_drew1 | refine below_set ?_ GE185.out | refine below_set ?_ GE188.out) | exact HB.out)⟩
    · rw [if_neg c11] at H
      have c11b0 : decide (0 ≤ t189) = false := decide_eq_false c11
      clear c11
      simp only [Option.some.injEq, Prod.mk.injEq] at H
      obtain ⟨rfl, rfl⟩ := H
      go_enter Tryd.func10, Tryd.ntmps10
      go_wp2_with (first | ((with_reducible refine gate_dst (N := 2) rfl ?_); refine box_event ?hg (N := 2) ?hd (cs := #[.int .i64 0, .int .i64 0]) (t := 25) ?hr ?_; (case hd => rfl); (case hg => rfl); (case hr => first | (go_simp; done) | (go_simp; rfl)); intro gb185 hg w19 hbox hb; have n0_ := Aside0.mk (below_step (by repeat (first | (with_reducible first | exact HB.out | apply below_alloc | apply pw_below_drewN | apply below_drew1) | exact HB.out)) hb); have n1_ := Aside0.mk (hbox); have n2_ := Aside0.mk ((by rw [hg]; exact (below_size (by repeat (first | (with_reducible first | exact HB.out | apply below_alloc | apply pw_below_drewN | apply below_drew1) | exact HB.out))) : w.heap.size ≤ gb185)); have n3_ := Aside0.mk ((by rw [hg]; exact (below_size (by repeat (first | (with_reducible first | exact HB.out | apply below_alloc | apply pw_below_drewN | apply below_drew1) | exact HB.out))) : w.heap.size ≤ gb185)); clear HB; have HB := n0_; have BK185 := n1_; have GW185 := n2_; have GE185 := n3_; clear n0_ n1_ n2_ n3_; clear hb hbox hg) | ((with_reducible refine gate_callee (f := 17) rfl ?_); refine goesL_ (some 6) rfl rfl Tryd.func17 (by kernel_rfl) rfl #[.slice A0 l0.length c0] rfl (by (try simp only [List.map_toArray, List.map_cons, List.map_nil]); first | done | rfl | (simp only [List.length_drop, List.length_take]; rfl)) ?_; (with_reducible refine (depgraph_Validate.calls k _ _ l0 t186 t187 _ ?side1 ?side2 A2.out).mono ?_); (case side1 => repeat (first | exact (Kd.C_below HR0.out HB.out) | (with_reducible refine Kd.C_alloc ?_ _) | (with_reducible refine Kd.C_drewN ?_ _) | (with_reducible refine Kd.C_drew ?_))); (case side2 => exact HC0.out); rintro e w20 ⟨rfl, hb⟩; refine ⟨_, rfl, ?_⟩; have n0_ := Aside0.mk (blk_below (g := gb185) (o := .cells #[.int .i64 0, .int .i64 0] 25 (0, 0)) (by (with_reducible repeat (first | refine blk_drewN ?_ _ | refine blk_drew ?_ | refine blk_alloc ?_ _)); exact BK185.out) hb); have n1_ := Aside0.mk (below_step (by repeat (first | (with_reducible first | exact HB.out | apply below_alloc | apply pw_below_drewN | apply below_drew1 | refine below_set ?_ GE185.out) | exact HB.out)) hb); clear BK185; clear HB; have BK185 := n0_; have HB := n1_; clear n0_ n1_; (try clear hb); (try clear hb2); (try clear hk); (try clear hi)) | ((with_reducible refine gate_dst (N := 3) rfl ?_); refine box_event ?hg (N := 3) ?hd (cs := #[.int .i64 0, .int .i64 0]) (t := 25) ?hr ?_; (case hd => rfl); (case hg => rfl); (case hr => first | (go_simp; done) | (go_simp; rfl)); intro gb188 hg w21 hbox hb; have n0_ := Aside0.mk (blk_below (g := gb185) (o := .cells #[.int .i64 0, .int .i64 0] 25 (0, 0)) (by (with_reducible repeat (first | refine blk_drewN ?_ _ | refine blk_drew ?_ | refine blk_alloc ?_ _)); exact BK185.out) hb); have n1_ := Aside0.mk (below_step (by repeat (first | (with_reducible first | exact HB.out | apply below_alloc | apply pw_below_drewN | apply below_drew1 | refine below_set ?_ GE185.out) | exact HB.out)) hb); have n2_ := Aside0.mk (hbox); have n3_ := Aside0.mk ((by rw [hg]; exact (below_size (by repeat (first | (with_reducible first | exact HB.out | apply below_alloc | apply pw_below_drewN | apply below_drew1 | refine below_set ?_ GE185.out) | exact HB.out))) : w.heap.size ≤ gb188)); have n4_ := Aside0.mk ((by rw [hg]; exact (below_size (by repeat (first | (with_reducible first | exact HB.out | apply below_alloc | apply pw_below_drewN | apply below_drew1 | refine below_set ?_ GE185.out) | exact HB.out))) : w.heap.size ≤ gb188)); have n5_ := Aside0.mk ((by rw [hg]; exact Nat.ne_of_lt (blk_lt (g := gb185) (o := .cells #[.int .i64 0, .int .i64 0] 25 (0, 0)) (by (with_reducible repeat (first | refine blk_drewN ?_ _ | refine blk_drew ?_ | refine blk_alloc ?_ _)); exact BK185.out)) : gb185 ≠ gb188)); have n6_ := Aside0.mk ((by rw [hg]; exact Nat.ne_of_gt (blk_lt (g := gb185) (o := .cells #[.int .i64 0, .int .i64 0] 25 (0, 0)) (by (with_reducible repeat (first | refine blk_drewN ?_ _ | refine blk_drew ?_ | refine blk_alloc ?_ _)); exact BK185.out)) : gb188 ≠ gb185)); clear BK185; clear HB; have BK185 := n0_; have HB := n1_; have BK188 := n2_; have GW188 := n3_; have GE188 := n4_; have NB185_188 := n5_; have NB188_185 := n6_; clear n0_ n1_ n2_ n3_ n4_ n5_ n6_; clear hb hbox hg; have hnb22 := NB188_185.out; have hnc22 := NB185_188.out; have hcz23_0 : w21.cell? ⟨gb188, 0, none⟩ = some (.int .i64 0) := (blk_cell BK188.out 0).trans rfl; have hcz23_1 : w21.cell? ⟨gb188, 1, none⟩ = some (.int .i64 0) := (blk_cell BK188.out 1).trans rfl; have hfz23_0 := blk_frozen BK188.out 0; have hfz23_1 := blk_frozen BK188.out 1) | ((with_reducible refine gate_callee (f := 18) rfl ?_); refine goesL_ (some 12) rfl rfl Tryd.func18 (by kernel_rfl) rfl #[.slice A0 l0.length c0] rfl (by (try simp only [List.map_toArray, List.map_cons, List.map_nil]); first | done | rfl | (simp only [List.length_drop, List.length_take]; rfl)) ?_; (with_reducible refine (depgraph_first.calls k _ _ l0 t189 _ ?side1 ?side2 A10.out).mono ?_); (case side1 => exact Kd.C_below HR0.out (by repeat (first | (with_reducible first | exact HB.out | apply below_alloc | apply pw_below_drewN | apply below_drew1 | refine below_set ?_ GE185.out | refine below_set ?_ GE188.out) | exact HB.out))); (case side2 => exact HC0.out); rintro e w24 ⟨rfl, hb⟩; refine ⟨_, rfl, ?_⟩; have n0_ := Aside0.mk (blk_below (g := gb185) (o := .cells #[.int .i64 0, .int .i64 0] 25 (0, 0)) (by (with_reducible repeat (first | refine blk_drewN ?_ _ | refine blk_drew ?_ | refine blk_alloc ?_ _)); refine blk_far ?_ NB185_188.out _; (with_reducible repeat (first | refine blk_drewN ?_ _ | refine blk_drew ?_ | refine blk_alloc ?_ _)); refine blk_far ?_ NB185_188.out _; (with_reducible repeat (first | refine blk_drewN ?_ _ | refine blk_drew ?_ | refine blk_alloc ?_ _)); exact BK185.out) hb); have n1_ := Aside0.mk (blk_below (g := gb188) (o := .cells #[.int .i64 t186, .int .i64 t187] 25 (0, 0)) (by (with_reducible repeat (first | refine blk_drewN ?_ _ | refine blk_drew ?_ | refine blk_alloc ?_ _)); refine blk_put (cs := #[.int .i64 t186, .int .i64 0]) ?_ 1 _ rfl; (with_reducible repeat (first | refine blk_drewN ?_ _ | refine blk_drew ?_ | refine blk_alloc ?_ _)); refine blk_put (cs := #[.int .i64 0, .int .i64 0]) ?_ 0 _ rfl; (with_reducible repeat (first | refine blk_drewN ?_ _ | refine blk_drew ?_ | refine blk_alloc ?_ _)); exact BK188.out) hb); have n2_ := Aside0.mk (below_step (by repeat (first | (with_reducible first | exact HB.out | apply below_alloc | apply pw_below_drewN | apply below_drew1 | refine below_set ?_ GE185.out | refine below_set ?_ GE188.out) | exact HB.out)) hb); clear BK185; clear BK188; clear HB; have BK185 := n0_; have BK188 := n1_; have HB := n2_; clear n0_ n1_ n2_; (try clear hb); (try clear hb2); (try clear hk); (try clear hi); have hcz25_0 : w24.cell? ⟨gb185, 0, none⟩ = some (.int .i64 0) := (blk_cell BK185.out 0).trans rfl; have hcz25_1 : w24.cell? ⟨gb185, 1, none⟩ = some (.int .i64 0) := (blk_cell BK185.out 1).trans rfl; have hfz25_0 := blk_frozen BK185.out 0; have hfz25_1 := blk_frozen BK185.out 1))
      refine bodyPost_ret (results_cell_row rfl _ _ gb185 25 #[.int .i64 0, .int .i64 0] (0, 0) _ rfl (by (with_reducible repeat (first | refine blk_drewN ?_ _ | refine blk_drew ?_ | refine blk_alloc ?_ _)); refine blk_put (cs := #[.int .i64 0, .int .i64 0]) ?_ 1 _ rfl; (with_reducible repeat (first | refine blk_drewN ?_ _ | refine blk_drew ?_ | refine blk_alloc ?_ _)); refine blk_put (cs := #[.int .i64 0, .int .i64 0]) ?_ 0 _ rfl; (with_reducible repeat (first | refine blk_drewN ?_ _ | refine blk_drew ?_ | refine blk_alloc ?_ _)); exact BK185.out) Tryd.underlying25 rfl (by kernel_rfl)) rfl ?_
      exact ⟨by first | rfl | (simp [errW_none, errW_some] <;> rfl) | (simp [*, errW_none, errW_some] <;> rfl), by repeat (first | (with_reducible first | exact HB.out | apply below_alloc | apply pw_below_drewN | apply below_drew1 | refine below_set ?_ GE185.out | refine below_set ?_ GE188.out) | exact HB.out)⟩

def depgraph_ready_Len.f (l0 : List Int) : Option (Int) := some (l0.length : Int)
set_option maxHeartbeats 8000000 in
set_option maxRecDepth 100000 in
theorem depgraph_ready_Len.calls (A0 : Option Addr) (c0 : Nat) (l0 : List Int) (r : Int) (w : World) (hr0 : Kd.C (Kd.int .i64) w A0 l0.length l0) (hc0 : l0.length ≤ c0) (h : depgraph_ready_Len.f l0 = some r) :
    Calls Tryd.prog 12 #[.slice A0 l0.length c0] w fun e w' => e = .returned (.int .i64 r) ∧ Drawn0 w w' := by
  have HR0 := Aside0.mk hr0
  have HC0 := Aside0.mk hc0
  clear hr0 hc0
  have H : (some (l0.length : Int)) = some r := h
  clear h
  obtain rfl := Option.some.inj H
  go_enter Tryd.func12, Tryd.ntmps12
  go_wp2
  go_ret
  exact ⟨by first | rfl | (simp; done) | (simp [*]; done), by repeat (first | exact Drawn0.refl _ | apply Drawn0.step)⟩

def depgraph_ready_Less.f (l0 : List Int) (a1 : Int) (a2 : Int) : Option (Bool) := if 0 ≤ a1 then (if a1 < (l0.length : Int) then (if 0 ≤ a2 then (if a2 < (l0.length : Int) then (some (decide ((rd l0 a1) < (rd l0 a2)))) else (none)) else (none)) else (none)) else (none)
set_option maxHeartbeats 8000000 in
set_option maxRecDepth 100000 in
theorem depgraph_ready_Less.calls (A0 : Option Addr) (c0 : Nat) (l0 : List Int) (a1 : Int) (a2 : Int) (r : Bool) (w : World) (hr0 : Kd.C (Kd.int .i64) w A0 l0.length l0) (hc0 : l0.length ≤ c0) (h : depgraph_ready_Less.f l0 a1 a2 = some r) :
    Calls Tryd.prog 42 #[.slice A0 l0.length c0, .int .i64 a1, .int .i64 a2] w fun e w' => e = .returned (.bool r) ∧ Drawn0 w w' := by
  have HR0 := Aside0.mk hr0
  have HC0 := Aside0.mk hc0
  clear hr0 hc0
  have H : (if 0 ≤ a1 then (if a1 < (l0.length : Int) then (if 0 ≤ a2 then (if a2 < (l0.length : Int) then (some (decide ((rd l0 a1) < (rd l0 a2)))) else (none)) else (none)) else (none)) else (none)) = some r := h
  clear h
  by_cases c4 : 0 ≤ a1
  · rw [if_pos c4] at H
    have c4b0 : decide (0 ≤ a1) = true := decide_eq_true c4
    clear c4
    by_cases c5 : a1 < (l0.length : Int)
    · rw [if_pos c5] at H
      have c5b0 : decide (a1 < (l0.length : Int)) = true := decide_eq_true c5
      clear c5
      by_cases c6 : 0 ≤ a2
      · rw [if_pos c6] at H
        have c6b0 : decide (0 ≤ a2) = true := decide_eq_true c6
        clear c6
        by_cases c7 : a2 < (l0.length : Int)
        · rw [if_pos c7] at H
          have c7b0 : decide (a2 < (l0.length : Int)) = true := decide_eq_true c7
          clear c7
          obtain rfl := Option.some.inj H
          have p190 : 0 ≤ (a1 : Int) := of_decide_eq_true (by first | (with_reducible assumption) | assumption)
          have q190 : a1 < (l0.length : Int) := of_decide_eq_true (by first | (with_reducible assumption) | assumption)
          obtain ⟨ad190, e190, hx190_0⟩ := Kd.at_int HR0.out a1 p190 q190
          cases e190
          replace p190 := eq_true p190
          replace q190 := eq_true q190
          have p191 : 0 ≤ (a2 : Int) := of_decide_eq_true (by first | (with_reducible assumption) | assumption)
          have q191 : a2 < (l0.length : Int) := of_decide_eq_true (by first | (with_reducible assumption) | assumption)
          obtain ⟨ad191, e191, hx191_0⟩ := Kd.at_int HR0.out a2 p191 q191
          obtain rfl : ad190 = ad191 := (by injection e191)
          replace p191 := eq_true p191
          replace q191 := eq_true q191
          go_enter Tryd.func42, Tryd.ntmps42
          go_wp2
          repeat (go_quiet (fail); try go_wp2)
          go_ret
          exact ⟨by first | rfl | (simp; done) | (simp [*]; done), by repeat (first | exact Drawn0.refl _ | apply Drawn0.step)⟩
        · rw [if_neg c7] at H
          exact absurd H (by simp)
      · rw [if_neg c6] at H
        exact absurd H (by simp)
    · rw [if_neg c5] at H
      exact absurd H (by simp)
  · rw [if_neg c4] at H
    exact absurd H (by simp)

def depgraph_ready_Swap.f (l0 : List Int) (a1 : Int) (a2 : Int) : Option (List Int) := if 0 ≤ a2 then (if a2 < (l0.length : Int) then (if 0 ≤ a1 then (if a1 < (l0.length : Int) then (some ((l0.set (a1 : Int).toNat (rd l0 a2)).set (a2 : Int).toNat (rd l0 a1))) else (none)) else (none)) else (none)) else (none)
def depgraph_ready_Swap.T0 : Bool × List (List Nat × List Nat) := (true, [([], []), ([], []), ([], []), ([], []), ([], []), ([], []), ([4, 5], [4, 5]), ([6], [6]), ([], []), ([], []), ([8, 9], [8, 9]), ([10], [10]), ([0, 1, 0, 1, 4, 5, 6, 7, 11], [0, 1]), ([12, 7, 0, 1, 4, 5, 6, 7, 11], [7, 12]), ([2, 3, 0, 1, 2, 3, 4, 5, 6, 7, 8, 9, 10, 11, 12, 13], [2, 3]), ([14, 11, 13, 0, 1, 2, 3, 4, 5, 6, 7, 8, 9, 10, 11, 12, 13], [11, 14])])
def depgraph_ready_Swap.B0 : List Nat := [0, 0, 0, 0, 0, 0, 48, 112, 0, 0, 768, 1792, 4083, 8179, 16383, 32767]
theorem depgraph_ready_Swap.tab0 : rtab .any (opsOf Tryd.f45 0) = depgraph_ready_Swap.T0 := by kernel_rfl
theorem depgraph_ready_Swap.bits0 : waitsOk depgraph_ready_Swap.T0.2 depgraph_ready_Swap.B0 = true := by kernel_rfl
set_option maxHeartbeats 8000000 in
set_option maxRecDepth 100000 in
theorem depgraph_ready_Swap.calls (P0_ : Nat → Prop) (u9000_ : Value) (l0 : List Int) (a1 : Int) (a2 : Int) (r : List Int) (w0 w : World) (hB : Below w0.heap.size w0 w) (ho0 : Kd.R (Kd.int .i64) 3 w w0.heap.size P0_ u9000_ l0) (h : depgraph_ready_Swap.f l0 a1 a2 = some r) :
    Calls Tryd.prog 45 #[u9000_, .int .i64 a1, .int .i64 a2] w fun e w' => e = .returned (.tuple #[]) ∧ Kd.R (Kd.int .i64) 3 w' w0.heap.size (fun k_ => (P0_ k_ ∨ w.heap.size ≤ k_)) u9000_ r ∧ Below w0.heap.size w0 w' ∧ Kept w w' (fun k_ => P0_ k_) := by
  have HO0 := Aside0.mk (show Kd.R (Kd.int .i64) 3 w w0.heap.size (fun k_ => (P0_ k_ ∨ w.heap.size ≤ k_)) u9000_ l0 from Kd.R_mono ho0 (fun k_ hk => (.inl hk)))
  have HK := Aside0.mk (Kept.refl w (fun k_ => P0_ k_))
  have HW0 := Aside0.mk hB.size
  have HB := Aside0.mk hB
  clear hB
  have H : (if 0 ≤ a2 then (if a2 < (l0.length : Int) then (if 0 ≤ a1 then (if a1 < (l0.length : Int) then (some ((l0.set (a1 : Int).toNat (rd l0 a2)).set (a2 : Int).toNat (rd l0 a1))) else (none)) else (none)) else (none)) else (none)) = some r := h
  clear h
  by_cases c4 : 0 ≤ a2
  · rw [if_pos c4] at H
    have c4b0 : decide (0 ≤ a2) = true := decide_eq_true c4
    clear c4
    by_cases c5 : a2 < (l0.length : Int)
    · rw [if_pos c5] at H
      have c5b0 : decide (a2 < (l0.length : Int)) = true := decide_eq_true c5
      clear c5
      by_cases c6 : 0 ≤ a1
      · rw [if_pos c6] at H
        have c6b0 : decide (0 ≤ a1) = true := decide_eq_true c6
        clear c6
        by_cases c7 : a1 < (l0.length : Int)
        · rw [if_pos c7] at H
          have c7b0 : decide (a1 < (l0.length : Int)) = true := decide_eq_true c7
          clear c7
          obtain ⟨y194, hy194⟩ : ∃ y_ : List Int, y_ = (l0.set (a1 : Int).toNat (rd l0 a2)) := ⟨_, rfl⟩
          replace H : (some (y194.set (a2 : Int).toNat (rd l0 a1))) = some r := by first | (rw [hy194]; with_reducible exact H) | (have H2_ := (Option.bind_some _ _).symm.trans H; rw [hy194]; with_reducible exact H2_) | (have H2_ := (Option.bind_some _ _).symm.trans H; with_reducible exact H2_) | with_reducible exact H | (rw [hy194]; exact H) | exact H
          have Ny194 := Aside0.mk hy194
          clear hy194
          obtain ⟨y195, hy195⟩ : ∃ y_ : List Int, y_ = (y194.set (a2 : Int).toNat (rd l0 a1)) := ⟨_, rfl⟩
          replace H : (some y195) = some r := by first | (rw [hy195]; with_reducible exact H) | (have H2_ := (Option.bind_some _ _).symm.trans H; rw [hy195]; with_reducible exact H2_) | (have H2_ := (Option.bind_some _ _).symm.trans H; with_reducible exact H2_) | with_reducible exact H | (rw [hy195]; exact H) | exact H
          have Ny195 := Aside0.mk hy195
          clear hy195
          obtain rfl := Option.some.inj H
          go_enter Tryd.func45, Tryd.ntmps45
          try go_wp2
          have n0_ := Aside0.mk (Kd.R_drew HO0.out)
          have n1_ := Aside0.mk (Kept.drew HK.out)
          have n2_ := Aside0.mk (below_drew1 HB.out)
          clear HO0
          clear HK
          clear HB
          have HO0 := n0_
          have HK := n1_
          have HB := n2_
          clear n0_ n1_ n2_
          obtain ⟨Ao11, co11, eo11⟩ := Kd.R_slice HO0.out
          (first | subst eo11 | (injection eo11 with f1_ f2_ f3_; have f4_ := f1_.symm; have f5_ := f3_.symm; clear f1_ f2_ f3_; subst f4_; subst f5_))
          have p192 : 0 ≤ (a2 : Int) := of_decide_eq_true (by first | (with_reducible assumption) | assumption)
          have q192 : a2 < (l0.length : Int) := of_decide_eq_true (by first | (with_reducible assumption) | assumption)
          obtain ⟨ad192, e192, hx192_0⟩ := Kd.at_int (Kd.R_reads' HO0.out).2.2 a2 p192 q192
          cases e192
          replace p192 := eq_true p192
          replace q192 := eq_true q192
          have p193 : 0 ≤ (a1 : Int) := of_decide_eq_true (by first | (with_reducible assumption) | assumption)
          have q193 : a1 < (l0.length : Int) := of_decide_eq_true (by first | (with_reducible assumption) | assumption)
          obtain ⟨ad193, e193, hx193_0⟩ := Kd.at_int (Kd.R_reads' HO0.out).2.2 a1 p193 q193
          obtain rfl : ad192 = ad193 := (by injection e193)
          replace p193 := eq_true p193
          replace q193 := eq_true q193
          have p8 : 0 ≤ (a1 : Int) := of_decide_eq_true (by first | (with_reducible assumption) | assumption)
          have q8 : (a1 : Int) < ((l0.length : Int) : Int) := of_decide_eq_true (by first | (with_reducible assumption) | assumption)
          obtain ⟨go8, co8, eo8, gb8, gl8, cl8, HG8⟩ := Kd.R_form HO0.out (by omega)
          (first | cases eo8 | (injection eo8 with ea_ en_ ec_; (first | subst ea_ | (injection ea_ with ea_; subst ea_)); subst ec_; clear en_))
          have GB8 := Aside0.mk gb8
          have GG8 := Aside0.mk HG8
          clear gb8 gl8 HG8
          have HMgo8 := Aside0.mk (show (P0_ go8 ∨ w.heap.size ≤ go8) from (HO0.out.1 _ rfl))
          (first | simp only [add_plain] at hx192_0 | skip)
          (first | simp only [add_plain] at hx193_0 | skip)
          obtain ⟨hx8_0, hf8_0⟩ := Kd.R_celln 0 HO0.out (a1 : Int) p8 q8
          replace p8 := eq_true p8
          replace q8 := eq_true q8
          have HP12 := Kd.R_putn HO0.out (a1 : Int) (rd l0 a2)
          rw [← Ny194.out] at HP12
          have HQ12 := Aside0.mk HP12
          clear HP12
          have p9 : 0 ≤ (a2 : Int) := of_decide_eq_true (by first | (with_reducible assumption) | assumption)
          have q9 : (a2 : Int) < ((l0.length : Int) : Int) := of_decide_eq_true (by first | (with_reducible assumption) | assumption)
          obtain ⟨hx9_0, hf9_0⟩ := Kd.R_celln 0 HQ12.out (a2 : Int) p9 q9
          replace p9 := eq_true p9
          replace q9 := eq_true q9
          have HP13 := Kd.R_putn HQ12.out (a2 : Int) (rd l0 a1)
          rw [← Ny195.out] at HP13
          have HQ13 := Aside0.mk HP13
          clear HP13
          refine start_ (n := 16) (S := fun w' => w'.cell? ⟨go8, (a2).toNat, none⟩ = some (.int .i64 (rd l0 a2)) ∧ w'.cell? ⟨go8, (a1).toNat, none⟩ = some (.int .i64 (rd l0 a1))) (ds := [13, 15]) #[false, false, false, false, false, false, false, false, false, false, false, false, false, false, false, false] (by kernel_rfl) rfl rfl ⟨hx192_0, hx193_0⟩ (fun hHeld => ?_); refine with_tabW depgraph_ready_Swap.tab0 depgraph_ready_Swap.bits0 (fun HT_ HW_ => ?_)
          generalize w.drew = w10 at HO0 HK HB GG8 HQ12 HQ13 hf8_0 hf9_0 hx192_0 hx193_0 hx8_0 hx9_0 hHeld ⊢
          refine pure_ (i := 0) (N := some 6) (v := ?_) (a' := ?_) #[true, false, false, false, false, false, false, false, false, false, false, false, false, false, false, false] rfl rfl (any_of HT_.out (by kernel_rfl)) (fun _ _ _ h => h) (Or.inl ⟨by rfl, ?_⟩) ?_ ?_
          rotate_left
          · intro w'
            go_simp
            with_reducible rfl
          rotate_left
          · simp only [Act.put, List.setIfInBounds_toArray, List.set_cons_zero, List.set_cons_succ, i64_w, i32_w]
            rfl
          refine pure_ (i := 1) (N := some 7) (v := ?_) (a' := ?_) #[true, true, false, false, false, false, false, false, false, false, false, false, false, false, false, false] rfl rfl (any_of HT_.out (by kernel_rfl)) (fun _ _ _ h => h) (Or.inl ⟨by rfl, ?_⟩) ?_ ?_
          rotate_left
          · intro w'
            go_simp
            with_reducible rfl
          rotate_left
          · simp only [Act.put, List.setIfInBounds_toArray, List.set_cons_zero, List.set_cons_succ, i64_w, i32_w]
            rfl
          refine pure_ (i := 2) (N := some 8) (v := ?_) (a' := ?_) #[true, true, true, false, false, false, false, false, false, false, false, false, false, false, false, false] rfl rfl (any_of HT_.out (by kernel_rfl)) (fun _ _ _ h => h) (Or.inl ⟨by rfl, ?_⟩) ?_ ?_
          rotate_left
          · intro w'
            go_simp
            with_reducible rfl
          rotate_left
          · simp only [Act.put, List.setIfInBounds_toArray, List.set_cons_zero, List.set_cons_succ, i64_w, i32_w]
            rfl
          refine pure_ (i := 3) (N := some 9) (v := ?_) (a' := ?_) #[true, true, true, true, false, false, false, false, false, false, false, false, false, false, false, false] rfl rfl (any_of HT_.out (by kernel_rfl)) (fun _ _ _ h => h) (Or.inl ⟨by rfl, ?_⟩) ?_ ?_
          rotate_left
          · intro w'
            go_simp
            with_reducible rfl
          rotate_left
          · simp only [Act.put, List.setIfInBounds_toArray, List.set_cons_zero, List.set_cons_succ, i64_w, i32_w]
            rfl
          refine pure_ (i := 4) (N := some 10) (v := ?_) (a' := ?_) #[true, true, true, true, true, false, false, false, false, false, false, false, false, false, false, false] rfl rfl (any_of HT_.out (by kernel_rfl)) (fun _ _ _ h => h) (Or.inl ⟨by rfl, ?_⟩) ?_ ?_
          rotate_left
          · intro w'
            go_simp
            with_reducible rfl
          rotate_left
          · simp only [Act.put, List.setIfInBounds_toArray, List.set_cons_zero, List.set_cons_succ, i64_w, i32_w]
            rfl
          refine pure_ (i := 5) (N := some 11) (v := ?_) (a' := ?_) #[true, true, true, true, true, true, false, false, false, false, false, false, false, false, false, false] rfl rfl (any_of HT_.out (by kernel_rfl)) (fun _ _ _ h => h) (Or.inl ⟨by rfl, ?_⟩) ?_ ?_
          rotate_left
          · intro w'
            go_simp
            with_reducible rfl
          rotate_left
          · simp only [Act.put, List.setIfInBounds_toArray, List.set_cons_zero, List.set_cons_succ, i64_w, i32_w]
            rfl
          refine pure_ (i := 6) (N := some 12) (v := ?_) (a' := ?_) #[true, true, true, true, true, true, true, false, false, false, false, false, false, false, false, false] rfl rfl (any_of HT_.out (by kernel_rfl)) (fun _ _ _ h => h) (Or.inl ⟨by rfl, ?_⟩) ?_ ?_
          rotate_left
          · intro w'
            go_simp
            with_reducible rfl
          rotate_left
          · simp only [Act.put, List.setIfInBounds_toArray, List.set_cons_zero, List.set_cons_succ, i64_w, i32_w]
            rfl
          refine pure_ (i := 8) (N := some 14) (v := ?_) (a' := ?_) #[true, true, true, true, true, true, true, false, true, false, false, false, false, false, false, false] rfl rfl (any_of HT_.out (by kernel_rfl)) (fun _ _ _ h => h) (Or.inl ⟨by rfl, ?_⟩) ?_ ?_
          rotate_left
          · intro w'
            go_simp
            with_reducible rfl
          rotate_left
          · simp only [Act.put, List.setIfInBounds_toArray, List.set_cons_zero, List.set_cons_succ, i64_w, i32_w]
            rfl
          refine pure_ (i := 9) (N := some 15) (v := ?_) (a' := ?_) #[true, true, true, true, true, true, true, false, true, true, false, false, false, false, false, false] rfl rfl (any_of HT_.out (by kernel_rfl)) (fun _ _ _ h => h) (Or.inl ⟨by rfl, ?_⟩) ?_ ?_
          rotate_left
          · intro w'
            go_simp
            with_reducible rfl
          rotate_left
          · simp only [Act.put, List.setIfInBounds_toArray, List.set_cons_zero, List.set_cons_succ, i64_w, i32_w]
            rfl
          refine pure_ (i := 10) (N := some 16) (v := ?_) (a' := ?_) #[true, true, true, true, true, true, true, false, true, true, true, false, false, false, false, false] rfl rfl (any_of HT_.out (by kernel_rfl)) (fun _ _ _ h => h) (Or.inl ⟨by rfl, ?_⟩) ?_ ?_
          rotate_left
          · intro w'
            go_simp
            with_reducible rfl
          rotate_left
          · simp only [Act.put, List.setIfInBounds_toArray, List.set_cons_zero, List.set_cons_succ, i64_w, i32_w]
            rfl
          refine take_ (i := 7) (N := some 13) (v := ?_) (a' := ?_) #[true, true, true, true, true, true, true, true, true, true, true, false, false, false, false, false] rfl rfl (take_ofW HT_.out HW_.out (by kernel_rfl)) (fun _ _ _ h => h) (Or.inl ⟨by rfl, ?_⟩) hHeld ?_ ?_
          rotate_left
          · rintro w' ⟨s0, s1⟩
            go_simp
            with_reducible rfl
          rotate_left
          · simp only [Act.put, List.setIfInBounds_toArray, List.set_cons_zero, List.set_cons_succ, i64_w, i32_w]
            rfl
          refine take_ (i := 11) (N := some 17) (v := ?_) (a' := ?_) #[true, true, true, true, true, true, true, true, true, true, true, true, false, false, false, false] rfl rfl (take_ofW HT_.out HW_.out (by kernel_rfl)) (fun _ _ _ h => h) (Or.inl ⟨by rfl, ?_⟩) hHeld ?_ ?_
          rotate_left
          · rintro w' ⟨s0, s1⟩
            go_simp
            with_reducible rfl
          rotate_left
          · simp only [Act.put, List.setIfInBounds_toArray, List.set_cons_zero, List.set_cons_succ, i64_w, i32_w]
            rfl
          refine pure_ (i := 12) (N := some 18) (v := ?_) (a' := ?_) #[true, true, true, true, true, true, true, true, true, true, true, true, true, false, false, false] rfl rfl (any_of HT_.out (by kernel_rfl)) (fun _ _ _ h => h) (Or.inl ⟨by rfl, ?_⟩) ?_ ?_
          rotate_left
          · intro w'
            go_simp
            with_reducible rfl
          rotate_left
          · simp only [Act.put, List.setIfInBounds_toArray, List.set_cons_zero, List.set_cons_succ, i64_w, i32_w]
            rfl
          refine last_ (i := 13) (N := none) #[true, true, true, true, true, true, true, true, true, true, true, true, true, true, false, false] rfl rfl (one_of HT_.out (by kernel_rfl)) (by decide) (fun K hK => ?_)
          refine skip_ (w1 := ?_) (by rfl) rfl ?_ ?_
          rotate_left
          · go_simp
            rfl
          refine hK.out _ _ ?_
          clear hK K
          refine pure_ (i := 14) (N := some 19) (v := ?_) (a' := ?_) #[true, true, true, true, true, true, true, true, true, true, true, true, true, true, true, false] rfl rfl (any_of HT_.out (by kernel_rfl)) (fun _ _ _ h => h) (Or.inl ⟨by rfl, ?_⟩) ?_ ?_
          rotate_left
          · intro w'
            go_simp
            with_reducible rfl
          rotate_left
          · simp only [Act.put, List.setIfInBounds_toArray, List.set_cons_zero, List.set_cons_succ, i64_w, i32_w]
            rfl
          refine last_ (i := 15) (N := none) #[true, true, true, true, true, true, true, true, true, true, true, true, true, true, true, true] rfl rfl (one_of HT_.out (by kernel_rfl)) (by decide) (fun K hK => ?_)
          refine skip_ (w1 := ?_) (by rfl) rfl ?_ ?_
          rotate_left
          · go_simp
            rfl
          refine hK.out _ _ ?_
          clear hK K
          refine done_ (done_of HT_.out (by kernel_rfl)) ?_
          try go_wp2
          first | go_end0 | ((try simp only [Exit.inBlock, Exit.then]); refine bodyPost_ret (results_none rfl _ _ _) rfl ?_)
          exact ⟨by first | rfl | (simp [errW_none, errW_some] <;> rfl) | (simp [*, errW_none, errW_some] <;> rfl), by (with_reducible repeat (first | apply Kd.R_alloc | apply Kd.R_drewN | apply Kd.R_drew)); exact HQ13.out, by repeat (first | (with_reducible first | exact HB.out | apply below_alloc | apply pw_below_drewN | apply below_drew1 | refine below_set ?_ GB8.out | refine below_set ?_ GB8.out) | exact HB.out), by repeat (first | (with_reducible first | exact HK.out | apply Kept.alloc | apply Kept.drewN | apply Kept.drew | refine Kept.setCell ?_ HMgo8.out _ | refine Kept.setCell ?_ HMgo8.out _) | exact HK.out)⟩
        · rw [if_neg c7] at H
          exact absurd H (by simp)
      · rw [if_neg c6] at H
        exact absurd H (by simp)
    · rw [if_neg c5] at H
      exact absurd H (by simp)
  · rw [if_neg c4] at H
    exact absurd H (by simp)

end Go.Proofs.YtffcaglfcnmhdaaDoor.H
end
section
namespace Go.Proofs.YtffcaglfcnmhdaaDoor.H
open Go.RowKit Go.Proofs.YtffcaglfcnmhdaaDoorW.PrintWords Go.Proofs.YtffcaglfcnmhdaaDoorW.PrintLast Go.Proofs.YtffcaglfcnmhdaaDoorW.PrintMore
set_option linter.unusedVariables false
set_option linter.unusedSimpArgs false
open Go.RowKit
theorem meth_val (g : Nat) (A : Option Addr) (n c : Nat) (w : World) (hz : w.cell? ⟨g, 0, none⟩ = some (.slice A n c)) :
    (method 182 41 (.pointer (some ⟨g, 0, none⟩)) "Less").run Tryd.prog w = .ok (42, .slice A n c) w ∧ (method 182 41 (.pointer (some ⟨g, 0, none⟩)) "Swap").run Tryd.prog w = .ok (45, .slice A n c) w ∧ (method 182 41 (.pointer (some ⟨g, 0, none⟩)) "Len").run Tryd.prog w = .ok (12, .slice A n c) w := by
  have hs : ∀ (x : String) (w : World), (Builtin.ssaWrapNilChk_ #[41] 41 #[.pointer (some ⟨g, 0, none⟩), strVal "", strVal x]).run Tryd.prog w = .ok (.pointer (some ⟨g, 0, none⟩)) w := fun x w => rfl
  refine ⟨?_, ?_, ?_⟩ <;>
  · unfold method
    go_simp
    simp [Tryd.t41, follow, receiverAt, go_sem, Place.get, hs, hz]
    try rfl
theorem meth_ptr (g : Nat) (w : World) :
    (method 182 41 (.pointer (some ⟨g, 0, none⟩)) "Push").run Tryd.prog w = .ok (44, .pointer (some ⟨g, 0, none⟩)) w ∧ (method 182 41 (.pointer (some ⟨g, 0, none⟩)) "Pop").run Tryd.prog w = .ok (43, .pointer (some ⟨g, 0, none⟩)) w := by
  refine ⟨?_, ?_⟩ <;>
  · unfold method
    go_simp
    simp [Tryd.t41, follow, receiverAt, go_sem, Place.get]
    try rfl
/-- v's own blocks. -/
abbrev Own (v : Value) (k : Nat) : Prop := some k = v.ownBlock
theorem own_self {e base : Nat} {w : World} {ok : Nat → Prop} {v : Value} {xs : List Int} (h : Kd.R (Kd.int .i64) e w base ok v xs) : Kd.R (Kd.int .i64) e w base (Own v) v xs :=
  Kd.R_of_own (h1 := fun _ => rfl) (Kd.own_of_R (h1 := fun _ => rfl) h) (fun k_ hk_ => hk_.symm)
def upF : Nat → List Int → Int → Option (List Int)
  | 0, _, _ => none
  | k + 1, xs, j => if 0 ≤ j ∧ j < (xs.length : Int) then (if j = 0 then some xs else (if rd xs j < rd xs ((j - 1) / 2) then upF k ((xs.set ((j - 1) / 2).toNat (rd xs j)).set j.toNat (rd xs ((j - 1) / 2))) ((j - 1) / 2) else some xs)) else none
set_option maxHeartbeats 8000000 in
set_option maxRecDepth 100000 in
theorem up_calls (k : Nat) (g : Nat) (v : Value) (xs r : List Int) (j : Int) (w0 w : World) (hB : Below w0.heap.size w0 w) (hg : w0.heap.size ≤ g) (hb : w.heap[g]? = some (.cells #[v] 42 (0, 0))) (ho : Kd.R (Kd.int .i64) 3 w w0.heap.size (Own v) v xs) (h : upF k xs j = some r) (hl : xs.length ≤ 1000000) :
    Calls Tryd.prog 19 #[.iface 41 (.pointer (some ⟨g, 0, none⟩)), .int .i64 j] w fun e w' => e = .returned (.tuple #[]) ∧ w'.heap[g]? = some (.cells #[v] 42 (0, 0)) ∧ Kd.R (Kd.int .i64) 3 w' w0.heap.size (Own v) v r ∧ Below w0.heap.size w0 w' ∧ Kept w w' (Own v) := by
  have HB := Aside0.mk hB
  have HG := Aside0.mk hg
  have BK := Aside0.mk hb
  have HO := Aside0.mk ho
  have HL := Aside0.mk hl
  have H' := Aside0.mk h
  have HK := Aside0.mk (Kept.refl w (Own v))
  clear hB hg hb ho hl h
  go_enter Tryd.func19, Tryd.ntmps19
  go_wp2
  go_loopg [1] k (fun kq v1 w' => ∃ (xs : List Int) (j : Int), v1 = .int .i64 j ∧ Aside0 (upF kq xs j = some r) ∧ Aside0 (xs.length ≤ 1000000) ∧ Aside0 (w'.heap[g]? = some (.cells #[v] 42 (0, 0))) ∧ Aside0 (Kd.R (Kd.int .i64) 3 w' w0.heap.size (Own v) v xs) ∧ Aside0 (Below w0.heap.size w0 w') ∧ Aside0 (Kept w w' (Own v)))
  case atStart => exact ⟨xs, j, rfl, H', HL, BK, HO, HB, HK⟩
  case round =>
    clear H' HL BK HO HB HK
    obtain ⟨xs, j, rfl, HA, HL, BK, HO, HB, HK⟩ := hrel
    cases gk with
    | zero => exact absurd HA.out (by simp [upF])
    | succ k1 =>
      have H := HA.out
      clear HA
      simp only [upF] at H
      by_cases c1 : 0 ≤ j ∧ j < (xs.length : Int)
      case neg => rw [if_neg c1] at H; exact absurd H (by simp)
      rw [if_pos c1] at H
      have C1 := Aside0.mk c1
      obtain ⟨A, c, rfl, hc_, hC_⟩ := Kd.R_reads HO.out
      have HC := Aside0.mk hC_
      have HCc := Aside0.mk hc_
      clear hC_ hc_
      have hz : wr.cell? ⟨g, 0, none⟩ = some (.slice A xs.length c) := (blk_cell BK.out 0).trans rfl
      have hw1 : IntKind.i64.wrap (j - 1) = j - 1 := by rw [i64_w]; have := HL.out; unfold wrap64; omega
      by_cases c2 : j = 0
      · rw [if_pos c2] at H
        obtain rfl := Option.some.inj H
        subst c2
        clear H c1
        go_wp2
        go_end0
        exact ⟨rfl, BK.out, HO.out, HB.out, HK.out⟩
      · rw [if_neg c2] at H
        obtain ⟨i, hi⟩ : ∃ i, Aside0 ((j - 1) / 2 = i) := ⟨_, ⟨rfl⟩⟩
        rw [hi.out] at H
        have hib : 0 ≤ i ∧ i < j := by rw [← hi.out]; omega
        have hq : IntKind.i64.wrap ((j - 1).tdiv 2) = i := by rw [i64_w, Int.tdiv_eq_ediv_of_nonneg (by omega), hi.out]; unfold wrap64; have := HL.out; omega
        by_cases c3 : rd xs j < rd xs i
        · rw [if_pos c3] at H
          have b0 : (i == j) = false := beq_eq_false_iff_ne.mpr (by omega)
          have H' := Aside0.mk H
          have HIB := Aside0.mk hib
          have HLs := Aside0.mk (show depgraph_ready_Less.f xs j i = some true from by unfold depgraph_ready_Less.f; rw [if_pos c1.1, if_pos c1.2, if_pos hib.1, if_pos (by omega), decide_eq_true c3])
          have HSw := Aside0.mk (show depgraph_ready_Swap.f xs i j = some ((xs.set i.toNat (rd xs j)).set j.toNat (rd xs i)) from by unfold depgraph_ready_Swap.f; rw [if_pos c1.1, if_pos c1.2, if_pos hib.1, if_pos (by omega)])
          have hm1 := (meth_val g A xs.length c wr hz).1
          have hm2 := fun nd => (meth_val g A xs.length c (wr.drewN nd) hz).2.1
          clear H c3 c2 c1 hib
          go_wp2_with (first | (go_at_call 42; (with_reducible refine (depgraph_ready_Less.calls A c xs j i true _ HC.out HCc.out HLs.out).mono ?_); rintro e w' ⟨rfl, ⟨nd, rfl⟩⟩) | (go_at_call 45; (with_reducible refine (depgraph_ready_Swap.calls (Own (.slice A xs.length c)) (.slice A xs.length c) xs i j _ w0 _ (pw_below_drewN HB.out _) (Kd.R_drewN HO.out _) HSw.out).mono ?_); rintro e w2 ⟨rfl, ho_, hb_, hk_⟩; have HO2 := Aside0.mk ho_; have HB2 := Aside0.mk hb_; have HK2 := Aside0.mk hk_; clear ho_ hb_ hk_))
          go_roundg k1
          case measure => omega
          case rel => exact ⟨_, i, rfl, H', ⟨by rw [List.length_set, List.length_set]; exact HL.out⟩, ⟨(HK2.out.2 g (blk_lt BK.out) (Kd.R_ne HO.out BK.out (by decide))).trans BK.out⟩, ⟨own_self HO2.out⟩, HB2, ⟨Kept.then_ HK.out HK2.out (fun _ hk => .inl hk)⟩⟩
        · rw [if_neg c3] at H
          obtain rfl := Option.some.inj H
          have b0 : (i == j) = false := beq_eq_false_iff_ne.mpr (by omega)
          have HLs := Aside0.mk (show depgraph_ready_Less.f xs j i = some false from by unfold depgraph_ready_Less.f; rw [if_pos c1.1, if_pos c1.2, if_pos hib.1, if_pos (by omega), decide_eq_false c3])
          have hm1 := (meth_val g A xs.length c wr hz).1
          clear H c3 c2 c1 hib
          go_wp2_with (first | (go_at_call 42; (with_reducible refine (depgraph_ready_Less.calls A c xs j i false _ HC.out HCc.out HLs.out).mono ?_); rintro e w' ⟨rfl, ⟨nd, rfl⟩⟩))
          go_end0
          exact ⟨rfl, BK.out, Kd.R_drewN HO.out _, pw_below_drewN HB.out _, HK.out⟩
end Go.Proofs.YtffcaglfcnmhdaaDoor.H
end
section
namespace Go.Proofs.YtffcaglfcnmhdaaDoor.H
open Go.RowKit Go.Proofs.YtffcaglfcnmhdaaDoorW.PrintWords Go.Proofs.YtffcaglfcnmhdaaDoorW.PrintLast Go.Proofs.YtffcaglfcnmhdaaDoorW.PrintMore
set_option linter.unusedVariables false
set_option linter.unusedSimpArgs false
open Go.RowKit
/-- The child of i that down looks at. -/
def kid (xs : List Int) (i n : Int) : Int := if 2 * i + 2 < n then (if rd xs (2 * i + 2) < rd xs (2 * i + 1) then 2 * i + 2 else 2 * i + 1) else 2 * i + 1
def downF : Nat → List Int → Int → Int → Option (List Int)
  | 0, _, _, _ => none
  | k + 1, xs, i, n => if 0 ≤ i ∧ i < (xs.length : Int) ∧ n ≤ (xs.length : Int) then (if n ≤ 2 * i + 1 then some xs else (if rd xs (kid xs i n) < rd xs i then downF k ((xs.set i.toNat (rd xs (kid xs i n))).set (kid xs i n).toNat (rd xs i)) (kid xs i n) n else some xs)) else none
theorem kid_range {xs : List Int} {i n : Int} (h0 : 0 ≤ i) (h : 2 * i + 1 < n) : i < kid xs i n ∧ kid xs i n < n := by
  unfold kid
  split
  · split <;> omega
  · omega
set_option maxHeartbeats 8000000 in
set_option maxRecDepth 100000 in
theorem down_calls (k : Nat) (g : Nat) (v : Value) (xs r : List Int) (i0 n : Int) (w0 w : World) (hB : Below w0.heap.size w0 w) (hg : w0.heap.size ≤ g) (hb : w.heap[g]? = some (.cells #[v] 42 (0, 0))) (ho : Kd.R (Kd.int .i64) 3 w w0.heap.size (Own v) v xs) (h : downF k xs i0 n = some r) (hl : xs.length ≤ 1000000) :
    Calls Tryd.prog 20 #[.iface 41 (.pointer (some ⟨g, 0, none⟩)), .int .i64 i0, .int .i64 n] w fun e w' => (∃ b, e = .returned (.bool b)) ∧ w'.heap[g]? = some (.cells #[v] 42 (0, 0)) ∧ Kd.R (Kd.int .i64) 3 w' w0.heap.size (Own v) v r ∧ Below w0.heap.size w0 w' ∧ Kept w w' (Own v) := by
  have HB := Aside0.mk hB
  have HG := Aside0.mk hg
  have BK := Aside0.mk hb
  have HO := Aside0.mk ho
  have HL := Aside0.mk hl
  have H' := Aside0.mk h
  have HK := Aside0.mk (Kept.refl w (Own v))
  clear hB hg hb ho hl h
  go_enter Tryd.func20, Tryd.ntmps20
  go_wp2
  go_loopg [7] k (fun kq v7 w' => ∃ (xs : List Int) (i : Int), v7 = .int .i64 i ∧ Aside0 (downF kq xs i n = some r) ∧ Aside0 (xs.length ≤ 1000000) ∧ Aside0 (w'.heap[g]? = some (.cells #[v] 42 (0, 0))) ∧ Aside0 (Kd.R (Kd.int .i64) 3 w' w0.heap.size (Own v) v xs) ∧ Aside0 (Below w0.heap.size w0 w') ∧ Aside0 (Kept w w' (Own v)))
  case atStart => exact ⟨xs, i0, rfl, H', HL, BK, HO, HB, HK⟩
  case round =>
    clear H' HL BK HO HB HK
    obtain ⟨xs, i, rfl, HA, HL, BK, HO, HB, HK⟩ := hrel
    cases gk with
    | zero => exact absurd HA.out (by simp [downF])
    | succ k1 =>
      have H := HA.out
      clear HA
      simp only [downF] at H
      by_cases c1 : 0 ≤ i ∧ i < (xs.length : Int) ∧ n ≤ (xs.length : Int)
      case neg => rw [if_neg c1] at H; exact absurd H (by simp)
      rw [if_pos c1] at H
      have C1 := Aside0.mk c1
      obtain ⟨A, c, rfl, hc_, hC_⟩ := Kd.R_reads HO.out
      have HC := Aside0.mk hC_
      have HCc := Aside0.mk hc_
      clear hC_ hc_
      have hz : wr.cell? ⟨g, 0, none⟩ = some (.slice A xs.length c) := (blk_cell BK.out 0).trans rfl
      have hw1 : IntKind.i64.wrap (2 * i) = 2 * i := by rw [i64_w]; have := HL.out; unfold wrap64; omega
      have hw2 : IntKind.i64.wrap (2 * i + 1) = 2 * i + 1 := by rw [i64_w]; have := HL.out; unfold wrap64; omega
      have hw3 : IntKind.i64.wrap (2 * i + 1 + 1) = 2 * i + 2 := by rw [i64_w]; have := HL.out; unfold wrap64; omega
      have b0 : decide (2 * i + 1 < 0) = false := decide_eq_false (by omega)
      by_cases c2 : n ≤ 2 * i + 1
      · rw [if_pos c2] at H
        obtain rfl := Option.some.inj H
        have b1 : decide (n ≤ 2 * i + 1) = true := decide_eq_true c2
        clear H c1 c2
        go_wp2
        go_ret
        exact ⟨⟨_, rfl⟩, BK.out, HO.out, HB.out, HK.out⟩
      · rw [if_neg c2] at H
        have b1 : decide (n ≤ 2 * i + 1) = false := decide_eq_false c2
        have hk := kid_range (xs := xs) c1.1 (by omega : 2 * i + 1 < n)
        by_cases c3 : 2 * i + 2 < n
        · have b2 : decide (2 * i + 2 < n) = true := decide_eq_true c3
          by_cases c4 : rd xs (2 * i + 2) < rd xs (2 * i + 1)
          · have hkid : kid xs i n = 2 * i + 2 := by unfold kid; rw [if_pos c3, if_pos c4]
            rw [hkid] at H hk
            clear hkid
            have HLa := Aside0.mk (show depgraph_ready_Less.f xs (2 * i + 2) (2 * i + 1) = some true from by unfold depgraph_ready_Less.f; rw [if_pos (by omega), if_pos (by omega), if_pos (by omega), if_pos (by omega), decide_eq_true c4])
            by_cases c5 : rd xs (2 * i + 2) < rd xs i
            · rw [if_pos c5] at H
              have HLb := Aside0.mk (show depgraph_ready_Less.f xs (2 * i + 2) (i) = some true from by unfold depgraph_ready_Less.f; rw [if_pos (by omega), if_pos (by omega), if_pos (by omega), if_pos (by omega), decide_eq_true c5])
              have HSw := Aside0.mk (show depgraph_ready_Swap.f xs i (2 * i + 2) = some ((xs.set i.toNat (rd xs (2 * i + 2))).set (2 * i + 2).toNat (rd xs i)) from by unfold depgraph_ready_Swap.f; rw [if_pos (by omega), if_pos (by omega), if_pos (by omega), if_pos (by omega)])
              have hm1 := (meth_val g A xs.length c wr hz).1
              have hm1' := fun nd => (meth_val g A xs.length c (wr.drewN nd) hz).1
              have hm2 := fun nd => (meth_val g A xs.length c (wr.drewN nd) hz).2.1
              have hm2' := fun nd nd2 => (meth_val g A xs.length c ((wr.drewN nd).drewN nd2) hz).2.1
              have H' := Aside0.mk H
              have HLE := Aside0.mk (show 0 ≤ i from c1.1)
              clear H c5 c2 c1 hk c4 c3
              go_wp2_with (first | (go_at_call 42; (with_reducible refine (depgraph_ready_Less.calls A c xs (2 * i + 2) (2 * i + 1) true wr HC.out HCc.out HLa.out).mono ?_); rintro e w' ⟨rfl, ⟨nda, rfl⟩⟩) | (go_at_call 42; (with_reducible refine (depgraph_ready_Less.calls A c xs (2 * i + 2) i true _ (by first | exact HC.out | exact Kd.C_drewN HC.out _) HCc.out HLb.out).mono ?_); rintro e w' ⟨rfl, ⟨ndb, rfl⟩⟩) | (go_at_call 45; (with_reducible refine (depgraph_ready_Swap.calls (Own (.slice A xs.length c)) (.slice A xs.length c) xs i (2 * i + 2) _ w0 _ (by repeat (first | exact HB.out | apply pw_below_drewN)) (by repeat (first | exact HO.out | apply Kd.R_drewN)) HSw.out).mono ?_); rintro e w2 ⟨rfl, ho_, hb_, hk_⟩; have HO2 := Aside0.mk ho_; have HB2 := Aside0.mk hb_; have HK2 := Aside0.mk hk_; clear ho_ hb_ hk_))
              go_roundg k1
              case measure => omega
              case rel => exact ⟨_, 2 * i + 2, rfl, H', ⟨by rw [List.length_set, List.length_set]; exact HL.out⟩, ⟨(HK2.out.2 g (blk_lt BK.out) (Kd.R_ne HO.out BK.out (by decide))).trans BK.out⟩, ⟨own_self HO2.out⟩, HB2, ⟨Kept.then_ HK.out HK2.out (fun _ hk => .inl hk)⟩⟩
            · rw [if_neg c5] at H
              obtain rfl := Option.some.inj H
              have HLb := Aside0.mk (show depgraph_ready_Less.f xs (2 * i + 2) (i) = some false from by unfold depgraph_ready_Less.f; rw [if_pos (by omega), if_pos (by omega), if_pos (by omega), if_pos (by omega), decide_eq_false c5])
              have hm1 := (meth_val g A xs.length c wr hz).1
              have hm1' := fun nd => (meth_val g A xs.length c (wr.drewN nd) hz).1
              clear H c5 c2 c1 hk c4 c3
              go_wp2_with (first | (go_at_call 42; (with_reducible refine (depgraph_ready_Less.calls A c xs (2 * i + 2) (2 * i + 1) true wr HC.out HCc.out HLa.out).mono ?_); rintro e w' ⟨rfl, ⟨nda, rfl⟩⟩) | (go_at_call 42; (with_reducible refine (depgraph_ready_Less.calls A c xs (2 * i + 2) i false _ (by first | exact HC.out | exact Kd.C_drewN HC.out _) HCc.out HLb.out).mono ?_); rintro e w' ⟨rfl, ⟨ndb, rfl⟩⟩))
              go_ret
              exact ⟨⟨_, rfl⟩, BK.out, by repeat (first | exact HO.out | apply Kd.R_drewN), by repeat (first | exact HB.out | apply pw_below_drewN), HK.out⟩
          · have hkid : kid xs i n = 2 * i + 1 := by unfold kid; rw [if_pos c3, if_neg c4]
            rw [hkid] at H hk
            clear hkid
            have HLa := Aside0.mk (show depgraph_ready_Less.f xs (2 * i + 2) (2 * i + 1) = some false from by unfold depgraph_ready_Less.f; rw [if_pos (by omega), if_pos (by omega), if_pos (by omega), if_pos (by omega), decide_eq_false c4])
            by_cases c5 : rd xs (2 * i + 1) < rd xs i
            · rw [if_pos c5] at H
              have HLb := Aside0.mk (show depgraph_ready_Less.f xs (2 * i + 1) (i) = some true from by unfold depgraph_ready_Less.f; rw [if_pos (by omega), if_pos (by omega), if_pos (by omega), if_pos (by omega), decide_eq_true c5])
              have HSw := Aside0.mk (show depgraph_ready_Swap.f xs i (2 * i + 1) = some ((xs.set i.toNat (rd xs (2 * i + 1))).set (2 * i + 1).toNat (rd xs i)) from by unfold depgraph_ready_Swap.f; rw [if_pos (by omega), if_pos (by omega), if_pos (by omega), if_pos (by omega)])
              have hm1 := (meth_val g A xs.length c wr hz).1
              have hm1' := fun nd => (meth_val g A xs.length c (wr.drewN nd) hz).1
              have hm2 := fun nd => (meth_val g A xs.length c (wr.drewN nd) hz).2.1
              have hm2' := fun nd nd2 => (meth_val g A xs.length c ((wr.drewN nd).drewN nd2) hz).2.1
              have H' := Aside0.mk H
              have HLE := Aside0.mk (show 0 ≤ i from c1.1)
              clear H c5 c2 c1 hk c4 c3
              go_wp2_with (first | (go_at_call 42; (with_reducible refine (depgraph_ready_Less.calls A c xs (2 * i + 2) (2 * i + 1) false wr HC.out HCc.out HLa.out).mono ?_); rintro e w' ⟨rfl, ⟨nda, rfl⟩⟩) | (go_at_call 42; (with_reducible refine (depgraph_ready_Less.calls A c xs (2 * i + 1) i true _ (by first | exact HC.out | exact Kd.C_drewN HC.out _) HCc.out HLb.out).mono ?_); rintro e w' ⟨rfl, ⟨ndb, rfl⟩⟩) | (go_at_call 45; (with_reducible refine (depgraph_ready_Swap.calls (Own (.slice A xs.length c)) (.slice A xs.length c) xs i (2 * i + 1) _ w0 _ (by repeat (first | exact HB.out | apply pw_below_drewN)) (by repeat (first | exact HO.out | apply Kd.R_drewN)) HSw.out).mono ?_); rintro e w2 ⟨rfl, ho_, hb_, hk_⟩; have HO2 := Aside0.mk ho_; have HB2 := Aside0.mk hb_; have HK2 := Aside0.mk hk_; clear ho_ hb_ hk_))
              go_roundg k1
              case measure => omega
              case rel => exact ⟨_, 2 * i + 1, rfl, H', ⟨by rw [List.length_set, List.length_set]; exact HL.out⟩, ⟨(HK2.out.2 g (blk_lt BK.out) (Kd.R_ne HO.out BK.out (by decide))).trans BK.out⟩, ⟨own_self HO2.out⟩, HB2, ⟨Kept.then_ HK.out HK2.out (fun _ hk => .inl hk)⟩⟩
            · rw [if_neg c5] at H
              obtain rfl := Option.some.inj H
              have HLb := Aside0.mk (show depgraph_ready_Less.f xs (2 * i + 1) (i) = some false from by unfold depgraph_ready_Less.f; rw [if_pos (by omega), if_pos (by omega), if_pos (by omega), if_pos (by omega), decide_eq_false c5])
              have hm1 := (meth_val g A xs.length c wr hz).1
              have hm1' := fun nd => (meth_val g A xs.length c (wr.drewN nd) hz).1
              clear H c5 c2 c1 hk c4 c3
              go_wp2_with (first | (go_at_call 42; (with_reducible refine (depgraph_ready_Less.calls A c xs (2 * i + 2) (2 * i + 1) false wr HC.out HCc.out HLa.out).mono ?_); rintro e w' ⟨rfl, ⟨nda, rfl⟩⟩) | (go_at_call 42; (with_reducible refine (depgraph_ready_Less.calls A c xs (2 * i + 1) i false _ (by first | exact HC.out | exact Kd.C_drewN HC.out _) HCc.out HLb.out).mono ?_); rintro e w' ⟨rfl, ⟨ndb, rfl⟩⟩))
              go_ret
              exact ⟨⟨_, rfl⟩, BK.out, by repeat (first | exact HO.out | apply Kd.R_drewN), by repeat (first | exact HB.out | apply pw_below_drewN), HK.out⟩
        · have b2 : decide (2 * i + 2 < n) = false := decide_eq_false c3
          have hkid : kid xs i n = 2 * i + 1 := by unfold kid; rw [if_neg c3]
          rw [hkid] at H hk
          clear hkid
          by_cases c5 : rd xs (2 * i + 1) < rd xs i
          · rw [if_pos c5] at H
            have HLb := Aside0.mk (show depgraph_ready_Less.f xs (2 * i + 1) (i) = some true from by unfold depgraph_ready_Less.f; rw [if_pos (by omega), if_pos (by omega), if_pos (by omega), if_pos (by omega), decide_eq_true c5])
            have HSw := Aside0.mk (show depgraph_ready_Swap.f xs i (2 * i + 1) = some ((xs.set i.toNat (rd xs (2 * i + 1))).set (2 * i + 1).toNat (rd xs i)) from by unfold depgraph_ready_Swap.f; rw [if_pos (by omega), if_pos (by omega), if_pos (by omega), if_pos (by omega)])
            have hm1 := (meth_val g A xs.length c wr hz).1
            have hm1' := fun nd => (meth_val g A xs.length c (wr.drewN nd) hz).1
            have hm2 := fun nd => (meth_val g A xs.length c (wr.drewN nd) hz).2.1
            have hm2' := fun nd nd2 => (meth_val g A xs.length c ((wr.drewN nd).drewN nd2) hz).2.1
            have H' := Aside0.mk H
            have HLE := Aside0.mk (show 0 ≤ i from c1.1)
            clear H c5 c2 c1 hk c3
            go_wp2_with (first | (go_at_call 42; (with_reducible refine (depgraph_ready_Less.calls A c xs (2 * i + 1) i true _ (by first | exact HC.out | exact Kd.C_drewN HC.out _) HCc.out HLb.out).mono ?_); rintro e w' ⟨rfl, ⟨ndb, rfl⟩⟩) | (go_at_call 45; (with_reducible refine (depgraph_ready_Swap.calls (Own (.slice A xs.length c)) (.slice A xs.length c) xs i (2 * i + 1) _ w0 _ (by repeat (first | exact HB.out | apply pw_below_drewN)) (by repeat (first | exact HO.out | apply Kd.R_drewN)) HSw.out).mono ?_); rintro e w2 ⟨rfl, ho_, hb_, hk_⟩; have HO2 := Aside0.mk ho_; have HB2 := Aside0.mk hb_; have HK2 := Aside0.mk hk_; clear ho_ hb_ hk_))
            go_roundg k1
            case measure => omega
            case rel => exact ⟨_, 2 * i + 1, rfl, H', ⟨by rw [List.length_set, List.length_set]; exact HL.out⟩, ⟨(HK2.out.2 g (blk_lt BK.out) (Kd.R_ne HO.out BK.out (by decide))).trans BK.out⟩, ⟨own_self HO2.out⟩, HB2, ⟨Kept.then_ HK.out HK2.out (fun _ hk => .inl hk)⟩⟩
          · rw [if_neg c5] at H
            obtain rfl := Option.some.inj H
            have HLb := Aside0.mk (show depgraph_ready_Less.f xs (2 * i + 1) (i) = some false from by unfold depgraph_ready_Less.f; rw [if_pos (by omega), if_pos (by omega), if_pos (by omega), if_pos (by omega), decide_eq_false c5])
            have hm1 := (meth_val g A xs.length c wr hz).1
            have hm1' := fun nd => (meth_val g A xs.length c (wr.drewN nd) hz).1
            clear H c5 c2 c1 hk c3
            go_wp2_with (first | (go_at_call 42; (with_reducible refine (depgraph_ready_Less.calls A c xs (2 * i + 1) i false _ (by first | exact HC.out | exact Kd.C_drewN HC.out _) HCc.out HLb.out).mono ?_); rintro e w' ⟨rfl, ⟨ndb, rfl⟩⟩))
            go_ret
            exact ⟨⟨_, rfl⟩, BK.out, by repeat (first | exact HO.out | apply Kd.R_drewN), by repeat (first | exact HB.out | apply pw_below_drewN), HK.out⟩
end Go.Proofs.YtffcaglfcnmhdaaDoor.H
end
