/- Texts that the law DepgraphCyclesExplainFailures comes to, printed and by hand, what is not used left out. -/
import Derived.Test.YtffcaglfcnmhdaaCDepgraphCyclesExplainFailures5
import Derived.Deep.RegionLaw
section
namespace Go.Proofs.Ytffcaglfcnmhdaa.H
open Go.RowKit Go.Proofs.YtffcaglfcnmhdaaW.PrintWords Go.Proofs.YtffcaglfcnmhdaaW.PrintLast Go.Proofs.YtffcaglfcnmhdaaW.PrintMore
set_option linter.unusedVariables false
set_option linter.unusedSimpArgs false
open Go.RowKit
/-- What a push leaves: the heap at g, perhaps in a new row. -/
def HeapPost (g : Nat) (v : Value) (r : List Int) (w0 w w' : World) : Prop := ∃ v', w'.heap[g]? = some (.cells #[v'] 55 (0, 0)) ∧ Kd.R (Kd.int .i64) 3 w' w0.heap.size (Own v') v' r ∧ Below w0.heap.size w0 w' ∧ Kept w w' (fun k => k = g ∨ Own v k) ∧ (v'.ownBlock = v.ownBlock ∨ ∃ b, v'.ownBlock = some b ∧ w.heap.size ≤ b)
theorem drew_alloc (w : World) (o : Obj) : (w.alloc o).drew = w.drew.alloc o := rfl
theorem size_setCell_ (w : World) (p : Addr) (u : Value) : (w.setCell p u).heap.size = w.heap.size := by simp [World.setCell]
theorem assert_int (x : Int) (w : World) : (Instr.typeAssert (.iface 3 (.int .i64 x)) 20 3 false).run Try.prog w = .ok (.int .i64 x) w := by kernel_rfl
set_option maxHeartbeats 8000000 in
set_option maxRecDepth 100000 in
theorem rpush_calls (g : Nat) (v : Value) (xs : List Int) (x : Int) (w0 w : World) (hB : Below w0.heap.size w0 w) (hg : w0.heap.size ≤ g) (hb : w.heap[g]? = some (.cells #[v] 55 (0, 0))) (ho : Kd.R (Kd.int .i64) 3 w w0.heap.size (Own v) v xs) (hl : xs.length ≤ 1000000) :
    Calls Try.prog 70 #[.pointer (some ⟨g, 0, none⟩), .iface 3 (.int .i64 x)] w fun e w' => e = .returned (.tuple #[]) ∧ HeapPost g v (xs ++ [x]) w0 w w' := by
  have HB := Aside0.mk hB
  have HG := Aside0.mk hg
  have BK := Aside0.mk hb
  have HO := Aside0.mk ho
  have HL := Aside0.mk hl
  clear hB hg hb ho hl
  obtain ⟨A, c, rfl, hc_, hC_⟩ := Kd.R_reads HO.out
  clear hC_ hc_
  have hz : w.cell? ⟨g, 0, none⟩ = some (.slice A xs.length c) := (blk_cell BK.out 0).trans rfl
  have hf := blk_frozen BK.out 0
  have hta := fun w1 => assert_int x w1
  have hq : ∀ o_, (w.alloc o_).cell? ⟨g, 0, none⟩ = some (.slice A xs.length c) := fun o_ => pw_cell_below (below_alloc (Below.refl _ _) o_) hz
  go_enter Try.func70, Try.ntmps70
  go_wp2
  go_region_law? ((rw [drew_alloc]; refine Kd.R_append_step (Kd.int .i64) (w0 := w0) w0.heap.size (by rfl) (.tmp 7) (.tmp 10) 55 3 (.int .i64 0) 8 rfl Try.underlying55 info3 rfl (by decide) (by omega) (.slice A xs.length c) xs x [.int .i64 x] (fun k_ => Own (.slice A xs.length c) k_ ∨ w.heap.size ≤ k_) (fun _ => False) (by first | (go_simp; done) | (go_simp; rfl)) (by first | (go_simp; done) | (go_simp; rfl)) rfl (fun _ hk => hk.elim) (fun k_ hk_ => .inr hk_) (Kd.R_mono (Kd.R_drew HO.out) (fun _ hk_ => .inl hk_)) (below_drew HB.out) HB.out.size (by have := HL.out; omega) ?_; intro v1 w1 ho_ hb_ hg_ hat_; have BK1 := Aside0.mk (blk_grown (blk_drew BK.out) hg_ (Kd.R_ne HO.out BK.out (by decide))); have HO1 := Aside0.mk ho_; have HB1 := Aside0.mk hb_; have HG1 := Aside0.mk hg_; have HAT := Aside0.mk hat_; obtain ⟨A1, c1, rfl⟩ := Kd.R_slice ho_; clear ho_ hb_ hg_ hat_; have hz1 : w1.cell? ⟨g, 0, none⟩ = some (.slice A xs.length c) := (blk_cell BK1.out 0).trans rfl; have hf1 := blk_frozen BK1.out 0))
  all_goals go_wp2
  all_goals go_end0
  all_goals refine ⟨rfl, ?_⟩
  all_goals refine ⟨.slice A1 (xs ++ [x]).length c1, ?_, ?_, ?_, ?_, HAT.out⟩
  all_goals (have hle_ : xs.length + 1 = (xs ++ [x]).length := by simp)
  all_goals rw [hle_]
  all_goals first
    | exact blk_put (cs := #[.slice A xs.length c]) BK1.out 0 _ rfl
    | exact Kd.R_set (own_self HO1.out) BK1.out (by decide) 0 _
    | exact HB1.out.setCell (p := ⟨g, 0, none⟩) HG.out _
    | exact ⟨by rw [size_setCell_]; exact HG1.out.size, fun i hi hn => (Below.heap_setCell _ ⟨g, 0, none⟩ _ i (fun e_ => hn (.inl e_))).trans (HG1.out.block i hi (fun e_ => hn (.inr e_)))⟩
theorem rpop_calls (g : Nat) (A : Option Addr) (c : Nat) (xs : List Int) (w0 w : World) (hB : Below w0.heap.size w0 w) (hg : w0.heap.size ≤ g) (hb : w.heap[g]? = some (.cells #[.slice A xs.length c] 55 (0, 0))) (ho : Kd.R (Kd.int .i64) 3 w w0.heap.size (Own (.slice A xs.length c)) (.slice A xs.length c) xs) (hl : xs.length ≤ 1000000) (hp : 0 < xs.length) :
    Calls Try.prog 69 #[.pointer (some ⟨g, 0, none⟩)] w fun e w' => e = .returned (.iface 3 (.int .i64 (rd xs ((xs.length : Int) - 1)))) ∧ w'.heap[g]? = some (.cells #[.slice A (xs.length - 1) c] 55 (0, 0)) ∧ Kd.R (Kd.int .i64) 3 w' w0.heap.size (Own (.slice A (xs.length - 1) c)) (.slice A (xs.length - 1) c) (xs.take (xs.length - 1)) ∧ Below w0.heap.size w0 w' ∧ Kept w w' (fun k => k = g) := by
  have HB := Aside0.mk hB
  have HG := Aside0.mk hg
  have BK := Aside0.mk hb
  have HO := Aside0.mk ho
  have HL := Aside0.mk hl
  have HP := Aside0.mk hp
  clear hB hg hb ho hl hp
  have hz : w.cell? ⟨g, 0, none⟩ = some (.slice A xs.length c) := (blk_cell BK.out 0).trans rfl
  have hf := blk_frozen BK.out 0
  obtain ⟨A', c', e, hc_, hC_⟩ := Kd.R_reads HO.out
  injection e with e1 e2 e3
  subst e1 e3
  have HC := Aside0.mk hC_
  have HCc := Aside0.mk hc_
  clear hC_ hc_ e2
  obtain ⟨ad, e, hx⟩ := Kd.at_int HC.out ((xs.length : Int) - 1) (by have := HP.out; omega) (by omega)
  subst e
  have hw1 : IntKind.i64.wrap ((xs.length : Int) - 1) = (xs.length : Int) - 1 := by rw [i64_w]; have := HL.out; unfold wrap64; omega
  have hp0 : (0 ≤ (xs.length : Int) - 1) = True := eq_true (by have := HP.out; omega)
  have hp1 : ((xs.length : Int) - 1 < (xs.length : Int)) = True := eq_true (by omega)
  have hx2 : w.cell? (ad.add (xs.length - 1)) = some (.int .i64 (rd xs ((xs.length : Int) - 1))) := by rw [show xs.length - 1 = ((xs.length : Int) - 1).toNat from by omega]; exact hx
  have hp2 : ((xs.length : Int) - 1 ≤ (c : Int)) = True := eq_true (by have := HCc.out; omega)
  have hp3 : (xs.length - 1 ≤ c) = True := eq_true (by have := HCc.out; omega)
  have hp5 : (1 ≤ (xs.length : Int)) = True := eq_true (by have := HP.out; omega)
  have hp4 : ((xs.length : Int) - 1).toNat = xs.length - 1 := by omega
  go_enter Try.func69, Try.ntmps69
  go_wp2
  go_ret
  refine ⟨rfl, blk_put (cs := #[.slice (some ad) xs.length c]) BK.out 0 _ rfl, ?_, HB.out.setCell (p := ⟨g, 0, none⟩) HG.out _, ?_⟩
  · have h2 := Kd.R_set (Kd.R_take HO.out (m := xs.length - 1) (by omega)) BK.out (by decide) 0 (.slice (some ad) (xs.length - 1) c)
    exact own_self h2
  · exact ⟨by rw [size_setCell_]; exact Nat.le_refl _, fun i hi hn => Below.heap_setCell _ ⟨g, 0, none⟩ _ i hn⟩
end Go.Proofs.Ytffcaglfcnmhdaa.H
end
section
namespace Go.Proofs.Ytffcaglfcnmhdaa.H
open Go.RowKit Go.Proofs.YtffcaglfcnmhdaaW.PrintWords Go.Proofs.YtffcaglfcnmhdaaW.PrintLast Go.Proofs.YtffcaglfcnmhdaaW.PrintMore
set_option linter.unusedVariables false
set_option linter.unusedSimpArgs false
open Go.RowKit
def hpushF (k : Nat) (xs : List Int) (x : Int) : Option (List Int) := if xs.length ≤ 100000 then upF k (xs ++ [x]) (xs.length : Int) else none
def hpopF (k : Nat) (xs : List Int) : Option (Int × List Int) :=
  if 0 < xs.length ∧ xs.length ≤ 100000 then (downF k ((xs.set 0 (rd xs ((xs.length : Int) - 1))).set (xs.length - 1) (rd xs 0)) 0 ((xs.length : Int) - 1)).bind fun r => if r.length = xs.length then some (rd r ((xs.length : Int) - 1), r.take (xs.length - 1)) else none else none
set_option maxHeartbeats 8000000 in
set_option maxRecDepth 100000 in
theorem hpush_calls (k : Nat) (g : Nat) (v : Value) (xs r : List Int) (x : Int) (w0 w : World) (hB : Below w0.heap.size w0 w) (hg : w0.heap.size ≤ g) (hb : w.heap[g]? = some (.cells #[v] 55 (0, 0))) (ho : Kd.R (Kd.int .i64) 3 w w0.heap.size (Own v) v xs) (h : hpushF k xs x = some r) :
    Calls Try.prog 40 #[.iface 54 (.pointer (some ⟨g, 0, none⟩)), .iface 3 (.int .i64 x)] w fun e w' => e = .returned (.tuple #[]) ∧ HeapPost g v r w0 w w' := by
  unfold hpushF at h
  by_cases hl : xs.length ≤ 100000
  case neg => rw [if_neg hl] at h; cases h
  rw [if_pos hl] at h
  obtain ⟨ys, hys⟩ : ∃ ys, Aside0 (xs ++ [x] = ys) := ⟨_, ⟨rfl⟩⟩
  rw [hys.out] at h
  have hyl : Aside0 (ys.length = xs.length + 1) := ⟨by rw [← hys.out]; simp⟩
  have HB := Aside0.mk hB
  have HG := Aside0.mk hg
  have BK := Aside0.mk hb
  have HO := Aside0.mk ho
  have HL := Aside0.mk hl
  have H := Aside0.mk h
  have hm1 := (meth_ptr g w).1
  have hw1 : IntKind.i64.wrap ((ys.length : Int) - 1) = (xs.length : Int) := by rw [i64_w, hyl.out]; unfold wrap64; omega
  clear hB hg hb ho hl h
  go_enter Try.func40, Try.ntmps40
  go_wp2_with (first | (go_at_call 70; (with_reducible refine (rpush_calls g v xs x w0 w HB.out HG.out BK.out HO.out (by have := HL.out; omega)).mono ?_); rintro e w1 ⟨rfl, v1, bk_, ho_, hb_, hk_, ha_⟩; rw [hys.out] at ho_; obtain ⟨A1, c1, rfl⟩ := Kd.R_slice ho_; have BK1 := Aside0.mk bk_; have HO1 := Aside0.mk ho_; have HB1 := Aside0.mk hb_; have HK1 := Aside0.mk hk_; have HA1 := Aside0.mk ha_; clear bk_ ho_ hb_ hk_ ha_; have hm2 := (meth_val g A1 ys.length c1 w1 ((blk_cell BK1.out 0).trans rfl)).2.2; obtain ⟨A1', c1', e1_, hc_, hC_⟩ := Kd.R_reads HO1.out; injection e1_ with e1_ _ e2_; subst e1_ e2_; have HC := Aside0.mk hC_; have HCc := Aside0.mk hc_; clear hc_ hC_; have HLn := Aside0.mk (show depgraph_ready_Len.f ys = some (ys.length : Int) from rfl)) | (go_at_call 41; (with_reducible refine (depgraph_ready_Len.calls A1 c1 ys _ w1 HC.out HCc.out HLn.out).mono ?_); rintro e w' ⟨rfl, ⟨nd, rfl⟩⟩) | (go_at_call 47; (with_reducible refine (up_calls k g (.slice A1 ys.length c1) ys r (xs.length : Int) w0 _ (pw_below_drewN HB1.out _) HG.out (blk_drewN BK1.out _) (Kd.R_drewN HO1.out _) H.out (by have := HL.out; have := hyl.out; omega)).mono ?_); rintro e w2 ⟨rfl, bk_, ho_, hb_, hk_⟩; have BK2 := Aside0.mk bk_; have HO2 := Aside0.mk ho_; have HB2 := Aside0.mk hb_; have HK2 := Aside0.mk hk_; clear bk_ ho_ hb_ hk_))
  go_end0
  refine ⟨rfl, .slice A1 ys.length c1, BK2.out, HO2.out, HB2.out, ?_, HA1.out⟩
  refine Kept.then_ HK1.out (W := w1) (Kept.then_ (Kept.of_below (pw_below_drewN (Below.refl _ _) _) _) HK2.out (fun _ hk => .inl hk)) (fun k_ hk => ?_)
  rcases HA1.out with e_ | ⟨b, e_, hb_⟩
  · exact .inl (.inr (hk.trans e_))
  · have := hk.trans e_
    injection this with this
    exact .inr (by omega)
set_option maxHeartbeats 8000000 in
set_option maxRecDepth 100000 in
theorem hpop_calls (k : Nat) (g : Nat) (v : Value) (xs r : List Int) (x : Int) (w0 w : World) (hB : Below w0.heap.size w0 w) (hg : w0.heap.size ≤ g) (hb : w.heap[g]? = some (.cells #[v] 55 (0, 0))) (ho : Kd.R (Kd.int .i64) 3 w w0.heap.size (Own v) v xs) (h : hpopF k xs = some (x, r)) :
    Calls Try.prog 42 #[.iface 54 (.pointer (some ⟨g, 0, none⟩))] w fun e w' => e = .returned (.iface 3 (.int .i64 x)) ∧ HeapPost g v r w0 w w' := by
  unfold hpopF at h
  by_cases hl : 0 < xs.length ∧ xs.length ≤ 100000
  case neg => rw [if_neg hl] at h; cases h
  rw [if_pos hl] at h
  replace h := Option.bind_eq_some_iff.mp h
  obtain ⟨ys, hd, h⟩ := h
  by_cases hlen : ys.length = xs.length
  case neg => rw [if_neg hlen] at h; cases h
  rw [if_pos hlen] at h
  simp only [Option.some.injEq, Prod.mk.injEq] at h
  obtain ⟨rfl, rfl⟩ := h
  have HSw := Aside0.mk (show depgraph_ready_Swap.f xs 0 ((xs.length : Int) - 1) = some ((xs.set (0 : Int).toNat (rd xs ((xs.length : Int) - 1))).set ((xs.length : Int) - 1).toNat (rd xs 0)) from by unfold depgraph_ready_Swap.f; rw [if_pos (by omega), if_pos (by omega), if_pos (by omega), if_pos (by omega)])
  rw [show ((0 : Int).toNat) = 0 from rfl, show ((xs.length : Int) - 1).toNat = xs.length - 1 from by omega] at HSw
  obtain ⟨zs, hzs⟩ : ∃ zs, Aside0 ((xs.set 0 (rd xs ((xs.length : Int) - 1))).set (xs.length - 1) (rd xs 0) = zs) := ⟨_, ⟨rfl⟩⟩
  rw [hzs.out] at HSw hd
  have hzl : Aside0 (zs.length = xs.length) := ⟨by rw [← hzs.out]; simp⟩
  obtain ⟨A, c, rfl, hc_, hC_⟩ := Kd.R_reads ho
  have HB := Aside0.mk hB
  have HG := Aside0.mk hg
  have BK := Aside0.mk hb
  have HO := Aside0.mk ho
  have HL := Aside0.mk hl
  have HYL := Aside0.mk hlen
  have H := Aside0.mk hd
  have HC := Aside0.mk hC_
  have HCc := Aside0.mk hc_
  have HLn := Aside0.mk (show depgraph_ready_Len.f xs = some (xs.length : Int) from rfl)
  have hz : w.cell? ⟨g, 0, none⟩ = some (.slice A xs.length c) := (blk_cell hb 0).trans rfl
  have hm1 := (meth_val g A xs.length c w hz).2.2
  have hm2 := fun nd => (meth_val g A xs.length c (w.drewN nd) hz).2.1
  have hw1 : IntKind.i64.wrap ((xs.length : Int) - 1) = (xs.length : Int) - 1 := by rw [i64_w]; unfold wrap64; omega
  clear hB hg hb ho hl hlen hd hC_ hc_ hz
  go_enter Try.func42, Try.ntmps42
  go_wp2_with (first | (go_at_call 41; (with_reducible refine (depgraph_ready_Len.calls A c xs _ w HC.out HCc.out HLn.out).mono ?_); rintro e w' ⟨rfl, ⟨nd, rfl⟩⟩) | (go_at_call 71; (with_reducible refine (depgraph_ready_Swap.calls (Own (.slice A xs.length c)) (.slice A xs.length c) xs 0 ((xs.length : Int) - 1) _ w0 _ (pw_below_drewN HB.out _) (Kd.R_drewN HO.out _) HSw.out).mono ?_); rintro e w2 ⟨rfl, ho_, hb_, hk_⟩; have HO2 := Aside0.mk (own_self ho_); have HB2 := Aside0.mk hb_; have HK2 := Aside0.mk (Kept.then_ (Kept.of_below (pw_below_drewN (Below.refl _ w) _) (Own (.slice A xs.length c))) hk_ (fun _ hk => .inl hk)); have BK2 := Aside0.mk ((HK2.out.2 g (blk_lt BK.out) (Kd.R_ne HO.out BK.out (by decide))).trans BK.out); clear ho_ hb_ hk_) | (go_at_call 48; (with_reducible refine (down_calls k g (.slice A xs.length c) zs ys 0 ((xs.length : Int) - 1) w0 w2 HB2.out HG.out BK2.out HO2.out H.out (by have := HL.out; have := hzl.out; omega)).mono ?_); rintro e w3 ⟨⟨bb, rfl⟩, bk_, ho_, hb_, hk_⟩; have BK3 := Aside0.mk bk_; have HO3 := Aside0.mk ho_; have HB3 := Aside0.mk hb_; have HK3 := Aside0.mk (Kept.then_ HK2.out hk_ (fun _ hk => .inl hk)); clear bk_ ho_ hb_ hk_; have hm3 := (meth_ptr g w3).2) | (go_at_call 69; (with_reducible refine (rpop_calls g A c ys w0 w3 HB3.out HG.out (by rw [HYL.out]; exact BK3.out) (by rw [HYL.out]; exact HO3.out) (by have := HL.out; have := HYL.out; omega) (by have := HL.out; have := HYL.out; omega)).mono ?_); rintro e w4 ⟨rfl, bk_, ho_, hb_, hk_⟩; rw [HYL.out] at bk_ ho_; have BK4 := Aside0.mk bk_; have HO4 := Aside0.mk ho_; have HB4 := Aside0.mk hb_; have HK4 := Aside0.mk hk_; clear bk_ ho_ hb_ hk_))
  go_ret
  refine ⟨by first | rfl | (rw [HYL.out]; rfl), .slice A (xs.length - 1) c, BK4.out, HO4.out, HB4.out, ?_, .inl ?_⟩
  · exact Kept.then_ (Kept.mono HK3.out (fun _ hk => .inr hk)) HK4.out (fun _ hk => .inl (.inl hk))
  · cases A <;> rfl
end Go.Proofs.Ytffcaglfcnmhdaa.H
end
section
namespace Go.Proofs.Ytffcaglfcnmhdaa.H
open Go.RowKit Go.Proofs.YtffcaglfcnmhdaaW.PrintWords Go.Proofs.YtffcaglfcnmhdaaW.PrintLast Go.Proofs.YtffcaglfcnmhdaaW.PrintMore
set_option linter.unusedVariables false
set_option linter.unusedSimpArgs false
open Go.RowKit
/-- Neither of three rows'. -/
abbrev Off (a b c : Value) (k : Nat) : Prop := ¬ Own a k ∧ ¬ Own b k ∧ ¬ Own c k
/-- All but users. -/
structure OJ (w0 w : World) (g3 g7 : Nat) (v5 vh vo : Value) (x5 x7 x12 : List Int) : Prop where
  b : Below w0.heap.size w0 w
  e3 : w0.heap.size ≤ g3
  e7 : w0.heap.size ≤ g7
  k3 : w.heap[g3]? = some (.cells #[.int .i64 0, .int .i64 0] 25 (0, 0))
  k7 : w.heap[g7]? = some (.cells #[vh] 55 (0, 0))
  m : Kd.R (Kd.int .i64) 3 w w0.heap.size (Own v5) v5 x5
  h : Kd.R (Kd.int .i64) 3 w w0.heap.size (Own vh) vh x7
  o : Kd.R (Kd.int .i64) 3 w w0.heap.size (Own vo) vo x12
  a57 : ∀ k, Own v5 k → ¬ Own vh k
  a5o : ∀ k, Own v5 k → ¬ Own vo k
  a7o : ∀ k, Own vh k → ¬ Own vo k
structure OI (w0 w : World) (g3 g7 : Nat) (v5 v6 vh vo : Value) (x5 : List Int) (x6 : List (List Int)) (x7 x12 : List Int) : Prop extends OJ w0 w g3 g7 v5 vh vo x5 x7 x12 where
  u : Kd.S (Kd.slice 3 (Kd.int .i64)) 23 w w0.heap.size (Off v5 vh vo) v6 x6
section
variable {w0 w w1 : World} {g3 g7 : Nat} {v5 v6 vh vo v1 : Value} {x5 x7 x12 r : List Int} {x6 : List (List Int)}
theorem OJ.drewN (h : OJ w0 w g3 g7 v5 vh vo x5 x7 x12) (n : Nat) : OJ w0 (w.drewN n) g3 g7 v5 vh vo x5 x7 x12 :=
  ⟨pw_below_drewN h.b n, h.e3, h.e7, blk_drewN h.k3 n, blk_drewN h.k7 n, Kd.R_drewN h.m n, Kd.R_drewN h.h n, Kd.R_drewN h.o n, h.a57, h.a5o, h.a7o⟩
theorem OI.drewN (h : OI w0 w g3 g7 v5 v6 vh vo x5 x6 x7 x12) (n : Nat) : OI w0 (w.drewN n) g3 g7 v5 v6 vh vo x5 x6 x7 x12 :=
  ⟨h.toOJ.drewN n, Kd.S_drewN h.u n⟩
theorem OJ.fresh (h : OJ w0 w g3 g7 v5 vh vo x5 x7 x12) (k : Nat) (hk : w.heap.size ≤ k) : Off v5 vh vo k :=
  ⟨fun e => absurd (Kd.R_lt h.m k e.symm) (by omega), fun e => absurd (Kd.R_lt h.h k e.symm) (by omega), fun e => absurd (Kd.R_lt h.o k e.symm) (by omega)⟩
/-- A step on a row that is none of these. -/
theorem OJ.grown (h : OJ w0 w g3 g7 v5 vh vo x5 x7 x12) {row : Option Nat} (hg : w.grownBy w1 row) (hb : Below w0.heap.size w0 w1) (h3 : some g3 ≠ row) (h7 : some g7 ≠ row) (hr : ∀ k, row = some k → Off v5 vh vo k) : OJ w0 w1 g3 g7 v5 vh vo x5 x7 x12 :=
  ⟨hb, h.e3, h.e7, blk_grown h.k3 hg h3, blk_grown h.k7 hg h7, Kd.R_grown h.m hg (fun k hk e => (hr k e.symm).1 hk), Kd.R_grown h.h hg (fun k hk e => (hr k e.symm).2.1 hk), Kd.R_grown h.o hg (fun k hk e => (hr k e.symm).2.2 hk), h.a57, h.a5o, h.a7o⟩
theorem OI.own6 (h : OI w0 w g3 g7 v5 v6 vh vo x5 x6 x7 x12) (k : Nat) (e : v6.ownBlock = some k) : Off v5 vh vo k := by
  apply Classical.byContradiction
  intro hn
  exact Kd.S_away (g := k) h.u (fun k' hk' e' => hn (e' ▸ hk')) e.symm
theorem OI.put {g n c : Nat} (h : OI w0 w g3 g7 (.slice (some ⟨g, 0, none⟩) n c) v6 vh vo x5 x6 x7 x12) (hge : w0.heap.size ≤ g) (i x : Int) : OI w0 (w.setCell ⟨g, i.toNat, none⟩ (.int .i64 x)) g3 g7 (.slice (some ⟨g, 0, none⟩) n c) v6 vh vo (x5.set i.toNat x) x6 x7 x12 := by
  obtain ⟨hm, hg⟩ := Kd.R_putg (h1 := fun _ => rfl) h.m i x
  refine ⟨⟨below_set h.b hge, h.e3, h.e7, blk_grown h.k3 hg (Kd.R_ne h.m h.k3 (by decide)), blk_grown h.k7 hg (Kd.R_ne h.m h.k7 (by decide)), hm, Kd.R_grown h.h hg (fun k hk e => h.a57 k e hk), Kd.R_grown h.o hg (fun k hk e => h.a5o k e hk), h.a57, h.a5o, h.a7o⟩, Kd.S_grown h.u hg (fun k hk e => hk.1 e)⟩
theorem OI.heap (h : OI w0 w g3 g7 v5 v6 vh vo x5 x6 x7 x12) (hp : HeapPost g7 vh r w0 w w1) : ∃ v', OI w0 w1 g3 g7 v5 v6 v' vo x5 x6 r x12 ∧ ∀ k, v6.ownBlock = some k → w1.heap[k]? = w.heap[k]? := by
  have h6 := h.own6
  obtain ⟨v', hb', ho', hbel, hk, hat⟩ := hp
  have hne : ∀ k, k < w.heap.size → ¬ Own vh k → ¬ Own v' k := by
    intro k hlt hn e
    rcases hat with e2 | ⟨b, e2, hge⟩
    · exact hn (e.trans e2)
    · have := e.trans e2; injection this with this; omega
  have h5 : ∀ k, Own v5 k → k < w.heap.size ∧ k ≠ g7 := fun k e => ⟨Kd.R_lt h.m k e.symm, fun e2 => Kd.R_ne h.m h.k7 (by decide) (by rw [← e2]; exact e)⟩
  have h8 : ∀ k, Own vo k → k < w.heap.size ∧ k ≠ g7 := fun k e => ⟨Kd.R_lt h.o k e.symm, fun e2 => Kd.R_ne h.o h.k7 (by decide) (by rw [← e2]; exact e)⟩
  refine ⟨v', ⟨⟨hbel, h.e3, h.e7, (hk.2 g3 (blk_lt h.k3) ?_).trans h.k3, hb', ?_, ho', ?_, ?_, h.a5o, ?_⟩, ?_⟩, fun k e => hk.2 k (Kd.S_lt h.u k e) (fun e2 => e2.elim (fun e3 => Kd.S_ne h.u h.k7 (by decide) (by rw [← e3]; exact e.symm)) (fun e3 => (h6 k e).2.1 e3))⟩
  · rintro (e | e)
    · exact blk_ne h.k3 h.k7 (by decide) e
    · exact Kd.R_ne h.h h.k3 (by decide) e
  · exact Kd.R_step h.m (fun k hk1 hlt => hk.2 k hlt (fun e => e.elim (h5 k hk1).2 (h.a57 k hk1)))
  · exact Kd.R_step h.o (fun k hk1 hlt => hk.2 k hlt (fun e => e.elim (h8 k hk1).2 (fun e => h.a7o k e hk1)))
  · exact fun k hk1 => hne k (h5 k hk1).1 (h.a57 k hk1)
  · exact fun k e hk1 => hne k (h8 k hk1).1 (fun e => h.a7o k e hk1) e
  · have hs := Kd.S_bound (Kd.S_types h.u h.k7 (by decide))
    exact Kd.S_mono (Kd.S_step hs (fun k hk1 hlt => hk.2 k hlt (fun e => e.elim hk1.1.2 hk1.1.1.2.1))) (fun k hk1 => ⟨hk1.1.1.1, hne k hk1.2.2.1 hk1.1.1.2.1, hk1.1.1.2.2⟩)
theorem OI.out {ok : Nat → Prop} (h : OI w0 w g3 g7 v5 v6 vh vo x5 x6 x7 x12) (ho : Kd.R (Kd.int .i64) 3 w1 w0.heap.size ok v1 r) (hb : Below w0.heap.size w0 w1) (hg : w.grownBy w1 vo.ownBlock) (hat : v1.ownBlock = vo.ownBlock ∨ ∃ b, v1.ownBlock = some b ∧ w.heap.size ≤ b) : OI w0 w1 g3 g7 v5 v6 vh v1 x5 x6 x7 r := by
  have hne : ∀ k, k < w.heap.size → ¬ Own vo k → ¬ Own v1 k := by
    intro k hlt hn e
    rcases hat with e2 | ⟨b, e2, hge⟩
    · exact hn (e.trans e2)
    · have := e.trans e2; injection this with this; omega
  refine ⟨⟨hb, h.e3, h.e7, blk_grown h.k3 hg (Kd.R_ne h.o h.k3 (by decide)), blk_grown h.k7 hg (Kd.R_ne h.o h.k7 (by decide)), Kd.R_grown h.m hg (fun k hk e => h.a5o k hk e), Kd.R_grown h.h hg (fun k hk e => h.a7o k hk e), own_self ho, h.a57, fun k hk => hne k (Kd.R_lt h.m k hk.symm) (h.a5o k hk), fun k hk => hne k (Kd.R_lt h.h k hk.symm) (h.a7o k hk)⟩, ?_⟩
  exact Kd.S_mono (Kd.S_grown (Kd.S_bound h.u) hg (fun k hk e => hk.1.2.2 e)) (fun k hk => ⟨hk.1.1, hk.1.2.1, hne k hk.2.2.1 hk.1.2.2⟩)
/-- The way to the start: missing, users, the heap's row, the heap's box. -/
structure OA (w0 w : World) (g3 : Nat) (v5 : Value) (x5 : List Int) : Prop where
  b : Below w0.heap.size w0 w
  e3 : w0.heap.size ≤ g3
  k3 : w.heap[g3]? = some (.cells #[.int .i64 0, .int .i64 0] 25 (0, 0))
  m : Kd.R (Kd.int .i64) 3 w w0.heap.size (Own v5) v5 x5
structure OB (w0 w : World) (g3 : Nat) (v5 v6 : Value) (x5 : List Int) (x6 : List (List Int)) : Prop extends OA w0 w g3 v5 x5 where
  u : Kd.S (Kd.slice 3 (Kd.int .i64)) 23 w w0.heap.size (fun k => ¬ Own v5 k) v6 x6
structure OC (w0 w : World) (g3 : Nat) (v5 v6 vh : Value) (x5 : List Int) (x6 : List (List Int)) : Prop extends OA w0 w g3 v5 x5 where
  u : Kd.S (Kd.slice 3 (Kd.int .i64)) 23 w w0.heap.size (fun k => ¬ Own v5 k ∧ ¬ Own vh k) v6 x6
  h : Kd.R (Kd.int .i64) 3 w w0.heap.size (Own vh) vh []
  a57 : ∀ k, Own v5 k → ¬ Own vh k
theorem OA.of {ok : Nat → Prop} (hb : Below w0.heap.size w0 w) (e3 : w0.heap.size ≤ g3) (k3 : w.heap[g3]? = some (.cells #[.int .i64 0, .int .i64 0] 25 (0, 0))) (ho : Kd.R (Kd.int .i64) 3 w1 w.heap.size ok v5 x5) (h : Below w.heap.size w w1) : OA w0 w1 g3 v5 x5 :=
  ⟨below_step hb h, e3, blk_below k3 h, own_self (Kd.R_lower ho (below_size hb))⟩
theorem OA.drewN (h : OA w0 w g3 v5 x5) (n : Nat) : OA w0 (w.drewN n) g3 v5 x5 := ⟨pw_below_drewN h.b n, h.e3, blk_drewN h.k3 n, Kd.R_drewN h.m n⟩
theorem OA.below (h : OA w0 w g3 v5 x5) (hb : Below w.heap.size w w1) : OA w0 w1 g3 v5 x5 := ⟨below_step h.b hb, h.e3, blk_below h.k3 hb, Kd.R_below h.m hb⟩
theorem OB.drewN (h : OB w0 w g3 v5 v6 x5 x6) (n : Nat) : OB w0 (w.drewN n) g3 v5 v6 x5 x6 := ⟨h.toOA.drewN n, Kd.S_drewN h.u n⟩
theorem OC.drewN (h : OC w0 w g3 v5 v6 vh x5 x6) (n : Nat) : OC w0 (w.drewN n) g3 v5 v6 vh x5 x6 := ⟨h.toOA.drewN n, Kd.S_drewN h.u n, Kd.R_drewN h.h n, h.a57⟩
theorem OB.of {ok : Nat → Prop} (h : OA w0 w g3 v5 x5) (ho : Kd.S (Kd.slice 3 (Kd.int .i64)) 23 w1 w.heap.size ok v6 x6) (hb : Below w.heap.size w w1) : OB w0 w1 g3 v5 v6 x5 x6 :=
  ⟨h.below hb, Kd.S_mono (Kd.S_lower (Kd.S_bound ho) (below_size h.b)) (fun k hk e => by have := Kd.R_lt h.m k e.symm; have := hk.2.1; omega)⟩
theorem OC.of {ok : Nat → Prop} (h : OB w0 w g3 v5 v6 x5 x6) (ho : Kd.R (Kd.int .i64) 3 w1 w.heap.size ok vh []) (hb : Below w.heap.size w w1) : OC w0 w1 g3 v5 v6 vh x5 x6 :=
  ⟨h.toOA.below hb, Kd.S_mono (Kd.S_below (Kd.S_bound h.u) hb) (fun k hk => ⟨hk.1, fun e => by have := Kd.R_base ho k e.symm; have := hk.2.2.1; omega⟩), own_self (Kd.R_lower ho (below_size h.b)), fun k hk e => by have := Kd.R_base ho k e.symm; have := Kd.R_lt h.m k hk.symm; omega⟩
theorem OI.of (h : OC w0 w g3 v5 v6 vh x5 x6) (hg : g7 = w.heap.size) (k7 : w1.heap[g7]? = some (.cells #[vh] 55 (0, 0))) (hb : Below w.heap.size w w1) : OI w0 w1 g3 g7 v5 v6 vh (.slice none 0 0) x5 x6 [] [] :=
  ⟨⟨below_step h.b hb, h.e3, by rw [hg]; exact below_size h.b, blk_below h.k3 hb, k7, Kd.R_below h.m hb, Kd.R_below h.h hb, Kd.R_nil _ _ _ _ _, h.a57, fun k _ e => by simp [Own, Value.ownBlock] at e, fun k _ e => by simp [Own, Value.ownBlock] at e⟩, Kd.S_mono (Kd.S_below h.u hb) (fun k hk => ⟨hk.1, hk.2, fun e => by simp [Own, Value.ownBlock] at e⟩)⟩
theorem R_empty (W : World) : Kd.R (Kd.int .i64) 3 (W.alloc (.cells #[] 3)) W.heap.size (fun _ => True) (.slice (some ⟨W.heap.size, 0, none⟩) 0 0) [] := by
  have h := own_made_of' (enc := Value.int .i64) (d := 0) W W.heap.size 3 0 (Nat.le_refl _) (by omega)
  have e : madeCells (#[Value.int .i64 0]) 0 = #[] := by apply Array.eq_empty_of_size_eq_zero; exact size_madeCells _ _
  rw [e] at h
  exact Kd.R_of_own (h1 := fun _ => rfl) h (fun _ _ => trivial)
theorem alloc_new_ (w : World) (o : Obj) : (w.alloc o).heap[w.heap.size]? = some o := by
  show (w.heap.push o)[w.heap.size]? = some o
  simp
theorem OI.start (h : OB w0 w g3 v5 v6 x5 x6) : OI w0 ((w.alloc (.cells #[] 3)).alloc (.cells #[.slice (some ⟨w.heap.size, 0, none⟩) 0 0] 55)) g3 (w.heap.size + 1) v5 v6 (.slice (some ⟨w.heap.size, 0, none⟩) 0 0) (.slice none 0 0) x5 x6 [] [] := by
  have hs : (w.alloc (.cells #[] 3)).heap.size = w.heap.size + 1 := World.size_alloc _ _
  rw [← hs]
  exact OI.of (OC.of h (R_empty w) (below_alloc (Below.refl _ _) _)) rfl (alloc_new_ _ _) (below_alloc (Below.refl _ _) _)
end
theorem upF_mono : ∀ k xs j, LeO (upF k xs j) (upF (k + 1) xs j)
  | 0, _, _ => fun r h => by simp [upF] at h
  | k + 1, xs, j => by
    rw [upF, upF]
    repeat' first | exact upF_mono k _ _ | exact LeO.refl _ | exact LeO.none _ | refine LeO.ite ?_ ?_
theorem downF_mono : ∀ k xs i n, LeO (downF k xs i n) (downF (k + 1) xs i n)
  | 0, _, _, _ => fun r h => by simp [downF] at h
  | k + 1, xs, i, n => by
    rw [downF, downF]
    repeat' first | exact downF_mono k _ _ _ | exact LeO.refl _ | exact LeO.none _ | refine LeO.ite ?_ ?_
theorem hpushF_mono (k : Nat) (xs : List Int) (x : Int) : LeO (hpushF k xs x) (hpushF (k + 1) xs x) := by
  unfold hpushF
  repeat' first | exact upF_mono k _ _ | exact LeO.refl _ | exact LeO.none _ | refine LeO.ite ?_ ?_
theorem hpopF_mono (k : Nat) (xs : List Int) : LeO (hpopF k xs) (hpopF (k + 1) xs) := by
  unfold hpopF
  repeat' first | exact downF_mono k _ _ _ | exact LeO.refl _ | exact LeO.none _ | refine LeO.ite ?_ ?_ | refine LeO.bind ?_ (fun _ => ?_)
end Go.Proofs.Ytffcaglfcnmhdaa.H
end
section
namespace Go.Proofs.Ytffcaglfcnmhdaa.H
open Go.RowKit Go.Proofs.YtffcaglfcnmhdaaW.PrintWords Go.Proofs.YtffcaglfcnmhdaaW.PrintLast Go.Proofs.YtffcaglfcnmhdaaW.PrintMore
set_option linter.unusedVariables false
set_option linter.unusedSimpArgs false
open Go.RowKit
attribute [local go_sem high] eqA25
mutual
def depgraph_Order.l0 : Nat → List (List Int) → List Int → List (List Int) → List Int → Int → Option (List Int × Int × Int)
  | 0, _, _, _, _, _ => none
  | k + 1, g, m, u, h, i => if i < (g.length : Int) then (if 0 ≤ i then (if i < (m.length : Int) then depgraph_Order.l1 k g (m.set i.toNat ((rd_L1 g i).length : Int)) u h i 0 else none) else none) else depgraph_Order.l2 k m u h []
def depgraph_Order.l1 : Nat → List (List Int) → List Int → List (List Int) → List Int → Int → Int → Option (List Int × Int × Int)
  | 0, _, _, _, _, _, _ => none
  | k + 1, g, m, u, h, i, j => if j < ((rd_L1 g i).length : Int) then (if 0 ≤ j then (if 0 ≤ rd (rd_L1 g i) j then (if rd (rd_L1 g i) j < (u.length : Int) then (if (rd_L1 u (rd (rd_L1 g i) j)).length < 17592186044416 then depgraph_Order.l1 k g m (u.set (rd (rd_L1 g i) j).toNat (rd_L1 u (rd (rd_L1 g i) j) ++ [i])) h i (wrap64 (j + 1)) else none) else none) else none) else none) else (if ((rd_L1 g i).length : Int) = 0 then (hpushF k h i).bind fun y => depgraph_Order.l0 k g m u y (wrap64 (i + 1)) else depgraph_Order.l0 k g m u h (wrap64 (i + 1)))
def depgraph_Order.l2 : Nat → List Int → List (List Int) → List Int → List Int → Option (List Int × Int × Int)
  | 0, _, _, _, _ => none
  | k + 1, m, u, h, out => if 0 < (h.length : Int) then (hpopF k h).bind fun p => (if out.length < 17592186044416 then (if 0 ≤ p.1 then (if p.1 < (u.length : Int) then depgraph_Order.l3 k m u p.2 (out ++ [p.1]) p.1 0 else none) else none) else none) else some (out, 0, 0)
def depgraph_Order.l3 : Nat → List Int → List (List Int) → List Int → List Int → Int → Int → Option (List Int × Int × Int)
  | 0, _, _, _, _, _, _ => none
  | k + 1, m, u, h, out, q, j => if j < ((rd_L1 u q).length : Int) then (if 0 ≤ j then (if 0 ≤ rd (rd_L1 u q) j then (if rd (rd_L1 u q) j < (m.length : Int) then (if rd (m.set (rd (rd_L1 u q) j).toNat (wrap64 (rd m (rd (rd_L1 u q) j) - 1))) (rd (rd_L1 u q) j) = 0 then (hpushF k h (rd (rd_L1 u q) j)).bind fun y => depgraph_Order.l3 k (m.set (rd (rd_L1 u q) j).toNat (wrap64 (rd m (rd (rd_L1 u q) j) - 1))) u y out q (wrap64 (j + 1)) else depgraph_Order.l3 k (m.set (rd (rd_L1 u q) j).toNat (wrap64 (rd m (rd (rd_L1 u q) j) - 1))) u h out q (wrap64 (j + 1))) else none) else none) else none) else depgraph_Order.l2 k m u h out
end
def depgraph_Order.f (k : Nat) (l0 : List (List Int)) : Option (List Int × Int × Int) := (depgraph_acyclic.f k l0).bind fun bt => if (!(bt.1 == 0) || (!(bt.2 == 0))) = true then some (([] : List Int), bt.1, bt.2) else (if l0.length ≤ 1000000 then depgraph_Order.l0 k l0 (List.replicate l0.length 0) (List.replicate l0.length []) [] 0 else none)
theorem depgraph_Order.mono_l : ∀ k, (∀ y0 y1 y2 y3 y4, LeO (depgraph_Order.l0 k y0 y1 y2 y3 y4) (depgraph_Order.l0 (k + 1) y0 y1 y2 y3 y4)) ∧ (∀ y0 y1 y2 y3 y4 y5, LeO (depgraph_Order.l1 k y0 y1 y2 y3 y4 y5) (depgraph_Order.l1 (k + 1) y0 y1 y2 y3 y4 y5)) ∧ (∀ y0 y1 y2 y3, LeO (depgraph_Order.l2 k y0 y1 y2 y3) (depgraph_Order.l2 (k + 1) y0 y1 y2 y3)) ∧ (∀ y0 y1 y2 y3 y4 y5, LeO (depgraph_Order.l3 k y0 y1 y2 y3 y4 y5) (depgraph_Order.l3 (k + 1) y0 y1 y2 y3 y4 y5))
  | 0 => ⟨fun _ _ _ _ _ r h => by simp [depgraph_Order.l0] at h, fun _ _ _ _ _ _ r h => by simp [depgraph_Order.l1] at h, fun _ _ _ _ r h => by simp [depgraph_Order.l2] at h, fun _ _ _ _ _ _ r h => by simp [depgraph_Order.l3] at h⟩
  | k + 1 => by
    obtain ⟨ih0, ih1, ih2, ih3⟩ := depgraph_Order.mono_l k
    refine ⟨?_, ?_, ?_, ?_⟩
    · intro y0 y1 y2 y3 y4
      unfold depgraph_Order.l0
      repeat' first
          | (with_reducible exact ih0 _ _ _ _ _)
          | (with_reducible exact ih1 _ _ _ _ _ _)
          | (with_reducible exact ih2 _ _ _ _)
          | (with_reducible exact ih3 _ _ _ _ _ _)
          | (with_reducible exact hpushF_mono _ _ _)
          | (with_reducible exact hpopF_mono _ _)
          | (with_reducible exact LeO.refl _)
          | (with_reducible exact LeO.none _)
          | (with_reducible refine LeO.ite ?_ ?_)
          | (with_reducible refine LeO.bind ?_ (fun _ => ?_))
    · intro y0 y1 y2 y3 y4 y5
      unfold depgraph_Order.l1
      repeat' first
          | (with_reducible exact ih0 _ _ _ _ _)
          | (with_reducible exact ih1 _ _ _ _ _ _)
          | (with_reducible exact ih2 _ _ _ _)
          | (with_reducible exact ih3 _ _ _ _ _ _)
          | (with_reducible exact hpushF_mono _ _ _)
          | (with_reducible exact hpopF_mono _ _)
          | (with_reducible exact LeO.refl _)
          | (with_reducible exact LeO.none _)
          | (with_reducible refine LeO.ite ?_ ?_)
          | (with_reducible refine LeO.bind ?_ (fun _ => ?_))
    · intro y0 y1 y2 y3
      unfold depgraph_Order.l2
      repeat' first
          | (with_reducible exact ih0 _ _ _ _ _)
          | (with_reducible exact ih1 _ _ _ _ _ _)
          | (with_reducible exact ih2 _ _ _ _)
          | (with_reducible exact ih3 _ _ _ _ _ _)
          | (with_reducible exact hpushF_mono _ _ _)
          | (with_reducible exact hpopF_mono _ _)
          | (with_reducible exact LeO.refl _)
          | (with_reducible exact LeO.none _)
          | (with_reducible refine LeO.ite ?_ ?_)
          | (with_reducible refine LeO.bind ?_ (fun _ => ?_))
    · intro y0 y1 y2 y3 y4 y5
      unfold depgraph_Order.l3
      repeat' first
          | (with_reducible exact ih0 _ _ _ _ _)
          | (with_reducible exact ih1 _ _ _ _ _ _)
          | (with_reducible exact ih2 _ _ _ _)
          | (with_reducible exact ih3 _ _ _ _ _ _)
          | (with_reducible exact hpushF_mono _ _ _)
          | (with_reducible exact hpopF_mono _ _)
          | (with_reducible exact LeO.refl _)
          | (with_reducible exact LeO.none _)
          | (with_reducible refine LeO.ite ?_ ?_)
          | (with_reducible refine LeO.bind ?_ (fun _ => ?_))
theorem depgraph_Order.mono : ∀ a0 k, LeO (depgraph_Order.f k a0) (depgraph_Order.f (k + 1) a0) := by
  intro a0 k
  unfold depgraph_Order.f
  exact LeO.bind (depgraph_acyclic.mono _ _) (fun _ => LeO.ite (LeO.refl _) (LeO.ite ((depgraph_Order.mono_l k).1 _ _ _ _ _) (LeO.none _)))
set_option maxHeartbeats 8000000 in
set_option maxRecDepth 100000 in
theorem depgraph_Order.calls (k : Nat) (A0 : Option Addr) (c0 : Nat) (l0 : List (List Int)) (r1 : List Int) (r2 : Int) (r3 : Int) (w : World) (hr0 : Kd.C (Kd.slice 3 (Kd.int .i64)) w A0 l0.length l0) (hc0 : l0.length ≤ c0) (h : depgraph_Order.f k l0 = some (r1, r2, r3)) :
    Calls Try.prog 20 #[.slice A0 l0.length c0] w fun e w' => ∃ v0_ : Value, e = .returned (.tuple #[v0_, .agg #[.int .i64 r2, .int .i64 r3]]) ∧ Kd.R (Kd.int .i64) 3 w' w.heap.size (fun _ => True) v0_ r1 ∧ Below w.heap.size w w' := by
  have hu25 := Try.underlying25
  have HR0 := Aside0.mk hr0
  have HC0 := Aside0.mk hc0
  clear hr0 hc0
  have HB := Aside0.mk (Below.refl w.heap.size w)
  unfold depgraph_Order.f at h
  replace h := Option.bind_eq_some_iff.mp h
  obtain ⟨⟨t150, t151⟩, A20, H⟩ := h
  replace H : (if (!(t150 == 0) || (!(t151 == 0))) = true then some (([] : List Int), t150, t151) else (if l0.length ≤ 1000000 then depgraph_Order.l0 k l0 (List.replicate l0.length 0) (List.replicate l0.length []) [] 0 else none)) = some (r1, r2, r3) := H
  have A2 := Aside0.mk A20
  clear A20
  by_cases c3 : (!(t150 == 0) || (!(t151 == 0))) = true
  · rw [if_pos c3] at H
    have c3b0 : (!(t150 == 0) || (!(t151 == 0))) = true := c3
    clear c3
    simp only [Option.some.injEq, Prod.mk.injEq] at H
    obtain ⟨rfl, rfl, rfl⟩ := H
    go_enter Try.func20, Try.ntmps20
    try go_wp2_with (first | ((with_reducible refine gate_dst (N := 3) rfl ?_); refine box_event ?hg (N := 3) ?hd (cs := #[.int .i64 0, .int .i64 0]) (t := 25) ?hr ?_; (case hd => rfl); (case hg => rfl); (case hr => first | (go_simp; done) | (go_simp; rfl)); intro gb3 hg w4 hbox hb; have n0_ := Aside0.mk (below_step (by repeat (first | (with_reducible first | exact HB.out | apply below_alloc | apply pw_below_drewN | apply below_drew1) | exact HB.out)) hb); have n1_ := Aside0.mk (hbox); have n2_ := Aside0.mk ((by rw [hg]; exact (below_size (by repeat (first | (with_reducible first | exact HB.out | apply below_alloc | apply pw_below_drewN | apply below_drew1) | exact HB.out))) : w.heap.size ≤ gb3)); have n3_ := Aside0.mk ((by rw [hg]; exact (below_size (by repeat (first | (with_reducible first | exact HB.out | apply below_alloc | apply pw_below_drewN | apply below_drew1) | exact HB.out))) : w.heap.size ≤ gb3)); clear HB; have HB := n0_; have BK3 := n1_; have GW3 := n2_; have GE3 := n3_; clear n0_ n1_ n2_ n3_; clear hb hbox hg) | ((with_reducible refine gate_callee (f := 39) rfl ?_); refine goesL_ (some 17) rfl rfl Try.func39 (by kernel_rfl) rfl #[.slice A0 l0.length c0] rfl (by (try simp only [List.map_toArray, List.map_cons, List.map_nil]); first | done | rfl | (simp only [List.length_drop, List.length_take]; rfl)) ?_; (with_reducible refine (depgraph_acyclic.calls k _ _ l0 t150 t151 _ ?side1 ?side2 A2.out).mono ?_); (case side1 => repeat (first | exact (Kd.C_below HR0.out HB.out) | (with_reducible refine Kd.C_alloc ?_ _) | (with_reducible refine Kd.C_drewN ?_ _) | (with_reducible refine Kd.C_drew ?_))); (case side2 => exact HC0.out); rintro e w5 ⟨rfl, hb⟩; refine ⟨_, rfl, ?_⟩; have n0_ := Aside0.mk (blk_below (g := gb3) (o := .cells #[.int .i64 0, .int .i64 0] 25 (0, 0)) (by (with_reducible repeat (first | refine blk_drewN ?_ _ | refine blk_drew ?_ | refine blk_alloc ?_ _)); exact BK3.out) hb); have n1_ := Aside0.mk (below_step (by repeat (first | (with_reducible first | exact HB.out | apply below_alloc | apply pw_below_drewN | apply below_drew1 | refine below_set ?_ GE3.out) | exact HB.out)) hb); clear BK3; clear HB; have BK3 := n0_; have HB := n1_; clear n0_ n1_; (try clear hb); (try clear hb2); (try clear hk); (try clear hi)) | ((with_reducible refine gate_dst (N := 4) rfl ?_); refine box_event ?hg (N := 4) ?hd (cs := #[.int .i64 0, .int .i64 0]) (t := 25) ?hr ?_; (case hd => rfl); (case hg => rfl); (case hr => first | (go_simp; done) | (go_simp; rfl)); intro gb4 hg w6 hbox hb; have n0_ := Aside0.mk (blk_below (g := gb3) (o := .cells #[.int .i64 0, .int .i64 0] 25 (0, 0)) (by (with_reducible repeat (first | refine blk_drewN ?_ _ | refine blk_drew ?_ | refine blk_alloc ?_ _)); exact BK3.out) hb); have n1_ := Aside0.mk (below_step (by repeat (first | (with_reducible first | exact HB.out | apply below_alloc | apply pw_below_drewN | apply below_drew1 | refine below_set ?_ GE3.out) | exact HB.out)) hb); have n2_ := Aside0.mk (hbox); have n3_ := Aside0.mk ((by rw [hg]; exact (below_size (by repeat (first | (with_reducible first | exact HB.out | apply below_alloc | apply pw_below_drewN | apply below_drew1 | refine below_set ?_ GE3.out) | exact HB.out))) : w.heap.size ≤ gb4)); have n4_ := Aside0.mk ((by rw [hg]; exact (below_size (by repeat (first | (with_reducible first | exact HB.out | apply below_alloc | apply pw_below_drewN | apply below_drew1 | refine below_set ?_ GE3.out) | exact HB.out))) : w.heap.size ≤ gb4)); have n5_ := Aside0.mk ((by rw [hg]; exact Nat.ne_of_lt (blk_lt (g := gb3) (o := .cells #[.int .i64 0, .int .i64 0] 25 (0, 0)) (by (with_reducible repeat (first | refine blk_drewN ?_ _ | refine blk_drew ?_ | refine blk_alloc ?_ _)); exact BK3.out)) : gb3 ≠ gb4)); have n6_ := Aside0.mk ((by rw [hg]; exact Nat.ne_of_gt (blk_lt (g := gb3) (o := .cells #[.int .i64 0, .int .i64 0] 25 (0, 0)) (by (with_reducible repeat (first | refine blk_drewN ?_ _ | refine blk_drew ?_ | refine blk_alloc ?_ _)); exact BK3.out)) : gb4 ≠ gb3)); clear BK3; clear HB; have BK3 := n0_; have HB := n1_; have BK4 := n2_; have GW4 := n3_; have GE4 := n4_; have NB3_4 := n5_; have NB4_3 := n6_; clear n0_ n1_ n2_ n3_ n4_ n5_ n6_; clear hb hbox hg; have hnb7 := NB4_3.out; have hnc7 := NB3_4.out; have hcz8_0 : w6.cell? ⟨gb4, 0, none⟩ = some (.int .i64 0) := (blk_cell BK4.out 0).trans rfl; have hcz8_1 : w6.cell? ⟨gb4, 1, none⟩ = some (.int .i64 0) := (blk_cell BK4.out 1).trans rfl; have hfz8_0 := blk_frozen BK4.out 0; have hfz8_1 := blk_frozen BK4.out 1))
    have n0_ : Aside0 (((w6.setCell ⟨gb4, 0, none⟩ (.int .i64 t150)).setCell ⟨gb4, 1, none⟩ (.int .i64 t151)).heap[gb3]? = some (.cells #[.int .i64 0, .int .i64 0] 25 (0, 0))) := ⟨by (with_reducible repeat (first | refine blk_drewN ?_ _ | refine blk_drew ?_ | refine blk_alloc ?_ _)); refine blk_far ?_ NB3_4.out _; (with_reducible repeat (first | refine blk_drewN ?_ _ | refine blk_drew ?_ | refine blk_alloc ?_ _)); refine blk_far ?_ NB3_4.out _; (with_reducible repeat (first | refine blk_drewN ?_ _ | refine blk_drew ?_ | refine blk_alloc ?_ _)); exact BK3.out⟩
    have n1_ : Aside0 (((w6.setCell ⟨gb4, 0, none⟩ (.int .i64 t150)).setCell ⟨gb4, 1, none⟩ (.int .i64 t151)).heap[gb4]? = some (.cells #[.int .i64 t150, .int .i64 t151] 25 (0, 0))) := ⟨by (with_reducible repeat (first | refine blk_drewN ?_ _ | refine blk_drew ?_ | refine blk_alloc ?_ _)); refine blk_put (cs := #[.int .i64 t150, .int .i64 0]) ?_ 1 _ rfl; (with_reducible repeat (first | refine blk_drewN ?_ _ | refine blk_drew ?_ | refine blk_alloc ?_ _)); refine blk_put (cs := #[.int .i64 0, .int .i64 0]) ?_ 0 _ rfl; (with_reducible repeat (first | refine blk_drewN ?_ _ | refine blk_drew ?_ | refine blk_alloc ?_ _)); exact BK4.out⟩
    have n2_ : Aside0 (Below w.heap.size w ((w6.setCell ⟨gb4, 0, none⟩ (.int .i64 t150)).setCell ⟨gb4, 1, none⟩ (.int .i64 t151))) := ⟨by repeat (first | (with_reducible first | exact HB.out | apply below_alloc | apply pw_below_drewN | apply below_drew1 | refine below_set ?_ GE3.out | refine below_set ?_ GE4.out) | exact HB.out)⟩
    (try clear BK3)
    (try clear BK4)
    (try clear HB)
    generalize ((w6.setCell ⟨gb4, 0, none⟩ (.int .i64 t150)).setCell ⟨gb4, 1, none⟩ (.int .i64 t151)) = w9 at n0_ n1_ n2_ ⊢
    have BK3 := n0_
    have BK4 := n1_
    have HB := n2_
    clear n0_ n1_ n2_
    have n0_ := Aside0.mk (blk_drew BK3.out)
    have n1_ := Aside0.mk (blk_drew BK4.out)
    have n2_ := Aside0.mk (below_drew1 HB.out)
    clear BK3
    clear BK4
    clear HB
    have BK3 := n0_
    have BK4 := n1_
    have HB := n2_
    clear n0_ n1_ n2_
    refine start_ (n := 3) (S := fun w' => w'.cell? ⟨gb4, 0, none⟩ = some (.int .i64 t150) ∧ w'.cell? ⟨gb4, 1, none⟩ = some (.int .i64 t151)) (ds := []) #[false, false, false] (by kernel_rfl) rfl rfl ⟨(blk_cell BK4.out 0).trans rfl, (blk_cell BK4.out 1).trans rfl⟩ (fun hHeld => ?_)
    generalize w9.drew = w10 at BK3 BK4 HB hHeld ⊢
    refine pure_ (i := 1) (N := some 2) (v := ?_) (a' := ?_) #[false, true, false] rfl rfl (by kernel_rfl) (fun _ _ _ h => h) (Or.inl ⟨by rfl, ?_⟩) ?_ ?_
    rotate_left
    · intro w'
      go_simp
      with_reducible rfl
    rotate_left
    · simp only [Act.put, List.setIfInBounds_toArray, List.set_cons_zero, List.set_cons_succ, i64_w, i32_w]
      rfl
    refine take_ (i := 0) (N := some 21) (v := ?_) (a' := ?_) #[true, true, false] rfl rfl (by kernel_rfl) (fun _ _ _ h => h) (Or.inl ⟨by rfl, ?_⟩) hHeld ?_ ?_
    rotate_left
    · rintro w' ⟨s0, s1⟩
      go_simp
      with_reducible rfl
    rotate_left
    · simp only [Act.put, List.setIfInBounds_toArray, List.set_cons_zero, List.set_cons_succ, i64_w, i32_w]
      rfl
    refine one_ (i := 2) (N := none) #[true, true, true] rfl rfl (by kernel_rfl) (by decide) (fun K hK => ?_)
    have hs11 : w10.cell? ⟨gb3, 0, none⟩ = some (.int .i64 0) := (blk_cell BK3.out 0).trans rfl
    have hfs11 := blk_frozen BK3.out 0
    have hns11_1 := NB4_3.out
    have hms11_1 := NB3_4.out
    have hs12 : w10.cell? ⟨gb3, 1, none⟩ = some (.int .i64 0) := (blk_cell BK3.out 1).trans rfl
    have hfs12 := blk_frozen BK3.out 1
    have hns12_1 := NB4_3.out
    have hms12_1 := NB3_4.out
    refine skip_ (w1 := ?_) (by rfl) rfl ?_ ?_
    rotate_left
    · go_simp
      rfl
    refine hK.out _ _ ⟨((cell_far (p := ⟨gb3, _, none⟩) NB4_3.out _).trans (((cell_far (p := ⟨gb3, _, none⟩) NB4_3.out _).trans (hHeld.1)))), ((cell_far (p := ⟨gb3, _, none⟩) NB4_3.out _).trans (((cell_far (p := ⟨gb3, _, none⟩) NB4_3.out _).trans (hHeld.2))))⟩ (fun hHeld => ?_)
    clear hK K
    refine done_ (by kernel_rfl) ?_
    try go_wp2
    refine bodyPost_ret (results_tc rfl _ _ gb3 25 #[.int .i64 t150, .int .i64 t151] (0, 0) _ rfl (by (with_reducible repeat (first | refine blk_drewN ?_ _ | refine blk_drew ?_ | refine blk_alloc ?_ _)); refine blk_put (cs := #[.int .i64 t150, .int .i64 0]) ?_ 1 _ rfl; (with_reducible repeat (first | refine blk_drewN ?_ _ | refine blk_drew ?_ | refine blk_alloc ?_ _)); refine blk_put (cs := #[.int .i64 0, .int .i64 0]) ?_ 0 _ rfl; (with_reducible repeat (first | refine blk_drewN ?_ _ | refine blk_drew ?_ | refine blk_alloc ?_ _)); exact BK3.out) Try.underlying25 rfl (by kernel_rfl)) rfl ?_
    exact ⟨_, by first | rfl | (simp [errW_none, errW_some] <;> rfl) | (simp [*, errW_none, errW_some] <;> rfl), by first | exact Kd.R_nil _ _ _ _ _ | exact Kd.N_nil _ _ _ _ _ | exact Kd.V_nil _ _ _ _ _ | exact Kd.Q_nil _ _ _ _ _ | exact Kd.S_nil _ _ _ _ _, by repeat (first | (with_reducible first | exact HB.out | apply below_alloc | apply pw_below_drewN | apply below_drew1 | refine below_set ?_ GE3.out | refine below_set ?_ GE4.out) | exact HB.out)⟩
  · rw [if_neg c3] at H
    have c3b0 : (!(t150 == 0) || (!(t151 == 0))) = false := by simpa using c3
    clear c3
    by_cases hn : l0.length ≤ 1000000
    case neg => rw [if_neg hn] at H; cases H
    rw [if_pos hn] at H
    have HN := Aside0.mk hn
    obtain ⟨ms, hms⟩ : ∃ y, Aside0 (y = List.replicate l0.length (0 : Int)) := ⟨_, ⟨rfl⟩⟩
    obtain ⟨us, hus⟩ : ∃ y, Aside0 (y = List.replicate l0.length ([] : List Int)) := ⟨_, ⟨rfl⟩⟩
    rw [← hms.out, ← hus.out] at H
    have H' := Aside0.mk H
    clear H hn
    have hnn : (0 ≤ (l0.length : Int)) = True := eq_true (Int.natCast_nonneg _)
    go_enter Try.func20, Try.ntmps20
    go_wp2_with (first | ((with_reducible refine gate_dst (N := 3) rfl ?_); refine box_event ?hg (N := 3) ?hd (cs := #[.int .i64 0, .int .i64 0]) (t := 25) ?hr ?_; (case hd => rfl); (case hg => rfl); (case hr => first | (go_simp; done) | (go_simp; rfl)); intro gb3 hg w16 hbox hb; have n0_ := Aside0.mk (below_step (by repeat (first | (with_reducible first | exact HB.out | apply below_alloc | apply pw_below_drewN | apply below_drew1) | exact HB.out)) hb); have n1_ := Aside0.mk (hbox); have n2_ := Aside0.mk ((by rw [hg]; exact (below_size (by repeat (first | (with_reducible first | exact HB.out | apply below_alloc | apply pw_below_drewN | apply below_drew1) | exact HB.out))) : w.heap.size ≤ gb3)); have n3_ := Aside0.mk ((by rw [hg]; exact (below_size (by repeat (first | (with_reducible first | exact HB.out | apply below_alloc | apply pw_below_drewN | apply below_drew1) | exact HB.out))) : w.heap.size ≤ gb3)); clear HB; have HB := n0_; have BK3 := n1_; have GW3 := n2_; have GE3 := n3_; clear n0_ n1_ n2_ n3_; clear hb hbox hg) | ((with_reducible refine gate_callee (f := 39) rfl ?_); refine goesL_ (some 17) rfl rfl Try.func39 (by kernel_rfl) rfl #[.slice A0 l0.length c0] rfl (by (try simp only [List.map_toArray, List.map_cons, List.map_nil]); first | done | rfl | (simp only [List.length_drop, List.length_take]; rfl)) ?_; (with_reducible refine (depgraph_acyclic.calls k _ _ l0 t150 t151 _ ?side1 ?side2 A2.out).mono ?_); (case side1 => repeat (first | exact (Kd.C_below HR0.out HB.out) | (with_reducible refine Kd.C_alloc ?_ _) | (with_reducible refine Kd.C_drewN ?_ _) | (with_reducible refine Kd.C_drew ?_))); (case side2 => exact HC0.out); rintro e w17 ⟨rfl, hb⟩; refine ⟨_, rfl, ?_⟩; have n0_ := Aside0.mk (blk_below (g := gb3) (o := .cells #[.int .i64 0, .int .i64 0] 25 (0, 0)) (by (with_reducible repeat (first | refine blk_drewN ?_ _ | refine blk_drew ?_ | refine blk_alloc ?_ _)); exact BK3.out) hb); have n1_ := Aside0.mk (below_step (by repeat (first | (with_reducible first | exact HB.out | apply below_alloc | apply pw_below_drewN | apply below_drew1 | refine below_set ?_ GE3.out) | exact HB.out)) hb); clear BK3; clear HB; have BK3 := n0_; have HB := n1_; clear n0_ n1_; (try clear hb); (try clear hb2); (try clear hk); (try clear hi)) | ((with_reducible refine gate_dst (N := 4) rfl ?_); refine box_event ?hg (N := 4) ?hd (cs := #[.int .i64 0, .int .i64 0]) (t := 25) ?hr ?_; (case hd => rfl); (case hg => rfl); (case hr => first | (go_simp; done) | (go_simp; rfl)); intro gb4 hg w18 hbox hb; have n0_ := Aside0.mk (blk_below (g := gb3) (o := .cells #[.int .i64 0, .int .i64 0] 25 (0, 0)) (by (with_reducible repeat (first | refine blk_drewN ?_ _ | refine blk_drew ?_ | refine blk_alloc ?_ _)); exact BK3.out) hb); have n1_ := Aside0.mk (below_step (by repeat (first | (with_reducible first | exact HB.out | apply below_alloc | apply pw_below_drewN | apply below_drew1 | refine below_set ?_ GE3.out) | exact HB.out)) hb); have n2_ := Aside0.mk (hbox); have n3_ := Aside0.mk ((by rw [hg]; exact (below_size (by repeat (first | (with_reducible first | exact HB.out | apply below_alloc | apply pw_below_drewN | apply below_drew1 | refine below_set ?_ GE3.out) | exact HB.out))) : w.heap.size ≤ gb4)); have n4_ := Aside0.mk ((by rw [hg]; exact (below_size (by repeat (first | (with_reducible first | exact HB.out | apply below_alloc | apply pw_below_drewN | apply below_drew1 | refine below_set ?_ GE3.out) | exact HB.out))) : w.heap.size ≤ gb4)); have n5_ := Aside0.mk ((by rw [hg]; exact Nat.ne_of_lt (blk_lt (g := gb3) (o := .cells #[.int .i64 0, .int .i64 0] 25 (0, 0)) (by (with_reducible repeat (first | refine blk_drewN ?_ _ | refine blk_drew ?_ | refine blk_alloc ?_ _)); exact BK3.out)) : gb3 ≠ gb4)); have n6_ := Aside0.mk ((by rw [hg]; exact Nat.ne_of_gt (blk_lt (g := gb3) (o := .cells #[.int .i64 0, .int .i64 0] 25 (0, 0)) (by (with_reducible repeat (first | refine blk_drewN ?_ _ | refine blk_drew ?_ | refine blk_alloc ?_ _)); exact BK3.out)) : gb4 ≠ gb3)); clear BK3; clear HB; have BK3 := n0_; have HB := n1_; have BK4 := n2_; have GW4 := n3_; have GE4 := n4_; have NB3_4 := n5_; have NB4_3 := n6_; clear n0_ n1_ n2_ n3_ n4_ n5_ n6_; clear hb hbox hg; have hnb19 := NB4_3.out; have hnc19 := NB3_4.out; have hcz20_0 : w18.cell? ⟨gb4, 0, none⟩ = some (.int .i64 0) := (blk_cell BK4.out 0).trans rfl; have hcz20_1 : w18.cell? ⟨gb4, 1, none⟩ = some (.int .i64 0) := (blk_cell BK4.out 1).trans rfl; have hfz20_0 := blk_frozen BK4.out 0; have hfz20_1 := blk_frozen BK4.out 1) | ((with_reducible refine gate_dst (N := 24) rfl ?_); refine Kd.R_make (Kd.int .i64) _ 3 rfl (N := 24) rfl 23 _ _ rfl (l0.length : Int) rfl rfl Try.underlying23 (.int .i64 0) 8 info3 rfl (by decide) (by omega) 0 (ok := fun _ => True) (okp := fun _ => True) rfl (fun _ hk => hk) trivial (Int.natCast_nonneg _) (by have := HN.out; omega) (Below.refl _ _) (Nat.le_refl _) ?_; intro v5 w21 ho_ hb hg_ hnew_; clear hg_ hnew_; rw [show ((l0.length : Int)).toNat = l0.length from by omega, ← hms.out] at ho_; have HA := Aside0.mk (OA.of (by repeat (first | (with_reducible first | exact HB.out | apply below_alloc | apply pw_below_drewN | apply below_drew1 | refine below_set ?_ GE3.out | refine below_set ?_ GE4.out) | exact HB.out)) GE3.out (by (with_reducible repeat (first | refine blk_drewN ?_ _ | refine blk_drew ?_ | refine blk_alloc ?_ _)); refine blk_far ?_ NB3_4.out _; (with_reducible repeat (first | refine blk_drewN ?_ _ | refine blk_drew ?_ | refine blk_alloc ?_ _)); refine blk_far ?_ NB3_4.out _; (with_reducible repeat (first | refine blk_drewN ?_ _ | refine blk_drew ?_ | refine blk_alloc ?_ _)); exact BK3.out) ho_ hb); clear HB BK3 BK4 ho_ hb) | ((with_reducible refine gate_dst (N := 27) rfl ?_); refine Kd.S_make (Kd.slice 3 (Kd.int .i64)) _ 23 rfl (N := 27) rfl 22 _ _ rfl (l0.length : Int) rfl rfl Try.underlying22 (.slice none 0 0) 24 info23 rfl (by decide) (by omega) [] (ok := fun _ => True) (okp := fun _ => True) ⟨_, rfl, Kd.R_nil _ _ _ _ _⟩ (fun _ hk => hk) trivial (Int.natCast_nonneg _) (by have := HN.out; omega) (Below.refl _ _) (Nat.le_refl _) ?_; intro v6 w23 ho_ hb hg_ hnew_; clear hg_ hnew_; rw [show ((l0.length : Int)).toNat = l0.length from by omega, ← hus.out] at ho_; have HA2 := Aside0.mk (OB.of (by repeat (first | exact HA.out | apply OA.drewN)) ho_ hb); clear HA ho_ hb))
    have HI := Aside0.mk (OI.start (by repeat (first | exact HA2.out | apply OB.drewN)))
    generalize w23.heap.size + 1 = g7 at HI ⊢
    clear HA2
    go_loopg [32] k (fun kq v32 w' => ∃ (vh : Value) (m : List Int) (u : List (List Int)) (h : List Int) (i : Int), v32 = .int .i64 i ∧ Aside0 (depgraph_Order.l0 kq l0 m u h i = some (r1, r2, r3)) ∧ Aside0 (kq ≤ k) ∧ Aside0 (OI w w' gb3 g7 v5 v6 vh (.slice none 0 0) m u h []))
    case atStart => exact ⟨_, ms, us, [], 0, rfl, H', ⟨Nat.le_refl _⟩, HI⟩
    case round =>
      clear H' HI
      obtain ⟨vh, m, u, h, i, rfl, HA, HK1, HI⟩ := hrel
      cases gk with
      | zero => exact absurd HA.out (by simp [depgraph_Order.l0])
      | succ k1 =>
        have H := HA.out
        clear HA
        simp only [depgraph_Order.l0] at H
        by_cases c1 : i < (l0.length : Int)
        · rw [if_pos c1] at H
          have c1b : decide (i < (l0.length : Int)) = true := decide_eq_true c1
          by_cases c2 : 0 ≤ i
          case neg => rw [if_neg c2] at H; exact absurd H (by simp)
          rw [if_pos c2] at H
          by_cases c4 : i < (m.length : Int)
          case neg => rw [if_neg c4] at H; exact absurd H (by simp)
          rw [if_pos c4] at H
          obtain ⟨ln, hln⟩ : ∃ y, Aside0 (y = (rd_L1 l0 i).length) := ⟨_, ⟨rfl⟩⟩
          obtain ⟨m2, hm2⟩ : ∃ y, Aside0 (y = m.set i.toNat ((rd_L1 l0 i).length : Int)) := ⟨_, ⟨rfl⟩⟩
          rw [← hm2.out] at H
          have H' := Aside0.mk H
          clear H
          obtain ⟨ad0, A0e, c0e, e0, hx0, hl0, hi0⟩ := at_L1 HR0.out i c2 c1
          cases e0
          replace hx0 := (HI.out.b.cell (World.block_lt_of_cell? w _ hx0)).trans hx0
          have HRe := Aside0.mk hi0
          have HCe := Aside0.mk hl0
          clear hi0 hl0
          obtain ⟨go, co, eo, gb_, gl_, cl_⟩ := Kd.R_form HI.out.m (by omega)
          obtain ⟨n5, hn5⟩ : ∃ y, y = m.length := ⟨_, rfl⟩
          rw [← hn5] at eo c4
          subst eo
          have GB := Aside0.mk gb_
          have HN5 := Aside0.mk hn5
          clear gb_ gl_ cl_ hn5
          obtain ⟨hx5, hf5⟩ := Kd.R_celln 0 HI.out.m i c2 c4
          have p0 := eq_true c2
          have q0 := eq_true c1
          have q5 := eq_true c4
          have C1 := Aside0.mk c1
          have C2 := Aside0.mk c2
          clear c1 c2 c4
          go_wp2_with (first | ((with_reducible refine gate_store (t := 3) (p := 41) rfl ?_); refine store_event (t := 3) (p := 41) (v := ?vo_) (w1 := (wr.setCell ⟨go, i.toNat, none⟩ (.int .i64 ((rd_L1 l0 i).length : Int)))) ?hg ?ho ?hn ?hr ?_; (case ho => rfl); (case hg => rfl); (case hn => rfl); (case hr => first | (go_simp; done) | (go_simp; rfl)); intro w31 hw; have HI2 : Aside0 (OI w w31 gb3 g7 (.slice (some ⟨go, 0, none⟩) n5 co) v6 vh (.slice none 0 0) m2 u h []) := ⟨by rw [hw, hm2.out]; exact OI.put HI.out GB.out i _⟩; clear HI hx5 hf5; have HI := HI2; clear HI2 hw))
          go_loopg [44] k1 (fun kq v44 w' => ∃ (u : List (List Int)) (j : Int), v44 = .int .i64 j ∧ Aside0 (depgraph_Order.l1 kq l0 m2 u h i j = some (r1, r2, r3)) ∧ Aside0 (kq ≤ k1) ∧ Aside0 (OI w w' gb3 g7 (.slice (some ⟨go, 0, none⟩) n5 co) v6 vh (.slice none 0 0) m2 u h []))
          case atStart => exact ⟨u, 0, rfl, H', ⟨Nat.le_refl _⟩, HI⟩
          case round =>
            clear H' HI
            try clear hx0
            try clear c1b p0 q0 q5
            obtain ⟨u, j, rfl, HA, HK2, HI⟩ := hrel
            cases gk with
            | zero => exact absurd HA.out (by simp [depgraph_Order.l1])
            | succ k2 =>
              have H := HA.out
              clear HA
              simp only [depgraph_Order.l1] at H
              by_cases c1 : j < ((rd_L1 l0 i).length : Int)
              · rw [if_pos c1] at H
                have c1b : decide (j < ((rd_L1 l0 i).length : Int)) = true := decide_eq_true c1
                by_cases c2 : 0 ≤ j
                case neg => rw [if_neg c2] at H; exact absurd H (by simp)
                rw [if_pos c2] at H
                obtain ⟨ad1, e1, hx1⟩ := Kd.at_int HRe.out j c2 c1
                cases e1
                replace hx1 := (HI.out.b.cell (World.block_lt_of_cell? w _ hx1)).trans hx1
                obtain ⟨e, he⟩ : ∃ y, y = rd (rd_L1 l0 i) j := ⟨_, rfl⟩
                rw [← he] at H hx1
                clear he
                by_cases c3 : 0 ≤ e
                case neg => rw [if_neg c3] at H; exact absurd H (by simp)
                rw [if_pos c3] at H
                by_cases c4 : e < (u.length : Int)
                case neg => rw [if_neg c4] at H; exact absurd H (by simp)
                rw [if_pos c4] at H
                obtain ⟨g6, c6, e6, gb_, gl_, cl_⟩ := Kd.S_form HI.out.u (by omega)
                obtain ⟨n6, hn6⟩ : ∃ y, y = u.length := ⟨_, rfl⟩
                rw [← hn6] at e6 c4
                subst e6
                have GB6 := Aside0.mk gb_
                have HN6 := Aside0.mk hn6
                clear gb_ gl_ cl_ hn6
                obtain ⟨oki, ce, hcl, hM, hcc, hfr, hoki, hH⟩ := Kd.S_elem HI.out.u [] e c3 c4
                obtain ⟨ve, rfl, ge⟩ := hM
                obtain ⟨ro, hro⟩ : ∃ y, y = rd_L1 u e := ⟨_, rfl⟩
                replace ge : Kd.R (Kd.int .i64) 3 wr w.heap.size oki ve ro := by rw [hro]; exact ge
                rw [← hro] at H
                clear hro
                obtain ⟨Ae, ce_, rfl⟩ := Kd.R_slice ge
                have hv := hcc 0 _ rfl
                rw [Nat.add_zero, show ((Kd.slice 3 (Kd.int .i64))).sz = 1 from rfl, Nat.mul_one] at hv
                have UU := Aside0.mk ge
                have HH := Aside0.mk hH
                have HOK := Aside0.mk hoki
                clear ge hH hoki hcc hcl hfr
                by_cases c5 : ro.length < 17592186044416
                case neg => rw [if_neg c5] at H; exact absurd H (by simp)
                rw [if_pos c5] at H
                have LM := Aside0.mk c5
                obtain ⟨r2_, hr2⟩ : ∃ y, Aside0 (y = ro ++ [i]) := ⟨_, ⟨rfl⟩⟩
                rw [← hr2.out] at H
                have H' := Aside0.mk H
                have p1 := eq_true c2
                have q1 := eq_true c1
                have p6 := eq_true c3
                have q6 := eq_true c4
                have C3 := Aside0.mk c3
                have C4 := Aside0.mk c4
                clear H c1 c2 c3 c4 c5
                go_wp2_with (first | ((with_reducible refine gate_builtin (b := .append) (xs := #[.tmp 53, .tmp 55]) rfl ?_); at_builtin; refine Kd.R_append (Kd.int .i64) (w0 := w) w.heap.size rfl (.tmp 53) (.tmp 55) 23 3 (.int .i64 0) 8 rfl Try.underlying23 info3 rfl (by decide) (by omega) (.slice Ae ro.length ce_) ro i [.int .i64 i] (fun k_ => oki k_ ∨ Off (.slice (some ⟨go, 0, none⟩) n5 co) vh (.slice none 0 0) k_ ∧ wr.heap.size ≤ k_) (fun _ => False) rfl rfl ?aP (fun _ hk => hk.elim) ?aF ?aO ?aB ?aS ?aL ?_; (case aP => exact rfl); (case aB => exact HI.out.b); (case aF => exact (fun k_ hk => .inr ⟨HI.out.toOJ.fresh k_ hk, hk⟩)); (case aO => exact Kd.R_mono UU.out (fun _ hk => .inl hk)); (case aS => exact (below_size HI.out.b)); (case aL => have := LM.out; omega); intro v56 w41 ho hb hg hat; rw [← hr2.out] at ho; obtain ⟨An, cn, rfl⟩ := Kd.R_slice ho; have HJ := Aside0.mk (OJ.grown HI.out.toOJ hg hb (Kd.R_ne UU.out HI.out.k3 (by decide)) (Kd.R_ne UU.out HI.out.k7 (by decide)) (fun k_ e_ => (HOK.out k_ (UU.out.1 k_ e_)).1)); have HG := Aside0.mk (OI.own6 HI.out g6 rfl); have HH1 := Aside0.mk (Kd.H_grown (Kd.H_widen HH.out) hg (fun k_ e_ => .inl (UU.out.1 k_ e_))); have HO1 := Aside0.mk ho; clear HI UU HH HOK ho hb hg hat hv; obtain ⟨_, _, hraw, _, _, hcc, _⟩ := Kd.H_raw HH1.out C3.out C4.out; obtain ⟨_, hfr⟩ := Kd.H_at HH1.out C3.out C4.out; have hv2 := hcc 0 _ rfl; have hf2 := hfr 0; rw [Nat.add_zero, show ((Kd.slice 3 (Kd.int .i64))).sz = 1 from rfl, Nat.mul_one] at hv2 hf2; have HRW := Aside0.mk hraw; clear hraw hcc hfr; have HP := Aside0.mk (Kd.S_seg0 HH1.out C3.out C4.out (seg := [.slice An r2_.length cn]) (j := 0) (show 1 ≤ 1 from by decide) (x' := r2_) (Kd.M_row HO1.out) (fun _ hk => hk)); simp only [show ((Kd.slice 3 (Kd.int .i64))).sz = 1 from rfl, Nat.mul_one, Nat.add_zero] at HP))
                have hg : w41.grownBy (w41.setCell ⟨g6, e.toNat, none⟩ (.slice An r2_.length cn)) (some g6) := HP.out.2
                have HI : Aside0 (OI w (w41.setCell ⟨g6, e.toNat, none⟩ (.slice An r2_.length cn)) gb3 g7 (.slice (some ⟨go, 0, none⟩) n5 co) (.slice (some ⟨g6, 0, none⟩) n6 c6) vh (.slice none 0 0) m2 (u.set e.toNat r2_) h []) := ⟨⟨OJ.grown HJ.out hg (below_set HJ.out.b GB6.out) (Kd.R_ne HRW.out HJ.out.k3 (by decide)) (Kd.R_ne HRW.out HJ.out.k7 (by decide)) (fun k_ e_ => by injection e_ with e_; rw [← e_]; exact HG.out), HP.out.1⟩⟩
                clear hg HJ HP HRW HH1 HO1 hv2 hf2
                go_roundg k2
                case measure => have := HK1.out; have := HK2.out; omega
                case rel => exact ⟨u.set e.toNat r2_, wrap64 (j + 1), rfl, H', ⟨by have := HK1.out; have := HK2.out; omega⟩, HI⟩
              · rw [if_neg c1] at H
                have c1b : decide (j < ((rd_L1 l0 i).length : Int)) = false := decide_eq_false c1
                clear c1
                by_cases c2 : ((rd_L1 l0 i).length : Int) = 0
                · rw [if_pos c2] at H
                  have c2b : (((rd_L1 l0 i).length : Int) == 0) = true := beq_iff_eq.mpr c2
                  replace H := Option.bind_eq_some_iff.mp H
                  obtain ⟨y, hp, H⟩ := H
                  have HP := Aside0.mk hp
                  have H' := Aside0.mk H
                  clear c2 H hp
                  go_wp2_with (first | (go_at_call 40; (with_reducible refine (hpush_calls k2 g7 vh h y i w _ ?s1 ?s2 ?s3 ?s4 HP.out).mono ?_); (case s1 => exact (by repeat (first | exact HI.out | apply OI.drewN) : OI w _ gb3 g7 _ _ _ _ _ _ _ _).b); (case s2 => exact HI.out.e7); (case s3 => exact (by repeat (first | exact HI.out | apply OI.drewN) : OI w _ gb3 g7 _ _ _ _ _ _ _ _).k7); (case s4 => exact (by repeat (first | exact HI.out | apply OI.drewN) : OI w _ gb3 g7 _ _ _ _ _ _ _ _).h); rintro e_ w51 ⟨rfl, hp_⟩; obtain ⟨vh2, hi_, h6_⟩ := OI.heap (by repeat (first | exact HI.out | apply OI.drewN) : OI w _ gb3 g7 _ _ _ _ _ _ _ _) hp_; clear HI; have HI := Aside0.mk hi_; clear hi_ hp_ h6_))
                  go_roundg k2
                  case measure => have := HK1.out; have := HK2.out; omega
                  case rel => exact ⟨vh2, m2, u, y, wrap64 (i + 1), rfl, H', ⟨by have := HK1.out; have := HK2.out; omega⟩, HI⟩
                · rw [if_neg c2] at H
                  have c2b : (((rd_L1 l0 i).length : Int) == 0) = false := beq_eq_false_iff_ne.mpr c2
                  have H' := Aside0.mk H
                  clear c2 H
                  go_wp2
                  go_roundg k2
                  case measure => have := HK1.out; have := HK2.out; omega
                  case rel => exact ⟨vh, m2, u, h, wrap64 (i + 1), rfl, H', ⟨by have := HK1.out; have := HK2.out; omega⟩, HI⟩
        · rw [if_neg c1] at H
          have c1b : decide (i < (l0.length : Int)) = false := decide_eq_false c1
          clear c1
          have H' := Aside0.mk H
          clear H
          go_wp2
          go_loopg [12] k1 (fun kq v12 w' => ∃ (vh : Value) (m h out : List Int), Aside0 (depgraph_Order.l2 kq m u h out = some (r1, r2, r3)) ∧ Aside0 (kq ≤ k1) ∧ Aside0 (OI w w' gb3 g7 v5 v6 vh v12 m u h out))
          case atStart => exact ⟨vh, m, h, [], H', ⟨Nat.le_refl _⟩, HI⟩
          case round =>
            clear H' HI
            try clear c1b
            obtain ⟨vh, m, h, out, HA, HK2, HI⟩ := hrel
            cases gk with
            | zero => exact absurd HA.out (by simp [depgraph_Order.l2])
            | succ k2 =>
              have H := HA.out
              clear HA
              simp only [depgraph_Order.l2] at H
              obtain ⟨Ah, ch, ehh, hch_, hCh_⟩ := Kd.R_reads HI.out.h
              have EH := Aside0.mk ehh
              have HCh := Aside0.mk hCh_
              have Hch := Aside0.mk hch_
              have hz : wr.cell? ⟨g7, 0, none⟩ = some (.slice Ah h.length ch) := (blk_cell HI.out.k7 0).trans (by rw [← ehh]; rfl)
              have HLn := Aside0.mk (show depgraph_ready_Len.f h = some (h.length : Int) from rfl)
              clear ehh hCh_ hch_
              by_cases c1 : 0 < (h.length : Int)
              · rw [if_pos c1] at H
                have c1b : decide (0 < (h.length : Int)) = true := decide_eq_true c1
                have c1c : decide (0 < h.length) = true := decide_eq_true (by omega)
                have c1d : (0 < h.length) = True := eq_true (by omega)
                have c1e : (h = []) = False := eq_false (by intro e_; rw [e_] at c1; simp at c1)
                replace H := Option.bind_eq_some_iff.mp H
                obtain ⟨⟨q, y⟩, hp, H⟩ := H
                dsimp only at H
                have HP := Aside0.mk hp
                by_cases c2 : out.length < 17592186044416
                case neg => rw [if_neg c2] at H; exact absurd H (by simp)
                rw [if_pos c2] at H
                by_cases c3 : 0 ≤ q
                case neg => rw [if_neg c3] at H; exact absurd H (by simp)
                rw [if_pos c3] at H
                by_cases c4 : q < (u.length : Int)
                case neg => rw [if_neg c4] at H; exact absurd H (by simp)
                rw [if_pos c4] at H
                obtain ⟨g6, c6, e6, gb_, gl_, cl_⟩ := Kd.S_form HI.out.u (by omega)
                obtain ⟨n6, hn6⟩ : ∃ y, y = u.length := ⟨_, rfl⟩
                rw [← hn6] at e6 c4
                subst e6
                clear gb_ gl_ cl_ hn6
                have LM := Aside0.mk c2
                obtain ⟨out2, ho2⟩ : ∃ y, Aside0 (y = out ++ [q]) := ⟨_, ⟨rfl⟩⟩
                rw [← ho2.out] at H
                have H' := Aside0.mk H
                have CQ0 := Aside0.mk c3
                have CQ1 := Aside0.mk c4
                have p6 := eq_true c3
                have q6 := eq_true c4
                have hta := fun w1 => assert_int q w1
                clear H hp c1 c2 c3 c4
                go_wp2_with (first | (go_at_call 41; (with_reducible refine (depgraph_ready_Len.calls Ah ch h _ wr HCh.out Hch.out HLn.out).mono ?_); rintro e_ w61 ⟨rfl, ⟨nd1, rfl⟩⟩) | (go_at_call 42; (with_reducible refine (hpop_calls k2 g7 vh h y q w _ ?s1 ?s2 ?s3 ?s4 HP.out).mono ?_); (case s1 => exact (by repeat (first | exact HI.out | apply OI.drewN) : OI w _ gb3 g7 _ _ _ _ _ _ _ _).b); (case s2 => exact HI.out.e7); (case s3 => exact (by repeat (first | exact HI.out | apply OI.drewN) : OI w _ gb3 g7 _ _ _ _ _ _ _ _).k7); (case s4 => exact (by repeat (first | exact HI.out | apply OI.drewN) : OI w _ gb3 g7 _ _ _ _ _ _ _ _).h); rintro e_ w62 ⟨rfl, hp_⟩; obtain ⟨vh2, hi_, h6_⟩ := OI.heap (by repeat (first | exact HI.out | apply OI.drewN) : OI w _ gb3 g7 _ _ _ _ _ _ _ _) hp_; clear HI; have HI := Aside0.mk hi_; clear hi_ hp_ h6_; clear hz) | ((with_reducible refine gate_builtin (b := .append) (xs := #[.tmp 77, .tmp 79]) rfl ?_); at_builtin; refine Kd.R_append (Kd.int .i64) (w0 := w) w.heap.size rfl (.tmp 77) (.tmp 79) 23 3 (.int .i64 0) 8 rfl Try.underlying23 info3 rfl (by decide) (by omega) u12 out q [.int .i64 q] (fun _ => True) (fun _ => False) rfl rfl ?aP (fun _ hk => hk.elim) ?aF ?aO ?aB ?aS ?aL ?_; (case aP => exact rfl); (case aB => exact (by repeat (first | exact HI.out | apply OI.drewN) : OI w _ gb3 g7 _ _ _ _ _ _ _ _).b); (case aF => exact (fun _ _ => trivial)); (case aO => exact Kd.R_mono (by repeat (first | exact HI.out | apply OI.drewN) : OI w _ gb3 g7 _ _ _ _ _ _ _ _).o (fun _ _ => trivial)); (case aS => exact (below_size (by repeat (first | exact HI.out | apply OI.drewN) : OI w _ gb3 g7 _ _ _ _ _ _ _ _).b)); (case aL => have := LM.out; omega); intro v80 w63 ho hb hg hat; rw [← ho2.out] at ho; have HI2 := Aside0.mk (OI.out (by repeat (first | exact HI.out | apply OI.drewN) : OI w _ gb3 g7 _ _ _ _ _ _ _ _) ho hb hg hat); clear HI ho hb hg hat; have HI := HI2; clear HI2; obtain ⟨oki, ce, hcl, hM, hcc, _, _, _⟩ := Kd.S_elem HI.out.u [] q CQ0.out CQ1.out; obtain ⟨ve, rfl, ge⟩ := hM; replace ge : Kd.R (Kd.int .i64) 3 w63 w.heap.size oki ve (rd_L1 u q) := ge; obtain ⟨Ae, ce_, rfl⟩ := Kd.R_slice ge; have hv := hcc 0 _ rfl; rw [Nat.add_zero, show ((Kd.slice 3 (Kd.int .i64))).sz = 1 from rfl, Nat.mul_one] at hv; have HV := Aside0.mk hv; clear ge hcc hcl))
                try simp only [Act.put, List.setIfInBounds_toArray, List.set_cons_zero, List.set_cons_succ]
                go_loopg [86] k2 (fun kq v86 w' => ∃ (vh : Value) (m h : List Int) (j : Int), v86 = .int .i64 j ∧ Aside0 (depgraph_Order.l3 kq m u h out2 q j = some (r1, r2, r3)) ∧ Aside0 (kq ≤ k2) ∧ Aside0 (OI w w' gb3 g7 v5 (.slice (some ⟨g6, 0, none⟩) n6 c6) vh v80 m u h out2) ∧ Aside0 (w'.cell? ⟨g6, q.toNat, none⟩ = some (.slice Ae (rd_L1 u q).length ce_)))
                case atStart => exact ⟨vh2, m, y, 0, rfl, H', ⟨Nat.le_refl _⟩, HI, HV⟩
                case round =>
                  clear H' HI HV HP
                  try clear hv
                  try clear c1b c1c c1d c1e p6 q6 hta
                  obtain ⟨vh, m, h, j, rfl, HA, HK3, HI, HV⟩ := hrel
                  cases gk with
                  | zero => exact absurd HA.out (by simp [depgraph_Order.l3])
                  | succ k3 =>
                    have H := HA.out
                    clear HA
                    simp only [depgraph_Order.l3] at H
                    by_cases c1 : j < ((rd_L1 u q).length : Int)
                    · rw [if_pos c1] at H
                      have c1b : decide (j < ((rd_L1 u q).length : Int)) = true := decide_eq_true c1
                      by_cases c2 : 0 ≤ j
                      case neg => rw [if_neg c2] at H; exact absurd H (by simp)
                      rw [if_pos c2] at H
                      obtain ⟨oki, ce, hcl, hM, hcc, _, _, _⟩ := Kd.S_elem HI.out.u [] q CQ0.out CQ1.out
                      obtain ⟨ve, rfl, ge⟩ := hM
                      replace ge : Kd.R (Kd.int .i64) 3 wr w.heap.size oki ve (rd_L1 u q) := ge
                      have hv := hcc 0 _ rfl
                      rw [Nat.add_zero, show ((Kd.slice 3 (Kd.int .i64))).sz = 1 from rfl, Nat.mul_one] at hv
                      obtain rfl := Option.some.inj (hv.symm.trans HV.out)
                      clear hcc hcl hv
                      obtain ⟨ad1, e1, hx1⟩ := Kd.at_int (Kd.R_reads' ge).2.2 j c2 c1
                      subst e1
                      clear ge
                      obtain ⟨e, he⟩ : ∃ y, y = rd (rd_L1 u q) j := ⟨_, rfl⟩
                      rw [← he] at H hx1
                      clear he
                      by_cases c3 : 0 ≤ e
                      case neg => rw [if_neg c3] at H; exact absurd H (by simp)
                      rw [if_pos c3] at H
                      by_cases c4 : e < (m.length : Int)
                      case neg => rw [if_neg c4] at H; exact absurd H (by simp)
                      rw [if_pos c4] at H
                      obtain ⟨go, co, eo, gb_, gl_, cl_⟩ := Kd.R_form HI.out.m (by omega)
                      obtain ⟨n5, hn5⟩ : ∃ y, y = m.length := ⟨_, rfl⟩
                      rw [← hn5] at eo c4
                      subst eo
                      have GB := Aside0.mk gb_
                      clear gb_ gl_ cl_ hn5
                      obtain ⟨x, hx⟩ : ∃ y, y = rd m e := ⟨_, rfl⟩
                      obtain ⟨hx5, hf5⟩ := Kd.R_celln 0 HI.out.m e c3 c4
                      replace hx5 : wr.cell? ⟨go, e.toNat, none⟩ = some (.int .i64 x) := by rw [hx]; exact hx5
                      rw [← hx] at H
                      clear hx
                      obtain ⟨m2, hm2⟩ : ∃ y, Aside0 (y = m.set e.toNat (wrap64 (x - 1))) := ⟨_, ⟨rfl⟩⟩
                      rw [← hm2.out] at H
                      have p1 := eq_true c2
                      have q1 := eq_true c1
                      have p5 := eq_true c3
                      have q5 := eq_true c4
                      have C3 := Aside0.mk c3
                      have C4 := Aside0.mk c4
                      clear c1 c2 c3 c4
                      have HI2 : Aside0 (OI w (wr.setCell ⟨go, e.toNat, none⟩ (.int .i64 (wrap64 (x - 1)))) gb3 g7 (.slice (some ⟨go, 0, none⟩) n5 co) (.slice (some ⟨g6, 0, none⟩) n6 c6) vh v80 m2 u h out2) := ⟨by rw [hm2.out]; exact OI.put HI.out GB.out e _⟩
                      have HV2 : Aside0 ((wr.setCell ⟨go, e.toNat, none⟩ (.int .i64 (wrap64 (x - 1)))).cell? ⟨g6, q.toNat, none⟩ = some (.slice (some ad1) (rd_L1 u q).length ce_)) := ⟨(World.cell?_of_block (Below.heap_setCell wr ⟨go, e.toNat, none⟩ _ g6 (fun e_ => (OI.own6 HI.out g6 rfl).1 (by rw [e_]; rfl)))).trans HV.out⟩
                      have hrd : rd m2 e = wrap64 (x - 1) := by
                        have h_ := (Kd.R_celln 0 HI2.out.m e C3.out C4.out).1
                        have h2_ := World.cell?_setCell_same' wr ⟨go, e.toNat, none⟩ (.int .i64 (wrap64 (x - 1))) (by rw [hx5]; rfl)
                        have h3_ := Option.some.inj (h_.symm.trans h2_)
                        injection h3_
                      rw [hrd] at H
                      clear hrd HI HV
                      have HI := HI2
                      have HV := HV2
                      clear HI2 HV2
                      by_cases c5 : wrap64 (x - 1) = 0
                      · rw [if_pos c5] at H
                        have c5b : (wrap64 (x - 1) == 0) = true := beq_iff_eq.mpr c5
                        replace H := Option.bind_eq_some_iff.mp H
                        obtain ⟨y, hp, H⟩ := H
                        have HP := Aside0.mk hp
                        have H' := Aside0.mk H
                        clear c5 H hp
                        go_wp2_with (first | (go_at_call 40; (with_reducible refine (hpush_calls k3 g7 vh h y e w _ ?s1 ?s2 ?s3 ?s4 HP.out).mono ?_); (case s1 => exact (by repeat (first | exact HI.out | apply OI.drewN) : OI w _ gb3 g7 _ _ _ _ _ _ _ _).b); (case s2 => exact HI.out.e7); (case s3 => exact (by repeat (first | exact HI.out | apply OI.drewN) : OI w _ gb3 g7 _ _ _ _ _ _ _ _).k7); (case s4 => exact (by repeat (first | exact HI.out | apply OI.drewN) : OI w _ gb3 g7 _ _ _ _ _ _ _ _).h); rintro e_ w72 ⟨rfl, hp_⟩; obtain ⟨vh2, hi_, h6_⟩ := OI.heap (by repeat (first | exact HI.out | apply OI.drewN) : OI w _ gb3 g7 _ _ _ _ _ _ _ _) hp_; have HV2 := Aside0.mk ((World.cell?_of_block (h6_ g6 rfl)).trans (show _ = some (.slice (some ad1) (rd_L1 u q).length ce_) from HV.out)); clear HV; have HV := HV2; clear HV2; clear HI; have HI := Aside0.mk hi_; clear hi_ hp_ h6_))
                        go_roundg k3
                        case measure => have := HK1.out; have := HK2.out; have := HK3.out; omega
                        case rel => exact ⟨vh2, m2, y, wrap64 (j + 1), rfl, H', ⟨by have := HK1.out; have := HK2.out; have := HK3.out; omega⟩, HI, HV⟩
                      · rw [if_neg c5] at H
                        have c5b : (wrap64 (x - 1) == 0) = false := beq_eq_false_iff_ne.mpr c5
                        have H' := Aside0.mk H
                        clear c5 H
                        go_wp2
                        go_roundg k3
                        case measure => have := HK1.out; have := HK2.out; have := HK3.out; omega
                        case rel => exact ⟨vh, m2, h, wrap64 (j + 1), rfl, H', ⟨by have := HK1.out; have := HK2.out; have := HK3.out; omega⟩, HI, HV⟩
                    · rw [if_neg c1] at H
                      have c1b : decide (j < ((rd_L1 u q).length : Int)) = false := decide_eq_false c1
                      have H' := Aside0.mk H
                      clear c1 H
                      go_wp2
                      go_roundg k3
                      case measure => have := HK1.out; have := HK2.out; have := HK3.out; omega
                      case rel => exact ⟨vh, m, h, out2, H', ⟨by have := HK1.out; have := HK2.out; have := HK3.out; omega⟩, HI⟩
              · rw [if_neg c1] at H
                have c1b : decide (0 < (h.length : Int)) = false := decide_eq_false c1
                have c1c : decide (0 < h.length) = false := decide_eq_false (by omega)
                simp only [Option.some.injEq, Prod.mk.injEq] at H
                obtain ⟨rfl, rfl, rfl⟩ := H
                clear c1
                have hcz0 : wr.cell? ⟨gb3, 0, none⟩ = some (.int .i64 0) := (blk_cell HI.out.k3 0).trans rfl
                have hcz1 : wr.cell? ⟨gb3, 1, none⟩ = some (.int .i64 0) := (blk_cell HI.out.k3 1).trans rfl
                have hfz0 := blk_frozen HI.out.k3 0
                have hfz1 := blk_frozen HI.out.k3 1
                go_wp2_with (first | (go_at_call 41; (with_reducible refine (depgraph_ready_Len.calls Ah ch h _ wr HCh.out Hch.out HLn.out).mono ?_); rintro e_ w61 ⟨rfl, ⟨nd1, rfl⟩⟩))
                refine bodyPost_ret (results_tc rfl _ _ gb3 25 #[.int .i64 0, .int .i64 0] (0, 0) _ rfl (by (with_reducible repeat (first | refine blk_drewN ?_ _ | refine blk_drew ?_ | refine blk_alloc ?_ _)); refine blk_put (cs := #[.int .i64 0, .int .i64 0]) ?_ 1 _ rfl; (with_reducible repeat (first | refine blk_drewN ?_ _ | refine blk_drew ?_ | refine blk_alloc ?_ _)); refine blk_put (cs := #[.int .i64 0, .int .i64 0]) ?_ 0 _ rfl; (with_reducible repeat (first | refine blk_drewN ?_ _ | refine blk_drew ?_ | refine blk_alloc ?_ _)); exact HI.out.k3) Try.underlying25 rfl (by kernel_rfl)) rfl ?_
                have HO3 := Aside0.mk (Kd.R_types HI.out.o HI.out.k3 (by decide))
                exact ⟨_, rfl, by (with_reducible repeat (first | apply Kd.R_alloc | apply Kd.R_drewN | apply Kd.R_drew)); exact Kd.R_mono (Kd.R_far (p := ⟨gb3, 1, none⟩) (Kd.R_far (p := ⟨gb3, 0, none⟩) (Kd.R_drewN HO3.out _) (fun _ hk => hk.2) (.int .i64 0)) (fun _ hk => hk.2) (.int .i64 0)) (fun _ hk => trivial), by repeat (first | (with_reducible first | exact HI.out.b | apply below_alloc | apply pw_below_drewN | apply below_drew1 | refine below_set ?_ HI.out.e3) | exact HI.out.b)⟩
end Go.Proofs.Ytffcaglfcnmhdaa.H
end
section
namespace Go.Proofs.Ytffcaglfcnmhdaa.H
open Go.RowKit Go.Proofs.YtffcaglfcnmhdaaW.PrintWords Go.Proofs.YtffcaglfcnmhdaaW.PrintLast Go.Proofs.YtffcaglfcnmhdaaW.PrintMore
attribute [local go_sem] max2_int max_two
set_option linter.unusedVariables false
set_option linter.unusedSimpArgs false

attribute [local go_sem high] eqA25
mutual
def depgraph_Levels.l0 : Nat → List (List Int) → List Int → List Int → Int → Int → Option (List Int × Int × Int)
  | 0, _, _, _, _, _ => none
  | k + 1, x0, x6, x23, x24, x25 => if x25 < x24 then (if 0 ≤ x25 then (if x25 < (x23.length : Int) then (if 0 ≤ (rd x23 x25) then (if (rd x23 x25) < (x0.length : Int) then (depgraph_Levels.l1 k x0 x6 (rd x23 x25) x23 x24 x25 (rd_L1 x0 (rd x23 x25)) ((rd_L1 x0 (rd x23 x25)).length : Int) 0) else (none)) else (none)) else (none)) else (none)) else (some (x6, 0, 0))
def depgraph_Levels.l1 : Nat → List (List Int) → List Int → Int → List Int → Int → Int → List Int → Int → Int → Option (List Int × Int × Int)
  | 0, _, _, _, _, _, _, _, _, _ => none
  | k + 1, x0, x6, x8, x23, x24, x25, x32, x33, x34 => if x34 < x33 then (if 0 ≤ x34 then (if x34 < (x32.length : Int) then (if 0 ≤ x8 then (if x8 < (x6.length : Int) then (if 0 ≤ (rd x32 x34) then (if (rd x32 x34) < (x6.length : Int) then (depgraph_Levels.l1 k x0 (x6.set (x8 : Int).toNat (mx (rd x6 x8) (wrap64 ((rd x6 (rd x32 x34)) + 1)))) x8 x23 x24 x25 x32 x33 (wrap64 (x34 + 1))) else (none)) else (none)) else (none)) else (none)) else (none)) else (none)) else (depgraph_Levels.l0 k x0 x6 x23 x24 (wrap64 (x25 + 1)))
end
def depgraph_Levels.f (k : Nat) (l0 : List (List Int)) : Option (List Int × Int × Int) := (depgraph_Order.f k l0).bind fun bt156 => (if (!(bt156.2.1 == 0) || (!(bt156.2.2 == 0))) = true then (some (([] : List Int), bt156.2.1, bt156.2.2)) else (if 0 ≤ (l0.length : Int) then (if ((l0.length : Int) : Int).toNat ≤ 35184372088832 then (depgraph_Levels.l0 k l0 (List.replicate ((l0.length : Int) : Int).toNat 0) bt156.1 (bt156.1.length : Int) 0) else (none)) else (none)))
theorem depgraph_Levels.mono_l : ∀ k, (∀ y0 y1 y2 y3 y4, LeO (depgraph_Levels.l0 k y0 y1 y2 y3 y4) (depgraph_Levels.l0 (k + 1) y0 y1 y2 y3 y4)) ∧ (∀ y0 y1 y2 y3 y4 y5 y6 y7 y8, LeO (depgraph_Levels.l1 k y0 y1 y2 y3 y4 y5 y6 y7 y8) (depgraph_Levels.l1 (k + 1) y0 y1 y2 y3 y4 y5 y6 y7 y8))
  | 0 => ⟨fun _ _ _ _ _ r h => by simp [depgraph_Levels.l0] at h, fun _ _ _ _ _ _ _ _ _ r h => by simp [depgraph_Levels.l1] at h⟩
  | k + 1 => by
    obtain ⟨ih0, ih1⟩ := depgraph_Levels.mono_l k
    refine ⟨?_, ?_⟩
    · intro y0 y1 y2 y3 y4
      unfold depgraph_Levels.l0
      repeat' first
      | (with_reducible exact ih0 _ _ _ _ _)
      | (with_reducible exact ih1 _ _ _ _ _ _ _ _ _)
      | (with_reducible exact depgraph_Order.mono _ _)
      | (with_reducible exact LeO.refl _)
      | (with_reducible exact LeO.none _)
      | (with_reducible refine LeO.ite ?_ ?_)
      | (with_reducible refine LeO.bind ?_ (fun _ => ?_))
      | exact ih0 _ _ _ _ _
      | exact ih1 _ _ _ _ _ _ _ _ _
      | exact depgraph_Order.mono _ _
      | exact LeO.none _
      | refine LeO.ite ?_ ?_
      | refine LeO.bind ?_ (fun _ => ?_)
    · intro y0 y1 y2 y3 y4 y5 y6 y7 y8
      unfold depgraph_Levels.l1
      repeat' first
      | (with_reducible exact ih0 _ _ _ _ _)
      | (with_reducible exact ih1 _ _ _ _ _ _ _ _ _)
      | (with_reducible exact depgraph_Order.mono _ _)
      | (with_reducible exact LeO.refl _)
      | (with_reducible exact LeO.none _)
      | (with_reducible refine LeO.ite ?_ ?_)
      | (with_reducible refine LeO.bind ?_ (fun _ => ?_))
      | exact ih0 _ _ _ _ _
      | exact ih1 _ _ _ _ _ _ _ _ _
      | exact depgraph_Order.mono _ _
      | exact LeO.none _
      | refine LeO.ite ?_ ?_
      | refine LeO.bind ?_ (fun _ => ?_)
theorem depgraph_Levels.mono : ∀ a0 k, LeO (depgraph_Levels.f k a0) (depgraph_Levels.f (k + 1) a0) := by
  intro a0 k
  obtain ⟨ih0, ih1⟩ := depgraph_Levels.mono_l k
  unfold depgraph_Levels.f
  repeat' first
      | (with_reducible exact ih0 _ _ _ _ _)
      | (with_reducible exact ih1 _ _ _ _ _ _ _ _ _)
      | (with_reducible exact depgraph_Order.mono _ _)
      | (with_reducible exact LeO.refl _)
      | (with_reducible exact LeO.none _)
      | (with_reducible refine LeO.ite ?_ ?_)
      | (with_reducible refine LeO.bind ?_ (fun _ => ?_))
      | exact ih0 _ _ _ _ _
      | exact ih1 _ _ _ _ _ _ _ _ _
      | exact depgraph_Order.mono _ _
      | exact LeO.none _
      | refine LeO.ite ?_ ?_
      | refine LeO.bind ?_ (fun _ => ?_)
def depgraph_Levels.T11 : Bool × List (List Nat × List Nat) := (true, [([], []), ([], []), ([], []), ([], []), ([2, 3], [2, 3]), ([4], [4]), ([], []), ([], []), ([6, 7], [6, 7]), ([8], [8]), ([9], [9]), ([5, 10], [5, 10]), ([0, 1, 0, 1, 2, 3, 4, 5, 6, 7, 8, 9, 10, 11], [0, 1]), ([12, 11, 0, 1, 2, 3, 4, 5, 6, 7, 8, 9, 10, 11], [11, 12])])
def depgraph_Levels.B11 : List Nat := [0, 0, 0, 0, 12, 28, 0, 0, 192, 448, 960, 2044, 4095, 8191]
theorem depgraph_Levels.tab11 : rtab .any (opsOf Try.f21 11) = depgraph_Levels.T11 := by kernel_rfl
theorem depgraph_Levels.bits11 : waitsOk depgraph_Levels.T11.2 depgraph_Levels.B11 = true := by kernel_rfl
set_option maxHeartbeats 8000000 in
set_option maxRecDepth 100000 in
theorem depgraph_Levels.calls (k : Nat) (A0 : Option Addr) (c0 : Nat) (l0 : List (List Int)) (r1 : List Int) (r2 : Int) (r3 : Int) (w : World) (hr0 : Kd.C (Kd.slice 3 (Kd.int .i64)) w A0 l0.length l0) (hc0 : l0.length ≤ c0) (h : depgraph_Levels.f k l0 = some (r1, r2, r3)) :
    Calls Try.prog 21 #[.slice A0 l0.length c0] w fun e w' => ∃ v0_ : Value, e = .returned (.tuple #[v0_, .agg #[.int .i64 r2, .int .i64 r3]]) ∧ Kd.R (Kd.int .i64) 3 w' w.heap.size (fun _ => True) v0_ r1 ∧ Below w.heap.size w w' := by
  have hu25 := Try.underlying25
  have HR0 := Aside0.mk hr0
  have HC0 := Aside0.mk hc0
  clear hr0 hc0
  have HB := Aside0.mk (Below.refl w.heap.size w)
  have H : ((depgraph_Order.f k l0).bind fun bt156 => (if (!(bt156.2.1 == 0) || (!(bt156.2.2 == 0))) = true then (some (([] : List Int), bt156.2.1, bt156.2.2)) else (if 0 ≤ (l0.length : Int) then (if ((l0.length : Int) : Int).toNat ≤ 35184372088832 then (depgraph_Levels.l0 k l0 (List.replicate ((l0.length : Int) : Int).toNat 0) bt156.1 (bt156.1.length : Int) 0) else (none)) else (none)))) = some (r1, r2, r3) := h
  clear h
  replace H := Option.bind_eq_some_iff.mp H
  obtain ⟨⟨t156, t159, t160⟩, A20, H⟩ := H
  replace H : (if (!(t159 == 0) || (!(t160 == 0))) = true then (some (([] : List Int), t159, t160)) else (if 0 ≤ (l0.length : Int) then (if ((l0.length : Int) : Int).toNat ≤ 35184372088832 then (depgraph_Levels.l0 k l0 (List.replicate ((l0.length : Int) : Int).toNat 0) t156 (t156.length : Int) 0) else (none)) else (none))) = some (r1, r2, r3) := H
  have A2 := Aside0.mk A20
  clear A20
  by_cases c3 : (!(t159 == 0) || (!(t160 == 0))) = true
  · rw [if_pos c3] at H
    have c3b0 : (!(t159 == 0) || (!(t160 == 0))) = true := c3
    clear c3
    simp only [Option.some.injEq, Prod.mk.injEq] at H
    obtain ⟨rfl, rfl, rfl⟩ := H
    go_enter Try.func21, Try.ntmps21
    try go_wp2_with (first | ((with_reducible refine gate_dst (N := 3) rfl ?_); refine box_event ?hg (N := 3) ?hd (cs := #[.int .i64 0, .int .i64 0]) (t := 25) ?hr ?_; (case hd => rfl); (case hg => rfl); (case hr => first | (go_simp; done) | (go_simp; rfl)); intro gb155 hg w4 hbox hb; have n0_ := Aside0.mk (below_step (by repeat (first | (with_reducible first | exact HB.out | apply below_alloc | apply pw_below_drewN | apply below_drew1) | exact HB.out)) hb); have n1_ := Aside0.mk (hbox); have n2_ := Aside0.mk ((by rw [hg]; exact (below_size (by repeat (first | (with_reducible first | exact HB.out | apply below_alloc | apply pw_below_drewN | apply below_drew1) | exact HB.out))) : w.heap.size ≤ gb155)); have n3_ := Aside0.mk ((by rw [hg]; exact (below_size (by repeat (first | (with_reducible first | exact HB.out | apply below_alloc | apply pw_below_drewN | apply below_drew1) | exact HB.out))) : w.heap.size ≤ gb155)); clear HB; have HB := n0_; have BK155 := n1_; have GW155 := n2_; have GE155 := n3_; clear n0_ n1_ n2_ n3_; clear hb hbox hg) | ((with_reducible refine gate_callee (f := 20) rfl ?_); refine goesL_ (some 13) rfl rfl Try.func20 (by kernel_rfl) rfl #[.slice A0 l0.length c0] rfl (by (try simp only [List.map_toArray, List.map_cons, List.map_nil]); first | done | rfl | (simp only [List.length_drop, List.length_take]; rfl)) ?_; (with_reducible refine (depgraph_Order.calls k _ _ l0 t156 t159 t160 _ ?side1 ?side2 A2.out).mono ?_); (case side1 => repeat (first | exact (Kd.C_below HR0.out HB.out) | (with_reducible refine Kd.C_alloc ?_ _) | (with_reducible refine Kd.C_drewN ?_ _) | (with_reducible refine Kd.C_drew ?_))); (case side2 => exact HC0.out); rintro e w5 ⟨v157, rfl, ho0, hb⟩; refine ⟨_, rfl, ?_⟩; have n0_ := Aside0.mk (Kd.R_lower ho0 (below_size (by repeat (first | (with_reducible first | exact HB.out | apply below_alloc | apply pw_below_drewN | apply below_drew1 | refine below_set ?_ GE155.out) | exact HB.out)))); have n1_ := Aside0.mk (blk_below (g := gb155) (o := .cells #[.int .i64 0, .int .i64 0] 25 (0, 0)) (by (with_reducible repeat (first | refine blk_drewN ?_ _ | refine blk_drew ?_ | refine blk_alloc ?_ _)); exact BK155.out) hb); have n2_ := Aside0.mk (below_step (by repeat (first | (with_reducible first | exact HB.out | apply below_alloc | apply pw_below_drewN | apply below_drew1 | refine below_set ?_ GE155.out) | exact HB.out)) hb); clear BK155; clear HB; have HO158 := n0_; have BK155 := n1_; have HB := n2_; clear n0_ n1_ n2_; (try clear hb); (try clear hb2); (try clear hk); (try clear hi); (try clear ho0)) | ((with_reducible refine gate_dst (N := 5) rfl ?_); refine box_event ?hg (N := 5) ?hd (cs := #[.int .i64 0, .int .i64 0]) (t := 25) ?hr ?_; (case hd => rfl); (case hg => rfl); (case hr => first | (go_simp; done) | (go_simp; rfl)); intro gb161 hg w6 hbox hb; have n0_ := Aside0.mk (Kd.R_below (by (with_reducible repeat (first | apply Kd.R_alloc | apply Kd.R_drewN | apply Kd.R_drew)); exact HO158.out) hb); have n1_ := Aside0.mk (blk_below (g := gb155) (o := .cells #[.int .i64 0, .int .i64 0] 25 (0, 0)) (by (with_reducible repeat (first | refine blk_drewN ?_ _ | refine blk_drew ?_ | refine blk_alloc ?_ _)); exact BK155.out) hb); have n2_ := Aside0.mk (below_step (by repeat (first | (with_reducible first | exact HB.out | apply below_alloc | apply pw_below_drewN | apply below_drew1 | refine below_set ?_ GE155.out) | exact HB.out)) hb); have n3_ := Aside0.mk (hbox); have n4_ := Aside0.mk ((by rw [hg]; exact (below_size (by repeat (first | (with_reducible first | exact HB.out | apply below_alloc | apply pw_below_drewN | apply below_drew1 | refine below_set ?_ GE155.out) | exact HB.out))) : w.heap.size ≤ gb161)); have n5_ := Aside0.mk ((by rw [hg]; exact (below_size (by repeat (first | (with_reducible first | exact HB.out | apply below_alloc | apply pw_below_drewN | apply below_drew1 | refine below_set ?_ GE155.out) | exact HB.out))) : w.heap.size ≤ gb161)); have n6_ := Aside0.mk ((by rw [hg]; exact Nat.ne_of_lt (blk_lt (g := gb155) (o := .cells #[.int .i64 0, .int .i64 0] 25 (0, 0)) (by (with_reducible repeat (first | refine blk_drewN ?_ _ | refine blk_drew ?_ | refine blk_alloc ?_ _)); exact BK155.out)) : gb155 ≠ gb161)); have n7_ := Aside0.mk ((by rw [hg]; exact Nat.ne_of_gt (blk_lt (g := gb155) (o := .cells #[.int .i64 0, .int .i64 0] 25 (0, 0)) (by (with_reducible repeat (first | refine blk_drewN ?_ _ | refine blk_drew ?_ | refine blk_alloc ?_ _)); exact BK155.out)) : gb161 ≠ gb155)); clear HO158; clear BK155; clear HB; have HO158 := n0_; have BK155 := n1_; have HB := n2_; have BK161 := n3_; have GW161 := n4_; have GE161 := n5_; have NB155_161 := n6_; have NB161_155 := n7_; clear n0_ n1_ n2_ n3_ n4_ n5_ n6_ n7_; clear hb hbox hg; have hnb7 := NB161_155.out; have hnc7 := NB155_161.out; have hcz8_0 : w6.cell? ⟨gb161, 0, none⟩ = some (.int .i64 0) := (blk_cell BK161.out 0).trans rfl; have hcz8_1 : w6.cell? ⟨gb161, 1, none⟩ = some (.int .i64 0) := (blk_cell BK161.out 1).trans rfl; have hfz8_0 := blk_frozen BK161.out 0; have hfz8_1 := blk_frozen BK161.out 1))
    have n0_ : Aside0 (Kd.R (Kd.int .i64) 3 ((w6.setCell ⟨gb161, 0, none⟩ (.int .i64 t159)).setCell ⟨gb161, 1, none⟩ (.int .i64 t160)) w.heap.size (fun _ => True) v157 t156) := ⟨by (with_reducible repeat (first | apply Kd.R_alloc | apply Kd.R_drewN | apply Kd.R_drew)); exact Kd.R_mono (Kd.R_far (p := ⟨gb161, 1, none⟩) (Kd.R_far (p := ⟨gb161, 0, none⟩) (Kd.R_types HO158.out BK161.out (by decide)) (fun _ hk => hk.2) (.int .i64 t159)) (fun _ hk => hk.2) (.int .i64 t160)) (fun _ hk => trivial)⟩
    have n1_ : Aside0 (((w6.setCell ⟨gb161, 0, none⟩ (.int .i64 t159)).setCell ⟨gb161, 1, none⟩ (.int .i64 t160)).heap[gb155]? = some (.cells #[.int .i64 0, .int .i64 0] 25 (0, 0))) := ⟨by (with_reducible repeat (first | refine blk_drewN ?_ _ | refine blk_drew ?_ | refine blk_alloc ?_ _)); refine blk_far ?_ NB155_161.out _; (with_reducible repeat (first | refine blk_drewN ?_ _ | refine blk_drew ?_ | refine blk_alloc ?_ _)); refine blk_far ?_ NB155_161.out _; (with_reducible repeat (first | refine blk_drewN ?_ _ | refine blk_drew ?_ | refine blk_alloc ?_ _)); exact BK155.out⟩
    have n2_ : Aside0 (((w6.setCell ⟨gb161, 0, none⟩ (.int .i64 t159)).setCell ⟨gb161, 1, none⟩ (.int .i64 t160)).heap[gb161]? = some (.cells #[.int .i64 t159, .int .i64 t160] 25 (0, 0))) := ⟨by (with_reducible repeat (first | refine blk_drewN ?_ _ | refine blk_drew ?_ | refine blk_alloc ?_ _)); refine blk_put (cs := #[.int .i64 t159, .int .i64 0]) ?_ 1 _ rfl; (with_reducible repeat (first | refine blk_drewN ?_ _ | refine blk_drew ?_ | refine blk_alloc ?_ _)); refine blk_put (cs := #[.int .i64 0, .int .i64 0]) ?_ 0 _ rfl; (with_reducible repeat (first | refine blk_drewN ?_ _ | refine blk_drew ?_ | refine blk_alloc ?_ _)); exact BK161.out⟩
    have n3_ : Aside0 (Below w.heap.size w ((w6.setCell ⟨gb161, 0, none⟩ (.int .i64 t159)).setCell ⟨gb161, 1, none⟩ (.int .i64 t160))) := ⟨by repeat (first | (with_reducible first | exact HB.out | apply below_alloc | apply pw_below_drewN | apply below_drew1 | refine below_set ?_ GE155.out | refine below_set ?_ GE161.out) | exact HB.out)⟩
    (try clear HO158)
    (try clear BK155)
    (try clear BK161)
    (try clear HB)
    generalize ((w6.setCell ⟨gb161, 0, none⟩ (.int .i64 t159)).setCell ⟨gb161, 1, none⟩ (.int .i64 t160)) = w9 at n0_ n1_ n2_ n3_ ⊢
    have HO158 := n0_
    have BK155 := n1_
    have BK161 := n2_
    have HB := n3_
    clear n0_ n1_ n2_ n3_
    have n0_ := Aside0.mk (Kd.R_drew HO158.out)
    have n1_ := Aside0.mk (blk_drew BK155.out)
    have n2_ := Aside0.mk (blk_drew BK161.out)
    have n3_ := Aside0.mk (below_drew1 HB.out)
    clear HO158
    clear BK155
    clear BK161
    clear HB
    have HO158 := n0_
    have BK155 := n1_
    have BK161 := n2_
    have HB := n3_
    clear n0_ n1_ n2_ n3_
    refine start_ (n := 3) (S := fun w' => w'.cell? ⟨gb161, 0, none⟩ = some (.int .i64 t159) ∧ w'.cell? ⟨gb161, 1, none⟩ = some (.int .i64 t160)) (ds := []) #[false, false, false] (by kernel_rfl) rfl rfl ⟨(blk_cell BK161.out 0).trans rfl, (blk_cell BK161.out 1).trans rfl⟩ (fun hHeld => ?_)
    generalize w9.drew = w10 at HO158 BK155 BK161 HB hHeld ⊢
    refine pure_ (i := 1) (N := some 2) (v := ?_) (a' := ?_) #[false, true, false] rfl rfl (by kernel_rfl) (fun _ _ _ h => h) (Or.inl ⟨by rfl, ?_⟩) ?_ ?_
    rotate_left
    · intro w'
      go_simp
      with_reducible rfl
    rotate_left
    · simp only [Act.put, List.setIfInBounds_toArray, List.set_cons_zero, List.set_cons_succ, i64_w, i32_w]
      rfl
    refine take_ (i := 0) (N := some 19) (v := ?_) (a' := ?_) #[true, true, false] rfl rfl (by kernel_rfl) (fun _ _ _ h => h) (Or.inl ⟨by rfl, ?_⟩) hHeld ?_ ?_
    rotate_left
    · rintro w' ⟨s0, s1⟩
      go_simp
      with_reducible rfl
    rotate_left
    · simp only [Act.put, List.setIfInBounds_toArray, List.set_cons_zero, List.set_cons_succ, i64_w, i32_w]
      rfl
    refine one_ (i := 2) (N := none) #[true, true, true] rfl rfl (by kernel_rfl) (by decide) (fun K hK => ?_)
    have hs11 : w10.cell? ⟨gb155, 0, none⟩ = some (.int .i64 0) := (blk_cell BK155.out 0).trans rfl
    have hfs11 := blk_frozen BK155.out 0
    have hns11_1 := NB161_155.out
    have hms11_1 := NB155_161.out
    have hs12 : w10.cell? ⟨gb155, 1, none⟩ = some (.int .i64 0) := (blk_cell BK155.out 1).trans rfl
    have hfs12 := blk_frozen BK155.out 1
    have hns12_1 := NB161_155.out
    have hms12_1 := NB155_161.out
    refine skip_ (w1 := ?_) (by rfl) rfl ?_ ?_
    rotate_left
    · go_simp
      rfl
    refine hK.out _ _ ⟨((cell_far (p := ⟨gb155, _, none⟩) NB161_155.out _).trans (((cell_far (p := ⟨gb155, _, none⟩) NB161_155.out _).trans (hHeld.1)))), ((cell_far (p := ⟨gb155, _, none⟩) NB161_155.out _).trans (((cell_far (p := ⟨gb155, _, none⟩) NB161_155.out _).trans (hHeld.2))))⟩ (fun hHeld => ?_)
    clear hK K
    refine done_ (by kernel_rfl) ?_
    try go_wp2
    refine bodyPost_ret (results_tc rfl _ _ gb155 25 #[.int .i64 t159, .int .i64 t160] (0, 0) _ rfl (by (with_reducible repeat (first | refine blk_drewN ?_ _ | refine blk_drew ?_ | refine blk_alloc ?_ _)); refine blk_put (cs := #[.int .i64 t159, .int .i64 0]) ?_ 1 _ rfl; (with_reducible repeat (first | refine blk_drewN ?_ _ | refine blk_drew ?_ | refine blk_alloc ?_ _)); refine blk_put (cs := #[.int .i64 0, .int .i64 0]) ?_ 0 _ rfl; (with_reducible repeat (first | refine blk_drewN ?_ _ | refine blk_drew ?_ | refine blk_alloc ?_ _)); exact BK155.out) Try.underlying25 rfl (by kernel_rfl)) rfl ?_
    exact ⟨_, by first | rfl | (simp [errW_none, errW_some] <;> rfl) | (simp [*, errW_none, errW_some] <;> rfl), by first | exact Kd.R_nil _ _ _ _ _ | exact Kd.N_nil _ _ _ _ _ | exact Kd.V_nil _ _ _ _ _ | exact Kd.Q_nil _ _ _ _ _ | exact Kd.S_nil _ _ _ _ _, by repeat (first | (with_reducible first | exact HB.out | apply below_alloc | apply pw_below_drewN | apply below_drew1 | refine below_set ?_ GE155.out | refine below_set ?_ GE161.out) | exact HB.out)⟩
  · rw [if_neg c3] at H
    have c3b0 : (!(t159 == 0) || (!(t160 == 0))) = false := by simpa using c3
    clear c3
    by_cases c13 : 0 ≤ (l0.length : Int)
    · rw [if_pos c13] at H
      have c13b0 := eq_true c13
      have c13b1 : decide (0 ≤ (l0.length : Int)) = true := decide_eq_true c13
      clear c13
      by_cases c14 : ((l0.length : Int) : Int).toNat ≤ 35184372088832
      · rw [if_pos c14] at H
        have c14b0 := eq_true c14
        have c14b1 : decide (((l0.length : Int) : Int).toNat ≤ 35184372088832) = true := decide_eq_true c14
        clear c14
        obtain ⟨y162, hy162⟩ : ∃ y_ : List Int, y_ = (List.replicate ((l0.length : Int) : Int).toNat 0) := ⟨_, rfl⟩
        replace H : (depgraph_Levels.l0 k l0 y162 t156 (t156.length : Int) 0) = some (r1, r2, r3) := by first | (rw [hy162]; with_reducible exact H) | (have H2_ := (Option.bind_some _ _).symm.trans H; rw [hy162]; with_reducible exact H2_) | (have H2_ := (Option.bind_some _ _).symm.trans H; with_reducible exact H2_) | with_reducible exact H | (rw [hy162]; exact H) | exact H
        have Ny162 := Aside0.mk hy162
        clear hy162
        have H' := Aside0.mk H
        clear H
        go_enter Try.func21, Try.ntmps21
        go_wp2_with (first | ((with_reducible refine gate_dst (N := 3) rfl ?_); refine box_event ?hg (N := 3) ?hd (cs := #[.int .i64 0, .int .i64 0]) (t := 25) ?hr ?_; (case hd => rfl); (case hg => rfl); (case hr => first | (go_simp; done) | (go_simp; rfl)); intro gb155 hg w15 hbox hb; have n0_ := Aside0.mk (below_step (by repeat (first | (with_reducible first | exact HB.out | apply below_alloc | apply pw_below_drewN | apply below_drew1) | exact HB.out)) hb); have n1_ := Aside0.mk (hbox); have n2_ := Aside0.mk ((by rw [hg]; exact (below_size (by repeat (first | (with_reducible first | exact HB.out | apply below_alloc | apply pw_below_drewN | apply below_drew1) | exact HB.out))) : w.heap.size ≤ gb155)); have n3_ := Aside0.mk ((by rw [hg]; exact (below_size (by repeat (first | (with_reducible first | exact HB.out | apply below_alloc | apply pw_below_drewN | apply below_drew1) | exact HB.out))) : w.heap.size ≤ gb155)); clear HB; have HB := n0_; have BK155 := n1_; have GW155 := n2_; have GE155 := n3_; clear n0_ n1_ n2_ n3_; clear hb hbox hg) | ((with_reducible refine gate_callee (f := 20) rfl ?_); refine goesL_ (some 13) rfl rfl Try.func20 (by kernel_rfl) rfl #[.slice A0 l0.length c0] rfl (by (try simp only [List.map_toArray, List.map_cons, List.map_nil]); first | done | rfl | (simp only [List.length_drop, List.length_take]; rfl)) ?_; (with_reducible refine (depgraph_Order.calls k _ _ l0 t156 t159 t160 _ ?side1 ?side2 A2.out).mono ?_); (case side1 => repeat (first | exact (Kd.C_below HR0.out HB.out) | (with_reducible refine Kd.C_alloc ?_ _) | (with_reducible refine Kd.C_drewN ?_ _) | (with_reducible refine Kd.C_drew ?_))); (case side2 => exact HC0.out); rintro e w16 ⟨v157, rfl, ho0, hb⟩; refine ⟨_, rfl, ?_⟩; have n0_ := Aside0.mk (Kd.R_lower ho0 (below_size (by repeat (first | (with_reducible first | exact HB.out | apply below_alloc | apply pw_below_drewN | apply below_drew1 | refine below_set ?_ GE155.out) | exact HB.out)))); have n1_ := Aside0.mk (blk_below (g := gb155) (o := .cells #[.int .i64 0, .int .i64 0] 25 (0, 0)) (by (with_reducible repeat (first | refine blk_drewN ?_ _ | refine blk_drew ?_ | refine blk_alloc ?_ _)); exact BK155.out) hb); have n2_ := Aside0.mk (below_step (by repeat (first | (with_reducible first | exact HB.out | apply below_alloc | apply pw_below_drewN | apply below_drew1 | refine below_set ?_ GE155.out) | exact HB.out)) hb); clear BK155; clear HB; have HO158 := n0_; have BK155 := n1_; have HB := n2_; clear n0_ n1_ n2_; (try clear hb); (try clear hb2); (try clear hk); (try clear hi); (try clear ho0)) | ((with_reducible refine gate_dst (N := 5) rfl ?_); refine box_event ?hg (N := 5) ?hd (cs := #[.int .i64 0, .int .i64 0]) (t := 25) ?hr ?_; (case hd => rfl); (case hg => rfl); (case hr => first | (go_simp; done) | (go_simp; rfl)); intro gb161 hg w17 hbox hb; have n0_ := Aside0.mk (Kd.R_below (by (with_reducible repeat (first | apply Kd.R_alloc | apply Kd.R_drewN | apply Kd.R_drew)); exact HO158.out) hb); have n1_ := Aside0.mk (blk_below (g := gb155) (o := .cells #[.int .i64 0, .int .i64 0] 25 (0, 0)) (by (with_reducible repeat (first | refine blk_drewN ?_ _ | refine blk_drew ?_ | refine blk_alloc ?_ _)); exact BK155.out) hb); have n2_ := Aside0.mk (below_step (by repeat (first | (with_reducible first | exact HB.out | apply below_alloc | apply pw_below_drewN | apply below_drew1 | refine below_set ?_ GE155.out) | exact HB.out)) hb); have n3_ := Aside0.mk (hbox); have n4_ := Aside0.mk ((by rw [hg]; exact (below_size (by repeat (first | (with_reducible first | exact HB.out | apply below_alloc | apply pw_below_drewN | apply below_drew1 | refine below_set ?_ GE155.out) | exact HB.out))) : w.heap.size ≤ gb161)); have n5_ := Aside0.mk ((by rw [hg]; exact (below_size (by repeat (first | (with_reducible first | exact HB.out | apply below_alloc | apply pw_below_drewN | apply below_drew1 | refine below_set ?_ GE155.out) | exact HB.out))) : w.heap.size ≤ gb161)); have n6_ := Aside0.mk ((by rw [hg]; exact Nat.ne_of_lt (blk_lt (g := gb155) (o := .cells #[.int .i64 0, .int .i64 0] 25 (0, 0)) (by (with_reducible repeat (first | refine blk_drewN ?_ _ | refine blk_drew ?_ | refine blk_alloc ?_ _)); exact BK155.out)) : gb155 ≠ gb161)); have n7_ := Aside0.mk ((by rw [hg]; exact Nat.ne_of_gt (blk_lt (g := gb155) (o := .cells #[.int .i64 0, .int .i64 0] 25 (0, 0)) (by (with_reducible repeat (first | refine blk_drewN ?_ _ | refine blk_drew ?_ | refine blk_alloc ?_ _)); exact BK155.out)) : gb161 ≠ gb155)); clear HO158; clear BK155; clear HB; have HO158 := n0_; have BK155 := n1_; have HB := n2_; have BK161 := n3_; have GW161 := n4_; have GE161 := n5_; have NB155_161 := n6_; have NB161_155 := n7_; clear n0_ n1_ n2_ n3_ n4_ n5_ n6_ n7_; clear hb hbox hg; have hnb18 := NB161_155.out; have hnc18 := NB155_161.out; have hcz19_0 : w17.cell? ⟨gb161, 0, none⟩ = some (.int .i64 0) := (blk_cell BK161.out 0).trans rfl; have hcz19_1 : w17.cell? ⟨gb161, 1, none⟩ = some (.int .i64 0) := (blk_cell BK161.out 1).trans rfl; have hfz19_0 := blk_frozen BK161.out 0; have hfz19_1 := blk_frozen BK161.out 1) | ((with_reducible refine gate_dst (N := 22) rfl ?_); refine Kd.R_make (Kd.int .i64) _ 3 rfl (N := 22) rfl 23 _ _ rfl (l0.length : Int) rfl rfl Try.underlying23 (.int .i64 0) 8 info3 rfl (by decide) (by omega) 0 (ok := fun _ => True) (okp := fun _ => True) rfl (fun _ hk => hk) trivial (of_decide_eq_true (by first | (with_reducible assumption) | assumption)) (Nat.le_trans (Nat.mul_le_mul_right _ (of_decide_eq_true (by first | (with_reducible assumption) | assumption) : (l0.length : Int).toNat ≤ 35184372088832)) (by omega)) (Below.refl _ _) (Nat.le_refl _) ?_; intro v163 w20 ho21 hb hg_ hnew_; clear hg_ hnew_; (first | rw [← Ny162.out] at ho21 | (simp only [Int.reduceToNat] at ho21; rw [← Ny162.out] at ho21)); have n0_ := Aside0.mk (Kd.R_elder' (by (with_reducible repeat (first | apply Kd.R_alloc | apply Kd.R_drewN | apply Kd.R_drew)); exact (Kd.R_mono (Kd.R_far (p := ⟨gb161, 1, none⟩) (Kd.R_far (p := ⟨gb161, 0, none⟩) (Kd.R_types HO158.out BK161.out (by decide)) (fun _ hk => hk.2) (.int .i64 t159)) (fun _ hk => hk.2) (.int .i64 t160)) (fun _ h_ => h_.1))) (Kd.R_base ho21) hb); have n1_ := Aside0.mk (Kd.R_lower (Kd.R_new' ho21 (Kd.R_lt (by (with_reducible repeat (first | apply Kd.R_alloc | apply Kd.R_drewN | apply Kd.R_drew)); exact (Kd.R_mono (Kd.R_far (p := ⟨gb161, 1, none⟩) (Kd.R_far (p := ⟨gb161, 0, none⟩) (Kd.R_types HO158.out BK161.out (by decide)) (fun _ hk => hk.2) (.int .i64 t159)) (fun _ hk => hk.2) (.int .i64 t160)) (fun _ h_ => h_.1))))) (below_size (by repeat (first | (with_reducible first | exact HB.out | apply below_alloc | apply pw_below_drewN | apply below_drew1 | refine below_set ?_ GE155.out | refine below_set ?_ GE161.out) | exact HB.out)))); have n2_ := Aside0.mk (blk_below (g := gb155) (o := .cells #[.int .i64 0, .int .i64 0] 25 (0, 0)) (by (with_reducible repeat (first | refine blk_drewN ?_ _ | refine blk_drew ?_ | refine blk_alloc ?_ _)); refine blk_far ?_ NB155_161.out _; (with_reducible repeat (first | refine blk_drewN ?_ _ | refine blk_drew ?_ | refine blk_alloc ?_ _)); refine blk_far ?_ NB155_161.out _; (with_reducible repeat (first | refine blk_drewN ?_ _ | refine blk_drew ?_ | refine blk_alloc ?_ _)); exact BK155.out) hb); have n3_ := Aside0.mk (blk_below (g := gb161) (o := .cells #[.int .i64 t159, .int .i64 t160] 25 (0, 0)) (by (with_reducible repeat (first | refine blk_drewN ?_ _ | refine blk_drew ?_ | refine blk_alloc ?_ _)); refine blk_put (cs := #[.int .i64 t159, .int .i64 0]) ?_ 1 _ rfl; (with_reducible repeat (first | refine blk_drewN ?_ _ | refine blk_drew ?_ | refine blk_alloc ?_ _)); refine blk_put (cs := #[.int .i64 0, .int .i64 0]) ?_ 0 _ rfl; (with_reducible repeat (first | refine blk_drewN ?_ _ | refine blk_drew ?_ | refine blk_alloc ?_ _)); exact BK161.out) hb); have n4_ := Aside0.mk (below_step (by repeat (first | (with_reducible first | exact HB.out | apply below_alloc | apply pw_below_drewN | apply below_drew1 | refine below_set ?_ GE155.out | refine below_set ?_ GE161.out) | exact HB.out)) hb); clear HO158; clear BK155; clear BK161; clear HB; have HO158 := n0_; have HO164 := n1_; have BK155 := n2_; have BK161 := n3_; have HB := n4_; clear n0_ n1_ n2_ n3_ n4_; clear hb ho21; obtain ⟨Ao22, co22, eo22⟩ := Kd.R_slice HO158.out; subst eo22))
        go_loopg [25] k (fun kq v25 w' => ∃ (x6_1 : List Int) (x25_1 : Int), v25 = .int .i64 x25_1 ∧ Aside0 (depgraph_Levels.l0 kq l0 x6_1 t156 (t156.length : Int) x25_1 = some (r1, r2, r3)) ∧ Aside0 (kq ≤ k) ∧ Aside0 (Kd.R (Kd.int .i64) 3 w' w.heap.size (fun k_ => some k_ ≠ ((.slice Ao22 t156.length co22) : Value).ownBlock) v163 x6_1) ∧ Aside0 (Kd.R (Kd.int .i64) 3 w' w.heap.size (fun k_ => some k_ ≠ (v163 : Value).ownBlock) (.slice Ao22 t156.length co22) t156) ∧ Aside0 (w'.heap[gb155]? = some (.cells #[.int .i64 0, .int .i64 0] 25 (0, 0))) ∧ Aside0 (w'.heap[gb161]? = some (.cells #[.int .i64 t159, .int .i64 t160] 25 (0, 0))) ∧ Aside0 (Below w.heap.size w w'))
        case atStart => exact ⟨(y162), (0), (by first | rfl | (simp; done) | (simp [*]; done)), H', ⟨Nat.le_refl _⟩, ⟨by (with_reducible repeat (first | apply Kd.R_alloc | apply Kd.R_drewN | apply Kd.R_drew)); exact Kd.R_mono HO164.out (fun _ hk => hk.2)⟩, ⟨by (with_reducible repeat (first | apply Kd.R_alloc | apply Kd.R_drewN | apply Kd.R_drew)); exact Kd.R_mono HO158.out (fun _ hk => hk.2)⟩, ⟨by (with_reducible repeat (first | refine blk_drewN ?_ _ | refine blk_drew ?_ | refine blk_alloc ?_ _)); exact BK155.out⟩, ⟨by (with_reducible repeat (first | refine blk_drewN ?_ _ | refine blk_drew ?_ | refine blk_alloc ?_ _)); exact BK161.out⟩, ⟨by repeat (first | (with_reducible first | exact HB.out | apply below_alloc | apply pw_below_drewN | apply below_drew1 | refine below_set ?_ GE155.out | refine below_set ?_ GE161.out) | exact HB.out)⟩⟩
        case round =>
          clear H'
          try clear c1
          try clear c2
          try clear p2
          try clear c3
          try clear c3b0
          try clear c7
          try clear c13
          try clear c13b0
          try clear c13b1
          try clear c14
          try clear c14b0
          try clear c14b1
          try clear c18
          try clear c20
          try clear c21
          try clear hcz19_0
          try clear hcz19_1
          try clear hcz8_0
          try clear hcz8_1
          try clear hfz19_0
          try clear hfz19_1
          try clear hfz8_0
          try clear hfz8_1
          obtain ⟨x6_1, x25_1, rfl, HA, HK1, HO_6, HO_23, BK155, BK161, HB⟩ := hrel
          cases gk with
          | zero => exact absurd HA.out (by simp [depgraph_Levels.l0])
          | succ k1 =>
            have H := HA.out
            clear HA
            simp only [depgraph_Levels.l0] at H
            by_cases c23 : x25_1 < (t156.length : Int)
            · rw [if_pos c23] at H
              have c23b0 : decide (x25_1 < (t156.length : Int)) = true := decide_eq_true c23
              clear c23
              by_cases c24 : 0 ≤ x25_1
              · rw [if_pos c24] at H
                have c24b0 : decide (0 ≤ x25_1) = true := decide_eq_true c24
                clear c24
                by_cases c25 : x25_1 < (t156.length : Int)
                · rw [if_pos c25] at H
                  have c25b0 : decide (x25_1 < (t156.length : Int)) = true := decide_eq_true c25
                  clear c25
                  by_cases c26 : 0 ≤ (rd t156 x25_1)
                  · rw [if_pos c26] at H
                    have c26b0 : decide (0 ≤ (rd t156 x25_1)) = true := decide_eq_true c26
                    clear c26
                    by_cases c27 : (rd t156 x25_1) < (l0.length : Int)
                    · rw [if_pos c27] at H
                      have c27b0 : decide ((rd t156 x25_1) < (l0.length : Int)) = true := decide_eq_true c27
                      clear c27
                      have H' := Aside0.mk H
                      clear H
                      have p165 : 0 ≤ (x25_1 : Int) := of_decide_eq_true (by first | (with_reducible assumption) | assumption)
                      have q165 : x25_1 < (t156.length : Int) := of_decide_eq_true (by first | (with_reducible assumption) | assumption)
                      obtain ⟨ad165, e165, hx165_0⟩ := Kd.at_int (Kd.R_reads' HO_23.out).2.2 x25_1 p165 q165
                      cases e165
                      replace p165 := eq_true p165
                      replace q165 := eq_true q165
                      have p166 : 0 ≤ ((rd t156 x25_1) : Int) := of_decide_eq_true (by first | (with_reducible assumption) | assumption)
                      have q166 : (rd t156 x25_1) < (l0.length : Int) := of_decide_eq_true (by first | (with_reducible assumption) | assumption)
                      obtain ⟨ad166, A166_0, c166_0, e166, hx166_0, hl166_0, hi166_0⟩ := at_L1 HR0.out (rd t156 x25_1) p166 q166
                      cases e166
                      replace hx166_0 := (HB.out.cell (World.block_lt_of_cell? w _ hx166_0)).trans hx166_0
                      have HR166_0 := Aside0.mk hi166_0
                      have HC166_0 := Aside0.mk hl166_0
                      clear hi166_0 hl166_0
                      replace p166 := eq_true p166
                      replace q166 := eq_true q166
                      go_wp2
                      go_loopg [34] k1 (fun kq v34 w' => ∃ (x6_2 : List Int) (x34_2 : Int), v34 = .int .i64 x34_2 ∧ Aside0 (depgraph_Levels.l1 kq l0 x6_2 (rd t156 x25_1) t156 (t156.length : Int) x25_1 (rd_L1 l0 (rd t156 x25_1)) ((rd_L1 l0 (rd t156 x25_1)).length : Int) x34_2 = some (r1, r2, r3)) ∧ Aside0 (kq ≤ k1) ∧ Aside0 (Kd.R (Kd.int .i64) 3 w' w.heap.size (fun k_ => some k_ ≠ ((.slice (some ad165) t156.length co22) : Value).ownBlock) v163 x6_2) ∧ Aside0 (Kd.R (Kd.int .i64) 3 w' w.heap.size (fun k_ => some k_ ≠ (v163 : Value).ownBlock) (.slice (some ad165) t156.length co22) t156) ∧ Aside0 (w'.heap[gb155]? = some (.cells #[.int .i64 0, .int .i64 0] 25 (0, 0))) ∧ Aside0 (w'.heap[gb161]? = some (.cells #[.int .i64 t159, .int .i64 t160] 25 (0, 0))) ∧ Aside0 (Below w.heap.size w w'))
                      case atStart => exact ⟨(x6_1), (0), (by first | rfl | (simp; done) | (simp [*]; done)), H', ⟨Nat.le_refl _⟩, ⟨by (with_reducible repeat (first | apply Kd.R_alloc | apply Kd.R_drewN | apply Kd.R_drew)); exact HO_6.out⟩, ⟨by (with_reducible repeat (first | apply Kd.R_alloc | apply Kd.R_drewN | apply Kd.R_drew)); exact HO_23.out⟩, ⟨by (with_reducible repeat (first | refine blk_drewN ?_ _ | refine blk_drew ?_ | refine blk_alloc ?_ _)); exact BK155.out⟩, ⟨by (with_reducible repeat (first | refine blk_drewN ?_ _ | refine blk_drew ?_ | refine blk_alloc ?_ _)); exact BK161.out⟩, ⟨by repeat (first | (with_reducible first | exact HB.out | apply below_alloc | apply pw_below_drewN | apply below_drew1 | refine below_set ?_ GE155.out | refine below_set ?_ GE161.out) | exact HB.out)⟩⟩
                      case round =>
                        clear H'
                        try clear c1
                        try clear p1
                        try clear q1
                        try clear hx1
                        try clear c2
                        try clear p2
                        try clear c3
                        try clear c3b0
                        try clear c7
                        try clear c13
                        try clear c13b0
                        try clear c13b1
                        try clear c14
                        try clear c14b0
                        try clear c14b1
                        try clear c16
                        try clear p16
                        try clear q16
                        try clear hx16
                        try clear c18
                        try clear c20
                        try clear c21
                        try clear c23
                        try clear c23b0
                        try clear c24
                        try clear c24b0
                        try clear c25
                        try clear c25b0
                        try clear c26
                        try clear c26b0
                        try clear c27
                        try clear c27b0
                        try clear hcz19_0
                        try clear hcz19_1
                        try clear hcz8_0
                        try clear hcz8_1
                        try clear hfz19_0
                        try clear hfz19_1
                        try clear hfz8_0
                        try clear hfz8_1
                        try clear hx165_0
                        try clear hx166_0
                        try clear p165
                        try clear p166
                        try clear p2
                        try clear q165
                        try clear q166
                        obtain ⟨x6_2, x34_2, rfl, HA, HK2, HO_6, HO_23, BK155, BK161, HB⟩ := hrel
                        cases gk with
                        | zero => exact absurd HA.out (by simp [depgraph_Levels.l1])
                        | succ k2 =>
                          have H := HA.out
                          clear HA
                          simp only [depgraph_Levels.l1] at H
                          by_cases c28 : x34_2 < ((rd_L1 l0 (rd t156 x25_1)).length : Int)
                          · rw [if_pos c28] at H
                            have c28b0 : decide (x34_2 < ((rd_L1 l0 (rd t156 x25_1)).length : Int)) = true := decide_eq_true c28
                            clear c28
                            by_cases c29 : 0 ≤ x34_2
                            · rw [if_pos c29] at H
                              have c29b0 : decide (0 ≤ x34_2) = true := decide_eq_true c29
                              clear c29
                              by_cases c30 : x34_2 < ((rd_L1 l0 (rd t156 x25_1)).length : Int)
                              · rw [if_pos c30] at H
                                have c30b0 : decide (x34_2 < ((rd_L1 l0 (rd t156 x25_1)).length : Int)) = true := decide_eq_true c30
                                clear c30
                                by_cases c31 : 0 ≤ (rd t156 x25_1)
                                · rw [if_pos c31] at H
                                  have c31b0 : decide (0 ≤ (rd t156 x25_1)) = true := decide_eq_true c31
                                  clear c31
                                  by_cases c32 : (rd t156 x25_1) < (x6_2.length : Int)
                                  · rw [if_pos c32] at H
                                    have c32b0 : decide ((rd t156 x25_1) < (x6_2.length : Int)) = true := decide_eq_true c32
                                    clear c32
                                    by_cases c33 : 0 ≤ (rd (rd_L1 l0 (rd t156 x25_1)) x34_2)
                                    · rw [if_pos c33] at H
                                      have c33b0 : decide (0 ≤ (rd (rd_L1 l0 (rd t156 x25_1)) x34_2)) = true := decide_eq_true c33
                                      clear c33
                                      by_cases c34 : (rd (rd_L1 l0 (rd t156 x25_1)) x34_2) < (x6_2.length : Int)
                                      · rw [if_pos c34] at H
                                        have c34b0 : decide ((rd (rd_L1 l0 (rd t156 x25_1)) x34_2) < (x6_2.length : Int)) = true := decide_eq_true c34
                                        clear c34
                                        obtain ⟨ji35, hji35⟩ : ∃ j_ : Int, (mx (rd x6_2 (rd t156 x25_1)) (wrap64 ((rd x6_2 (rd (rd_L1 l0 (rd t156 x25_1)) x34_2)) + 1))) = j_ := ⟨_, rfl⟩
                                        replace H : (depgraph_Levels.l1 k2 l0 (x6_2.set ((rd t156 x25_1) : Int).toNat (ji35)) (rd t156 x25_1) t156 (t156.length : Int) x25_1 (rd_L1 l0 (rd t156 x25_1)) ((rd_L1 l0 (rd t156 x25_1)).length : Int) (wrap64 (x34_2 + 1))) = some (r1, r2, r3) := by first | (rw [hji35] at H; exact H) | (simp only [hji35] at H ⊢; exact H)
                                        have hji35_ : (if (rd x6_2 (rd t156 x25_1)) < (wrap64 ((rd x6_2 (rd (rd_L1 l0 (rd t156 x25_1)) x34_2)) + 1)) then (wrap64 ((rd x6_2 (rd (rd_L1 l0 (rd t156 x25_1)) x34_2)) + 1)) else (rd x6_2 (rd t156 x25_1))) = ji35 := hji35
                                        obtain ⟨y170, hy170⟩ : ∃ y_ : List Int, y_ = (x6_2.set ((rd t156 x25_1) : Int).toNat (ji35)) := ⟨_, rfl⟩
                                        replace H : (depgraph_Levels.l1 k2 l0 y170 (rd t156 x25_1) t156 (t156.length : Int) x25_1 (rd_L1 l0 (rd t156 x25_1)) ((rd_L1 l0 (rd t156 x25_1)).length : Int) (wrap64 (x34_2 + 1))) = some (r1, r2, r3) := by first | (rw [hy170]; with_reducible exact H) | (have H2_ := (Option.bind_some _ _).symm.trans H; rw [hy170]; with_reducible exact H2_) | (have H2_ := (Option.bind_some _ _).symm.trans H; with_reducible exact H2_) | with_reducible exact H | (rw [hy170]; exact H) | exact H
                                        have Ny170 := Aside0.mk hy170
                                        clear hy170
                                        have H' := Aside0.mk H
                                        clear H
                                        have p167 : 0 ≤ (x34_2 : Int) := of_decide_eq_true (by first | (with_reducible assumption) | assumption)
                                        have q167 : x34_2 < ((rd_L1 l0 (rd t156 x25_1)).length : Int) := of_decide_eq_true (by first | (with_reducible assumption) | assumption)
                                        obtain ⟨ad167, e167, hx167_0⟩ := Kd.at_int HR166_0.out x34_2 p167 q167
                                        cases e167
                                        replace hx167_0 := (HB.out.cell (World.block_lt_of_cell? w _ hx167_0)).trans hx167_0
                                        replace p167 := eq_true p167
                                        replace q167 := eq_true q167
                                        try go_wp2
                                        have n0_ := Aside0.mk (Kd.R_drew HO_6.out)
                                        have n1_ := Aside0.mk (Kd.R_drew HO_23.out)
                                        have n2_ := Aside0.mk (blk_drew BK155.out)
                                        have n3_ := Aside0.mk (blk_drew BK161.out)
                                        have n4_ := Aside0.mk (below_drew1 HB.out)
                                        clear HO_6
                                        clear HO_23
                                        clear BK155
                                        clear BK161
                                        clear HB
                                        have HO_6 := n0_
                                        have HO_23 := n1_
                                        have BK155 := n2_
                                        have BK161 := n3_
                                        have HB := n4_
                                        clear n0_ n1_ n2_ n3_ n4_
                                        obtain ⟨Ao38, co38, eo38⟩ := Kd.R_slice HO_6.out
                                        (first | subst eo38 | (injection eo38 with f1_ f2_ f3_; have f4_ := f1_.symm; have f5_ := f3_.symm; clear f1_ f2_ f3_; subst f4_; subst f5_))
                                        have p168 : 0 ≤ ((rd t156 x25_1) : Int) := of_decide_eq_true (by first | (with_reducible assumption) | assumption)
                                        have q168 : (rd t156 x25_1) < (x6_2.length : Int) := of_decide_eq_true (by first | (with_reducible assumption) | assumption)
                                        obtain ⟨ad168, e168, hx168_0⟩ := Kd.at_int (Kd.R_reads' HO_6.out).2.2 (rd t156 x25_1) p168 q168
                                        cases e168
                                        replace p168 := eq_true p168
                                        replace q168 := eq_true q168
                                        have p169 : 0 ≤ ((rd (rd_L1 l0 (rd t156 x25_1)) x34_2) : Int) := of_decide_eq_true (by first | (with_reducible assumption) | assumption)
                                        have q169 : (rd (rd_L1 l0 (rd t156 x25_1)) x34_2) < (x6_2.length : Int) := of_decide_eq_true (by first | (with_reducible assumption) | assumption)
                                        obtain ⟨ad169, e169, hx169_0⟩ := Kd.at_int (Kd.R_reads' HO_6.out).2.2 (rd (rd_L1 l0 (rd t156 x25_1)) x34_2) p169 q169
                                        obtain rfl : ad168 = ad169 := (by injection e169)
                                        replace p169 := eq_true p169
                                        replace q169 := eq_true q169
                                        have p36 : 0 ≤ ((rd t156 x25_1) : Int) := of_decide_eq_true (by first | (with_reducible assumption) | assumption)
                                        have q36 : ((rd t156 x25_1) : Int) < ((x6_2.length : Int) : Int) := of_decide_eq_true (by first | (with_reducible assumption) | assumption)
                                        obtain ⟨go36, co36, eo36, gb36, gl36, cl36, HG36⟩ := Kd.R_form HO_6.out (by omega)
                                        (first | cases eo36 | (injection eo36 with ea_ en_ ec_; (first | subst ea_ | (injection ea_ with ea_; subst ea_)); subst ec_; clear en_))
                                        have GB36 := Aside0.mk gb36
                                        have GG36 := Aside0.mk HG36
                                        clear gb36 gl36 HG36
                                        (first | simp only [add_plain] at hx168_0 | skip)
                                        (first | simp only [add_plain] at hx169_0 | skip)
                                        obtain ⟨hx36_0, hf36_0⟩ := Kd.R_celln 0 HO_6.out ((rd t156 x25_1) : Int) p36 q36
                                        replace p36 := eq_true p36
                                        replace q36 := eq_true q36
                                        have HP39 := Kd.R_putn HO_6.out ((rd t156 x25_1) : Int) ji35
                                        rw [← Ny170.out] at HP39
                                        have HQ39 := Aside0.mk HP39
                                        clear HP39
                                        refine start_ (n := 14) (S := fun w' => w'.cell? ⟨go36, ((rd t156 x25_1)).toNat, none⟩ = some (.int .i64 (rd x6_2 (rd t156 x25_1))) ∧ w'.cell? ⟨go36, (((rd (rd_L1 l0 (rd t156 x25_1)) x34_2)).toNat), none⟩ = some (.int .i64 (rd x6_2 (rd (rd_L1 l0 (rd t156 x25_1)) x34_2)))) (ds := [13]) #[false, false, false, false, false, false, false, false, false, false, false, false, false, false] (by kernel_rfl) rfl rfl ⟨hx168_0, hx169_0⟩ (fun hHeld => ?_); refine with_tabW depgraph_Levels.tab11 depgraph_Levels.bits11 (fun HT_ HW_ => ?_)
                                        generalize wr.drew = w37 at HO_6 HO_23 BK155 BK161 HB GG36 HQ39 hf36_0 hx168_0 hx169_0 hx36_0 hHeld ⊢
                                        refine pure_ (i := 0) (N := some 38) (v := ?_) (a' := ?_) #[true, false, false, false, false, false, false, false, false, false, false, false, false, false] rfl rfl (any_of HT_.out (by kernel_rfl)) (fun _ _ _ h => h) (Or.inl ⟨by rfl, ?_⟩) ?_ ?_
                                        rotate_left
                                        · intro w'
                                          go_simp
                                          with_reducible rfl
                                        rotate_left
                                        · simp only [Act.put, List.setIfInBounds_toArray, List.set_cons_zero, List.set_cons_succ, i64_w, i32_w]
                                          rfl
                                        refine pure_ (i := 1) (N := some 39) (v := ?_) (a' := ?_) #[true, true, false, false, false, false, false, false, false, false, false, false, false, false] rfl rfl (any_of HT_.out (by kernel_rfl)) (fun _ _ _ h => h) (Or.inl ⟨by rfl, ?_⟩) ?_ ?_
                                        rotate_left
                                        · intro w'
                                          go_simp
                                          with_reducible rfl
                                        rotate_left
                                        · simp only [Act.put, List.setIfInBounds_toArray, List.set_cons_zero, List.set_cons_succ, i64_w, i32_w]
                                          rfl
                                        refine pure_ (i := 2) (N := some 40) (v := ?_) (a' := ?_) #[true, true, true, false, false, false, false, false, false, false, false, false, false, false] rfl rfl (any_of HT_.out (by kernel_rfl)) (fun _ _ _ h => h) (Or.inl ⟨by rfl, ?_⟩) ?_ ?_
                                        rotate_left
                                        · intro w'
                                          go_simp
                                          with_reducible rfl
                                        rotate_left
                                        · simp only [Act.put, List.setIfInBounds_toArray, List.set_cons_zero, List.set_cons_succ, i64_w, i32_w]
                                          rfl
                                        refine pure_ (i := 3) (N := some 41) (v := ?_) (a' := ?_) #[true, true, true, true, false, false, false, false, false, false, false, false, false, false] rfl rfl (any_of HT_.out (by kernel_rfl)) (fun _ _ _ h => h) (Or.inl ⟨by rfl, ?_⟩) ?_ ?_
                                        rotate_left
                                        · intro w'
                                          go_simp
                                          with_reducible rfl
                                        rotate_left
                                        · simp only [Act.put, List.setIfInBounds_toArray, List.set_cons_zero, List.set_cons_succ, i64_w, i32_w]
                                          rfl
                                        refine pure_ (i := 4) (N := some 42) (v := ?_) (a' := ?_) #[true, true, true, true, true, false, false, false, false, false, false, false, false, false] rfl rfl (any_of HT_.out (by kernel_rfl)) (fun _ _ _ h => h) (Or.inl ⟨by rfl, ?_⟩) ?_ ?_
                                        rotate_left
                                        · intro w'
                                          go_simp
                                          with_reducible rfl
                                        rotate_left
                                        · simp only [Act.put, List.setIfInBounds_toArray, List.set_cons_zero, List.set_cons_succ, i64_w, i32_w]
                                          rfl
                                        refine pure_ (i := 6) (N := some 44) (v := ?_) (a' := ?_) #[true, true, true, true, true, false, true, false, false, false, false, false, false, false] rfl rfl (any_of HT_.out (by kernel_rfl)) (fun _ _ _ h => h) (Or.inl ⟨by rfl, ?_⟩) ?_ ?_
                                        rotate_left
                                        · intro w'
                                          go_simp
                                          with_reducible rfl
                                        rotate_left
                                        · simp only [Act.put, List.setIfInBounds_toArray, List.set_cons_zero, List.set_cons_succ, i64_w, i32_w]
                                          rfl
                                        refine pure_ (i := 7) (N := some 45) (v := ?_) (a' := ?_) #[true, true, true, true, true, false, true, true, false, false, false, false, false, false] rfl rfl (any_of HT_.out (by kernel_rfl)) (fun _ _ _ h => h) (Or.inl ⟨by rfl, ?_⟩) ?_ ?_
                                        rotate_left
                                        · intro w'
                                          go_simp
                                          with_reducible rfl
                                        rotate_left
                                        · simp only [Act.put, List.setIfInBounds_toArray, List.set_cons_zero, List.set_cons_succ, i64_w, i32_w]
                                          rfl
                                        refine pure_ (i := 8) (N := some 46) (v := ?_) (a' := ?_) #[true, true, true, true, true, false, true, true, true, false, false, false, false, false] rfl rfl (any_of HT_.out (by kernel_rfl)) (fun _ _ _ h => h) (Or.inl ⟨by rfl, ?_⟩) ?_ ?_
                                        rotate_left
                                        · intro w'
                                          go_simp
                                          with_reducible rfl
                                        rotate_left
                                        · simp only [Act.put, List.setIfInBounds_toArray, List.set_cons_zero, List.set_cons_succ, i64_w, i32_w]
                                          rfl
                                        refine take_ (i := 5) (N := some 43) (v := ?_) (a' := ?_) #[true, true, true, true, true, true, true, true, true, false, false, false, false, false] rfl rfl (take_ofW HT_.out HW_.out (by kernel_rfl)) (fun _ _ _ h => h) (Or.inl ⟨by rfl, ?_⟩) hHeld ?_ ?_
                                        rotate_left
                                        · rintro w' ⟨s0, s1⟩
                                          go_simp
                                          with_reducible rfl
                                        rotate_left
                                        · simp only [Act.put, List.setIfInBounds_toArray, List.set_cons_zero, List.set_cons_succ, i64_w, i32_w]
                                          rfl
                                        refine take_ (i := 9) (N := some 47) (v := ?_) (a' := ?_) #[true, true, true, true, true, true, true, true, true, true, false, false, false, false] rfl rfl (take_ofW HT_.out HW_.out (by kernel_rfl)) (fun _ _ _ h => h) (Or.inl ⟨by rfl, ?_⟩) hHeld ?_ ?_
                                        rotate_left
                                        · rintro w' ⟨s0, s1⟩
                                          go_simp
                                          with_reducible rfl
                                        rotate_left
                                        · simp only [Act.put, List.setIfInBounds_toArray, List.set_cons_zero, List.set_cons_succ, i64_w, i32_w]
                                          rfl
                                        refine pure_ (i := 10) (N := some 48) (v := ?_) (a' := ?_) #[true, true, true, true, true, true, true, true, true, true, true, false, false, false] rfl rfl (any_of HT_.out (by kernel_rfl)) (fun _ _ _ h => h) (Or.inl ⟨by rfl, ?_⟩) ?_ ?_
                                        rotate_left
                                        · intro w'
                                          go_simp
                                          with_reducible rfl
                                        rotate_left
                                        · simp only [Act.put, List.setIfInBounds_toArray, List.set_cons_zero, List.set_cons_succ, i64_w, i32_w]
                                          rfl
                                        refine pure_ (i := 11) (N := some 49) (v := ?_) (a' := ?_) #[true, true, true, true, true, true, true, true, true, true, true, true, false, false] rfl rfl (any_of HT_.out (by kernel_rfl)) (fun _ _ _ h => h) (Or.inl ⟨by rfl, ?_⟩) ?_ ?_
                                        rotate_left
                                        · intro w'
                                          go_simp
                                          with_reducible rfl
                                        rotate_left
                                        · simp only [Act.put, List.setIfInBounds_toArray, List.set_cons_zero, List.set_cons_succ, i64_w, i32_w]
                                          rfl
                                        refine pure_ (i := 12) (N := some 50) (v := ?_) (a' := ?_) #[true, true, true, true, true, true, true, true, true, true, true, true, true, false] rfl rfl (any_of HT_.out (by kernel_rfl)) (fun _ _ _ h => h) (Or.inl ⟨by rfl, ?_⟩) ?_ ?_
                                        rotate_left
                                        · intro w'
                                          go_simp
                                          with_reducible rfl
                                        rotate_left
                                        · simp only [Act.put, List.setIfInBounds_toArray, List.set_cons_zero, List.set_cons_succ, i64_w, i32_w]
                                          rfl
                                        refine last_ (i := 13) (N := none) #[true, true, true, true, true, true, true, true, true, true, true, true, true, true] rfl rfl (one_of HT_.out (by kernel_rfl)) (by decide) (fun K hK => ?_)
                                        refine skip_ (w1 := ?_) (by rfl) rfl ?_ ?_
                                        rotate_left
                                        · go_simp
                                          rfl
                                        refine hK.out _ _ ?_
                                        clear hK K
                                        refine done_ (done_of HT_.out (by kernel_rfl)) ?_
                                        try go_wp2
                                        go_roundg k2
                                        case measure => have := HK1.out; have := HK2.out; omega
                                        case rel => exact ⟨(y170), (wrap64 (x34_2 + 1)), (by first | rfl | (simp; done) | (simp [*]; done)), H', ⟨by have := HK1.out; have := HK2.out; omega⟩, ⟨by (with_reducible repeat (first | apply Kd.R_alloc | apply Kd.R_drewN | apply Kd.R_drew)); exact HQ39.out⟩, ⟨by (with_reducible repeat (first | apply Kd.R_alloc | apply Kd.R_drewN | apply Kd.R_drew)); exact Kd.R_mono (Kd.R_far (p := ⟨go36, ((rd t156 x25_1) : Int).toNat, none⟩) (Kd.R_mono HO_23.out (fun k_ hk => (⟨hk, fun e_ => hk (by rw [e_]; rfl)⟩ : _ ∧ k_ ≠ go36))) (fun _ hk => hk.2) (.int .i64 ji35)) (fun _ hk => hk.1)⟩, ⟨by (with_reducible repeat (first | refine blk_drewN ?_ _ | refine blk_drew ?_ | refine blk_alloc ?_ _)); refine blk_far ?_ (by have h_ := Kd.R_ne HO_6.out BK155.out (by decide); intro e_; exact h_ (by rw [e_]; rfl)) _; (with_reducible repeat (first | refine blk_drewN ?_ _ | refine blk_drew ?_ | refine blk_alloc ?_ _)); exact BK155.out⟩, ⟨by (with_reducible repeat (first | refine blk_drewN ?_ _ | refine blk_drew ?_ | refine blk_alloc ?_ _)); refine blk_far ?_ (by have h_ := Kd.R_ne HO_6.out BK161.out (by decide); intro e_; exact h_ (by rw [e_]; rfl)) _; (with_reducible repeat (first | refine blk_drewN ?_ _ | refine blk_drew ?_ | refine blk_alloc ?_ _)); exact BK161.out⟩, ⟨by repeat (first | (with_reducible first | exact HB.out | apply below_alloc | apply pw_below_drewN | apply below_drew1 | refine below_set ?_ GB36.out | refine below_set ?_ GE155.out | refine below_set ?_ GE161.out) | exact HB.out)⟩⟩
                                      · rw [if_neg c34] at H
                                        exact absurd H (by simp)
                                    · rw [if_neg c33] at H
                                      exact absurd H (by simp)
                                  · rw [if_neg c32] at H
                                    exact absurd H (by simp)
                                · rw [if_neg c31] at H
                                  exact absurd H (by simp)
                              · rw [if_neg c30] at H
                                exact absurd H (by simp)
                            · rw [if_neg c29] at H
                              exact absurd H (by simp)
                          · rw [if_neg c28] at H
                            have c28b0 : decide (x34_2 < ((rd_L1 l0 (rd t156 x25_1)).length : Int)) = false := decide_eq_false c28
                            clear c28
                            have H' := Aside0.mk H
                            clear H
                            go_wp2
                            go_roundg k2
                            case measure => have := HK1.out; have := HK2.out; omega
                            case rel => exact ⟨(x6_2), (wrap64 (x25_1 + 1)), (by first | rfl | (simp; done) | (simp [*]; done)), H', ⟨by have := HK1.out; have := HK2.out; omega⟩, ⟨by (with_reducible repeat (first | apply Kd.R_alloc | apply Kd.R_drewN | apply Kd.R_drew)); exact HO_6.out⟩, ⟨by (with_reducible repeat (first | apply Kd.R_alloc | apply Kd.R_drewN | apply Kd.R_drew)); exact HO_23.out⟩, ⟨by (with_reducible repeat (first | refine blk_drewN ?_ _ | refine blk_drew ?_ | refine blk_alloc ?_ _)); exact BK155.out⟩, ⟨by (with_reducible repeat (first | refine blk_drewN ?_ _ | refine blk_drew ?_ | refine blk_alloc ?_ _)); exact BK161.out⟩, ⟨by repeat (first | (with_reducible first | exact HB.out | apply below_alloc | apply pw_below_drewN | apply below_drew1 | refine below_set ?_ GE155.out | refine below_set ?_ GE161.out) | exact HB.out)⟩⟩
                    · rw [if_neg c27] at H
                      exact absurd H (by simp)
                  · rw [if_neg c26] at H
                    exact absurd H (by simp)
                · rw [if_neg c25] at H
                  exact absurd H (by simp)
              · rw [if_neg c24] at H
                exact absurd H (by simp)
            · rw [if_neg c23] at H
              have c23b0 : decide (x25_1 < (t156.length : Int)) = false := decide_eq_false c23
              clear c23
              simp only [Option.some.injEq, Prod.mk.injEq] at H
              obtain ⟨rfl, rfl, rfl⟩ := H
              have hnb40 := NB155_161.out
              have hnc40 := NB161_155.out
              have hcz41_0 : wr.cell? ⟨gb155, 0, none⟩ = some (.int .i64 0) := (blk_cell BK155.out 0).trans rfl
              have hcz41_1 : wr.cell? ⟨gb155, 1, none⟩ = some (.int .i64 0) := (blk_cell BK155.out 1).trans rfl
              have hfz41_0 := blk_frozen BK155.out 0
              have hfz41_1 := blk_frozen BK155.out 1
              go_wp2
              refine bodyPost_ret (results_tc rfl _ _ gb155 25 #[.int .i64 0, .int .i64 0] (0, 0) _ rfl (by (with_reducible repeat (first | refine blk_drewN ?_ _ | refine blk_drew ?_ | refine blk_alloc ?_ _)); refine blk_put (cs := #[.int .i64 0, .int .i64 0]) ?_ 1 _ rfl; (with_reducible repeat (first | refine blk_drewN ?_ _ | refine blk_drew ?_ | refine blk_alloc ?_ _)); refine blk_put (cs := #[.int .i64 0, .int .i64 0]) ?_ 0 _ rfl; (with_reducible repeat (first | refine blk_drewN ?_ _ | refine blk_drew ?_ | refine blk_alloc ?_ _)); exact BK155.out) Try.underlying25 rfl (by kernel_rfl)) rfl ?_
              exact ⟨_, by first | rfl | (simp [errW_none, errW_some] <;> rfl) | (simp [*, errW_none, errW_some] <;> rfl), by (with_reducible repeat (first | apply Kd.R_alloc | apply Kd.R_drewN | apply Kd.R_drew)); exact Kd.R_mono (Kd.R_far (p := ⟨gb155, 1, none⟩) (Kd.R_far (p := ⟨gb155, 0, none⟩) (Kd.R_types HO_6.out BK155.out (by decide)) (fun _ hk => hk.2) (.int .i64 0)) (fun _ hk => hk.2) (.int .i64 0)) (fun _ hk => trivial), by repeat (first | (with_reducible first | exact HB.out | apply below_alloc | apply pw_below_drewN | apply below_drew1 | refine below_set ?_ GE155.out | refine below_set ?_ GE161.out) | exact HB.out)⟩
      · rw [if_neg c14] at H
        exact absurd H (by simp)
    · rw [if_neg c13] at H
      exact absurd H (by simp)

end Go.Proofs.Ytffcaglfcnmhdaa.H
end
section
namespace Go.Proofs.Ytffcaglfcnmhdaa.H
open Go.RowKit Go.Proofs.YtffcaglfcnmhdaaW.PrintWords Go.Proofs.YtffcaglfcnmhdaaW.PrintLast Go.Proofs.YtffcaglfcnmhdaaW.PrintMore
set_option linter.unusedVariables false
set_option linter.unusedSimpArgs false
open Go.RowKit
set_option maxHeartbeats 4000000 in
theorem affC_calls (w : World) (gi gr : Nat) (i : Int) (Ar : Option Addr) (cr : Nat) (rs : List Bool) (x : Int) (h0 : 0 ≤ x) (h1 : x < (rs.length : Int)) (ci : w.cell? ⟨gi, 0, none⟩ = some (.int .i64 i)) (ck : w.cell? ⟨gr, 0, none⟩ = some (.slice Ar rs.length cr)) (hr : Kd.C Kd.bool w Ar rs.length rs) :
    Calls Try.prog 38 #[.int .i64 x, .pointer (some ⟨gi, 0, none⟩), .pointer (some ⟨gr, 0, none⟩)] w fun e w' => e = .returned (.bool (x == i || rdOf false rs x)) ∧ Below w.heap.size w w' := by
  obtain ⟨ad, rfl, hx⟩ := Kd.at_bool hr x h0 h1
  clear hr
  by_cases hxi : x = i
  · have b0 : (x == i) = true := beq_iff_eq.mpr hxi
    rw [b0]
    clear hxi
    go_enter Try.func38, Try.ntmps38
    go_wp2
    go_ret
    exact ⟨rfl, Below.refl _ _⟩
  · have b0 : (x == i) = false := beq_eq_false_iff_ne.mpr hxi
    rw [b0]
    clear hxi
    have p0 := eq_true h0
    have p1 := eq_true h1
    clear h0 h1
    go_enter Try.func38, Try.ntmps38
    go_wp2
    go_ret
    exact ⟨rfl, Below.refl _ _⟩
end Go.Proofs.Ytffcaglfcnmhdaa.H
end
section
namespace Go.Proofs.Ytffcaglfcnmhdaa.H
open Go.RowKit Go.Proofs.YtffcaglfcnmhdaaW.PrintWords Go.Proofs.YtffcaglfcnmhdaaW.PrintLast Go.Proofs.YtffcaglfcnmhdaaW.PrintMore
set_option linter.unusedVariables false
set_option linter.unusedSimpArgs false
open Go.RowKit
section
variable {P : Program} {ops : Array Oper} {Q : Exit → Act → World → Prop} {rest : List Oper} {o : Oper} {a : Act} {W : World}
theorem put1 {t ty : TypeId} {p : Tmp} {v : Operand} (g : Nat) (u0 u : Value) (hb : W.heap[g]? = some (.cells #[u0] ty (0, 0))) (hgd : o.guard = none) (ho : o.op = .store t (.tmp p) v) (hN : o.dst = none) (hrun : (execOp a.eval o).run P W = .ok .skip (W.setCell ⟨g, 0, none⟩ u))
    (h : ∀ w1, w1.heap[g]? = some (.cells #[u] ty (0, 0)) → (∀ k, k ≠ g → w1.heap[k]? = W.heap[k]?) → (∀ {B : Nat} {w0 : World}, Below B w0 W → B ≤ g → Below B w0 w1) → wpList P ops Q rest a w1) : wpList P ops Q (o :: rest) a W :=
  store_event hgd ho hN hrun (fun w1 he => h w1 (by rw [he]; exact blk_put hb 0 _ rfl) (fun k hk => by rw [he]; exact Below.heap_setCell _ ⟨g, 0, none⟩ _ k hk) (fun hB hg => by rw [he]; exact hB.setCell (p := ⟨g, 0, none⟩) hg _))
theorem put2 {t ty : TypeId} {p : Tmp} {v : Operand} (g : Nat) (v0 v1 u0 u1 : Value) (hb : W.heap[g]? = some (.cells #[v0, v1] ty (0, 0))) (hgd : o.guard = none) (ho : o.op = .store t (.tmp p) v) (hN : o.dst = none) (hrun : (execOp a.eval o).run P W = .ok .skip ((W.setCell ⟨g, 0, none⟩ u0).setCell ⟨g, 1, none⟩ u1))
    (h : ∀ w1, w1.heap[g]? = some (.cells #[u0, u1] ty (0, 0)) → (∀ k, k ≠ g → w1.heap[k]? = W.heap[k]?) → (∀ {B : Nat} {w0 : World}, Below B w0 W → B ≤ g → Below B w0 w1) → wpList P ops Q rest a w1) : wpList P ops Q (o :: rest) a W :=
  store_event hgd ho hN hrun (fun w1 he => h w1 (by rw [he]; exact blk_put (cs := #[u0, v1]) (blk_put hb 0 _ rfl) 1 _ rfl) (fun k hk => by rw [he]; exact (Below.heap_setCell _ ⟨g, 1, none⟩ _ k hk).trans (Below.heap_setCell _ ⟨g, 0, none⟩ _ k hk)) (fun hB hg => by rw [he]; exact (hB.setCell (p := ⟨g, 0, none⟩) hg _).setCell (p := ⟨g, 1, none⟩) hg _))
theorem putE {t : TypeId} {p : Tmp} {v : Operand} (g j : Nat) (u : Value) (hgd : o.guard = none) (ho : o.op = .store t (.tmp p) v) (hN : o.dst = none) (hrun : (execOp a.eval o).run P W = .ok .skip (W.setCell ⟨g, j, none⟩ u))
    (h : ∀ w1, Aside0 (w1 = W.setCell ⟨g, j, none⟩ u) → (∀ k, k ≠ g → w1.heap[k]? = W.heap[k]?) → (∀ {B : Nat} {w0 : World}, Below B w0 W → B ≤ g → Below B w0 w1) → wpList P ops Q rest a w1) : wpList P ops Q (o :: rest) a W :=
  store_event hgd ho hN hrun (fun w1 he => h w1 ⟨he⟩ (fun k hk => by rw [he]; exact Below.heap_setCell _ ⟨g, j, none⟩ _ k hk) (fun hB hg => by rw [he]; exact hB.setCell (p := ⟨g, j, none⟩) hg _))
end
end Go.Proofs.Ytffcaglfcnmhdaa.H
end
section
namespace Go.Proofs.Ytffcaglfcnmhdaa.H
open Go.RowKit Go.Proofs.YtffcaglfcnmhdaaW.PrintWords Go.Proofs.YtffcaglfcnmhdaaW.PrintLast Go.Proofs.YtffcaglfcnmhdaaW.PrintMore
set_option linter.unusedVariables false
set_option linter.unusedSimpArgs false
open Go.RowKit
attribute [local go_sem high] eqA25
def depgraph_Affected.l0 : Nat → List (List Int) → List Int → List Int → Int → Option (List Int)
  | 0, _, _, _, _ => none
  | k + 1, x0, x1, x8, x27 => if x27 < (x0.length : Int) then ((depgraph_reach.f k x0 x27).bind fun t32 => (if (x1.all fun x => decide (0 ≤ x) && decide (x < (t32.length : Int))) = true then (if (x1.any fun x => x == x27 || rdOf false t32 x) = true then (if x8.length < 17592186044416 then (depgraph_Affected.l0 k x0 x1 (x8 ++ [x27]) (wrap64 (x27 + 1))) else none) else (depgraph_Affected.l0 k x0 x1 x8 (wrap64 (x27 + 1)))) else none)) else some x8
def depgraph_Affected.f (k : Nat) (l0 : List (List Int)) (l1 : List Int) : Option (List Int × Int × Int) := (depgraph_Validate.f k l0).bind fun bt => if (!(bt.1 == 0) || !(bt.2 == 0)) = true then some ([], bt.1, bt.2) else (depgraph_list.f k (l0.length : Int) l1).bind fun t20 => if t20 = 0 then (depgraph_Affected.l0 k l0 l1 [] 0).bind fun o => some (o, 0, 0) else some ([], t20, -2)
theorem depgraph_Affected.mono_l : ∀ k, (∀ y0 y1 y2 y3, LeO (depgraph_Affected.l0 k y0 y1 y2 y3) (depgraph_Affected.l0 (k + 1) y0 y1 y2 y3))
  | 0 => fun _ _ _ _ r h => by simp [depgraph_Affected.l0] at h
  | k + 1 => by
    have ih0 := depgraph_Affected.mono_l k
    · intro y0 y1 y2 y3
      unfold depgraph_Affected.l0
      repeat' first
      | (with_reducible exact ih0 _ _ _ _)
      | (with_reducible exact depgraph_reach.mono _ _ _)
      | (with_reducible exact LeO.refl _)
      | (with_reducible exact LeO.none _)
      | (with_reducible refine LeO.ite ?_ ?_)
      | (with_reducible refine LeO.bind ?_ (fun _ => ?_))
theorem depgraph_Affected.mono : ∀ a0 a1 k, LeO (depgraph_Affected.f k a0 a1) (depgraph_Affected.f (k + 1) a0 a1) := by
  intro a0 a1 k
  unfold depgraph_Affected.f
  repeat' first
      | (with_reducible exact depgraph_Validate.mono _ _)
      | (with_reducible exact depgraph_list.mono _ _ _)
      | (with_reducible exact depgraph_Affected.mono_l _ _ _ _ _)
      | (with_reducible exact LeO.refl _)
      | (with_reducible exact LeO.none _)
      | (with_reducible refine LeO.ite ?_ ?_)
      | (with_reducible refine LeO.bind ?_ (fun _ => ?_))
theorem aff_contains (g9 g10 : Nat) (i : Int) (vr : Value) (rs : List Bool) (A : Option Addr) (c : Nat) (l : List Int) (w : World) (hr : Kd.C (Kd.int .i64) w A l.length l) (hall : (l.all fun x => decide (0 ≤ x) && decide (x < (rs.length : Int))) = true)
    (h9 : w.heap[g9]? = some (.cells #[.int .i64 i] 3 (0, 0))) (h10 : w.heap[g10]? = some (.cells #[vr] 51 (0, 0))) {base : Nat} {ok : Nat → Prop} (hv : Kd.R Kd.bool 4 w base ok vr rs) :
    Calls Try.prog 37 #[.slice A l.length c, .func (.func 38) #[] #[.pointer (some ⟨g9, 0, none⟩), .pointer (some ⟨g10, 0, none⟩)]] w fun e w' => e = .returned (.bool (l.any fun x => x == i || rdOf false rs x)) ∧ Below w.heap.size w w' := by
  refine ContainsFunc_calls 38 #[.pointer (some ⟨g9, 0, none⟩), .pointer (some ⟨g10, 0, none⟩)] (fun args w => enters_ Try.func38 (by kernel_rfl) rfl args w) (fun x => x == i || rdOf false rs x) A c l w hr ?_
  intro j hj w1 hb
  have hx : rd l (j : Int) ∈ l := by simp [rd, List.getD_eq_getElem?_getD, hj]
  have h2 := List.all_eq_true.1 hall _ hx
  rw [Bool.and_eq_true, decide_eq_true_eq, decide_eq_true_eq] at h2
  obtain ⟨Ar, cr, rfl, hl, hC⟩ := Kd.R_reads hv
  exact affC_calls w1 g9 g10 i Ar cr rs (rd l (j : Int)) h2.1 h2.2 ((blk_cell (blk_below h9 hb) 0).trans rfl) ((blk_cell (blk_below h10 hb) 0).trans rfl) (Kd.C_below hC hb)
set_option maxHeartbeats 8000000 in
set_option maxRecDepth 100000 in
theorem depgraph_Affected.calls (k : Nat) (A0 : Option Addr) (c0 : Nat) (l0 : List (List Int)) (A1 : Option Addr) (c1 : Nat) (l1 : List Int) (r1 : List Int) (r2 : Int) (r3 : Int) (w : World) (hr0 : Kd.C (Kd.slice 3 (Kd.int .i64)) w A0 l0.length l0) (hc0 : l0.length ≤ c0) (hr1 : Kd.C (Kd.int .i64) w A1 l1.length l1) (hc1 : l1.length ≤ c1) (h : depgraph_Affected.f k l0 l1 = some (r1, r2, r3)) :
    Calls Try.prog 17 #[.slice A0 l0.length c0, .slice A1 l1.length c1] w fun e w' => ∃ v0_ : Value, e = .returned (.tuple #[v0_, .agg #[.int .i64 r2, .int .i64 r3]]) ∧ Kd.R (Kd.int .i64) 3 w' w.heap.size (fun _ => True) v0_ r1 ∧ Below w.heap.size w w' := by
  have hu25 := Try.underlying25
  have HR0 := Aside0.mk hr0
  have HC0 := Aside0.mk hc0
  have HR1 := Aside0.mk hr1
  have HC1 := Aside0.mk hc1
  clear hr0 hc0 hr1 hc1
  have HB := Aside0.mk (Below.refl w.heap.size w)
  unfold depgraph_Affected.f at h
  have H := h
  clear h
  replace H := Option.bind_eq_some_iff.mp H
  obtain ⟨⟨t155, t156⟩, A20, H⟩ := H
  have A2 := Aside0.mk A20
  clear A20
  simp only [] at H
  by_cases c3 : (!(t155 == 0) || (!(t156 == 0))) = true
  · rw [if_pos c3] at H
    simp only [Option.some.injEq, Prod.mk.injEq] at H
    obtain ⟨rfl, rfl, rfl⟩ := H
    go_enter Try.func17, Try.ntmps17
    go_wp2_with (first | ((with_reducible refine gate_dst (N := 5) rfl ?_); refine box_event ?hg (N := 5) ?hd (cs := #[.int .i64 0, .int .i64 0]) (t := 25) ?hr ?_; (case hd => rfl); (case hg => rfl); (case hr => first | (go_simp; done) | (go_simp; rfl)); intro gb5 hg w1 hbox hb; have GE5 := Aside0.mk ((by rw [hg]; exact (below_size (by repeat (first | (with_reducible first | exact HB.out | apply below_alloc | apply pw_below_drewN | apply below_drew1) | exact HB.out))) : w.heap.size ≤ gb5)); have n0_ := Aside0.mk (below_step (by repeat (first | (with_reducible first | exact HB.out | apply below_alloc | apply pw_below_drewN | apply below_drew1) | exact HB.out)) hb); clear HB; have HB := n0_; clear n0_; have BK5 := Aside0.mk hbox; clear hb hbox hg; have hz5_0 : w1.cell? ⟨gb5, 0, none⟩ = some (.int .i64 0) := (blk_cell BK5.out 0).trans rfl; have hf5_0 := blk_frozen BK5.out 0; have hz5_1 : w1.cell? ⟨gb5, 1, none⟩ = some (.int .i64 0) := (blk_cell BK5.out 1).trans rfl; have hf5_1 := blk_frozen BK5.out 1) | (go_at_call 11; (with_reducible refine (depgraph_Validate.calls k _ _ l0 t155 t156 _ ?side1 ?side2 A2.out).mono ?_); (case side1 => exact Kd.C_below HR0.out (by repeat (first | (with_reducible first | exact HB.out | apply below_alloc | apply pw_below_drewN | apply below_drew1 | refine below_set ?_ GE5.out) | exact HB.out))); (case side2 => exact HC0.out); rintro e w2 ⟨rfl, hb⟩; (try clear hz5_0); (try clear hf5_0); (try clear hz5_1); (try clear hf5_1); have n0_ := Aside0.mk (blk_below (g := gb5) (o := (.cells #[.int .i64 0, .int .i64 0] 25 (0, 0))) (by (with_reducible repeat (first | refine blk_drewN ?_ _ | refine blk_drew ?_ | refine blk_alloc ?_ _)); exact BK5.out) hb); have n1_ := Aside0.mk (below_step (by repeat (first | (with_reducible first | exact HB.out | apply below_alloc | apply pw_below_drewN | apply below_drew1 | refine below_set ?_ GE5.out) | exact HB.out)) hb); clear BK5; clear HB; have BK5 := n0_; have HB := n1_; clear n0_ n1_; clear hb; have hz5_0 : w2.cell? ⟨gb5, 0, none⟩ = some (.int .i64 0) := (blk_cell BK5.out 0).trans rfl; have hf5_0 := blk_frozen BK5.out 0; have hz5_1 : w2.cell? ⟨gb5, 1, none⟩ = some (.int .i64 0) := (blk_cell BK5.out 1).trans rfl; have hf5_1 := blk_frozen BK5.out 1) | ((with_reducible refine gate_dst (N := 6) rfl ?_); refine box_event ?hg (N := 6) ?hd (cs := #[.int .i64 0, .int .i64 0]) (t := 25) ?hr ?_; (case hd => rfl); (case hg => rfl); (case hr => first | (go_simp; done) | (go_simp; rfl)); intro gb6 hg w3 hbox hb; (try clear hz5_0); (try clear hf5_0); (try clear hz5_1); (try clear hf5_1); have GE6 := Aside0.mk ((by rw [hg]; exact (below_size (by repeat (first | (with_reducible first | exact HB.out | apply below_alloc | apply pw_below_drewN | apply below_drew1 | refine below_set ?_ GE5.out) | exact HB.out))) : w.heap.size ≤ gb6)); have NB5_6 := Aside0.mk ((by rw [hg]; exact Nat.ne_of_lt (blk_lt (g := gb5) (o := (.cells #[.int .i64 0, .int .i64 0] 25 (0, 0))) (by (with_reducible repeat (first | refine blk_drewN ?_ _ | refine blk_drew ?_ | refine blk_alloc ?_ _)); exact BK5.out)) : gb5 ≠ gb6)); have NB6_5 := Aside0.mk (Ne.symm NB5_6.out); have n0_ := Aside0.mk (blk_below (g := gb5) (o := (.cells #[.int .i64 0, .int .i64 0] 25 (0, 0))) (by (with_reducible repeat (first | refine blk_drewN ?_ _ | refine blk_drew ?_ | refine blk_alloc ?_ _)); exact BK5.out) hb); have n1_ := Aside0.mk (below_step (by repeat (first | (with_reducible first | exact HB.out | apply below_alloc | apply pw_below_drewN | apply below_drew1 | refine below_set ?_ GE5.out) | exact HB.out)) hb); clear BK5; clear HB; have BK5 := n0_; have HB := n1_; clear n0_ n1_; have BK6 := Aside0.mk hbox; clear hb hbox hg; have hz5_0 : w3.cell? ⟨gb5, 0, none⟩ = some (.int .i64 0) := (blk_cell BK5.out 0).trans rfl; have hf5_0 := blk_frozen BK5.out 0; have hz5_1 : w3.cell? ⟨gb5, 1, none⟩ = some (.int .i64 0) := (blk_cell BK5.out 1).trans rfl; have hf5_1 := blk_frozen BK5.out 1; have hz6_0 : w3.cell? ⟨gb6, 0, none⟩ = some (.int .i64 0) := (blk_cell BK6.out 0).trans rfl; have hf6_0 := blk_frozen BK6.out 0; have hz6_1 : w3.cell? ⟨gb6, 1, none⟩ = some (.int .i64 0) := (blk_cell BK6.out 1).trans rfl; have hf6_1 := blk_frozen BK6.out 1) | ((with_reducible refine gate_store (t := 25) (p := 6) rfl ?_); refine put2 (t := 25) (p := 6) (v := ?vo_w4) gb6 (.int .i64 0) (.int .i64 0) (.int .i64 t155) (.int .i64 t156) (by (with_reducible repeat (first | refine blk_drewN ?_ _ | refine blk_drew ?_ | refine blk_alloc ?_ _)); exact BK6.out) ?hg ?ho ?hn ?hr ?_; (case ho => rfl); (case hg => rfl); (case hn => rfl); (case hr => first | (go_simp; done) | (go_simp; rfl)); intro w4 hbk_ hfar_ hbel_; (try clear hz5_0); (try clear hf5_0); (try clear hz5_1); (try clear hf5_1); (try clear hz6_0); (try clear hf6_0); (try clear hz6_1); (try clear hf6_1); have n0_ := Aside0.mk ((hfar_ gb5 NB5_6.out).trans (show _ = some (.cells #[.int .i64 0, .int .i64 0] 25 (0, 0)) from by (with_reducible repeat (first | refine blk_drewN ?_ _ | refine blk_drew ?_ | refine blk_alloc ?_ _)); exact BK5.out)); have n1_ := Aside0.mk (hbk_); have n2_ := Aside0.mk (hbel_ (by repeat (first | (with_reducible first | exact HB.out | apply below_alloc | apply pw_below_drewN | apply below_drew1 | refine below_set ?_ GE5.out | refine below_set ?_ GE6.out) | exact HB.out)) GE6.out); clear BK5; clear BK6; clear HB; have BK5 := n0_; have BK6 := n1_; have HB := n2_; clear n0_ n1_ n2_; clear hbk_ hfar_ hbel_; have hz5_0 : w4.cell? ⟨gb5, 0, none⟩ = some (.int .i64 0) := (blk_cell BK5.out 0).trans rfl; have hf5_0 := blk_frozen BK5.out 0; have hz5_1 : w4.cell? ⟨gb5, 1, none⟩ = some (.int .i64 0) := (blk_cell BK5.out 1).trans rfl; have hf5_1 := blk_frozen BK5.out 1; have hz6_0 : w4.cell? ⟨gb6, 0, none⟩ = some (.int .i64 t155) := (blk_cell BK6.out 0).trans rfl; have hf6_0 := blk_frozen BK6.out 0; have hz6_1 : w4.cell? ⟨gb6, 1, none⟩ = some (.int .i64 t156) := (blk_cell BK6.out 1).trans rfl; have hf6_1 := blk_frozen BK6.out 1))
    go_region
    all_goals (try go_wp2)
    all_goals refine bodyPost_ret (results_tc rfl _ _ gb5 25 #[.int .i64 t155, .int .i64 t156] (0, 0) _ rfl (by (with_reducible repeat (first | refine blk_drewN ?_ _ | refine blk_drew ?_ | refine blk_alloc ?_ _)); exact blk_put (cs := #[.int .i64 t155, .int .i64 0]) (by (with_reducible repeat (first | refine blk_drewN ?_ _ | refine blk_drew ?_ | refine blk_alloc ?_ _)); exact blk_put (cs := #[.int .i64 0, .int .i64 0]) (by (with_reducible repeat (first | refine blk_drewN ?_ _ | refine blk_drew ?_ | refine blk_alloc ?_ _)); exact BK5.out) 0 _ rfl) 1 _ rfl) Try.underlying25 rfl (by kernel_rfl)) rfl ?_
    all_goals exact ⟨_, rfl, Kd.R_nil _ _ _ _ _, by repeat (first | (with_reducible first | exact HB.out | apply below_alloc | apply pw_below_drewN | apply below_drew1 | refine below_set ?_ GE5.out | refine below_set ?_ GE6.out) | exact HB.out)⟩
  · rw [if_neg c3] at H
    have c3b0 : (!(t155 == 0) || (!(t156 == 0))) = false := by simpa using c3
    clear c3
    replace H := Option.bind_eq_some_iff.mp H
    obtain ⟨t20, A70, H⟩ := H
    have A7 := Aside0.mk A70
    clear A70
    (try simp only [] at H)
    by_cases c4 : t20 = 0
    · rw [if_pos c4] at H
      have c4b0 : (t20 != 0) = false := bne_eq_false_iff_eq.mpr c4
      subst c4
      replace H := Option.bind_eq_some_iff.mp H
      obtain ⟨t8, A80, H⟩ := H
      have A8 := Aside0.mk A80
      clear A80
      simp only [Option.some.injEq, Prod.mk.injEq] at H
      obtain ⟨rfl, rfl, rfl⟩ := H
      go_enter Try.func17, Try.ntmps17
      go_wp2_with (first | ((with_reducible refine gate_dst (N := 5) rfl ?_); refine box_event ?hg (N := 5) ?hd (cs := #[.int .i64 0, .int .i64 0]) (t := 25) ?hr ?_; (case hd => rfl); (case hg => rfl); (case hr => first | (go_simp; done) | (go_simp; rfl)); intro gb5 hg w1 hbox hb; have GE5 := Aside0.mk ((by rw [hg]; exact (below_size (by repeat (first | (with_reducible first | exact HB.out | apply below_alloc | apply pw_below_drewN | apply below_drew1) | exact HB.out))) : w.heap.size ≤ gb5)); have n0_ := Aside0.mk (below_step (by repeat (first | (with_reducible first | exact HB.out | apply below_alloc | apply pw_below_drewN | apply below_drew1) | exact HB.out)) hb); clear HB; have HB := n0_; clear n0_; have BK5 := Aside0.mk hbox; clear hb hbox hg; have hz5_0 : w1.cell? ⟨gb5, 0, none⟩ = some (.int .i64 0) := (blk_cell BK5.out 0).trans rfl; have hf5_0 := blk_frozen BK5.out 0; have hz5_1 : w1.cell? ⟨gb5, 1, none⟩ = some (.int .i64 0) := (blk_cell BK5.out 1).trans rfl; have hf5_1 := blk_frozen BK5.out 1) | (go_at_call 11; (with_reducible refine (depgraph_Validate.calls k _ _ l0 t155 t156 _ ?side1 ?side2 A2.out).mono ?_); (case side1 => exact Kd.C_below HR0.out (by repeat (first | (with_reducible first | exact HB.out | apply below_alloc | apply pw_below_drewN | apply below_drew1 | refine below_set ?_ GE5.out) | exact HB.out))); (case side2 => exact HC0.out); rintro e w2 ⟨rfl, hb⟩; (try clear hz5_0); (try clear hf5_0); (try clear hz5_1); (try clear hf5_1); have n0_ := Aside0.mk (blk_below (g := gb5) (o := (.cells #[.int .i64 0, .int .i64 0] 25 (0, 0))) (by (with_reducible repeat (first | refine blk_drewN ?_ _ | refine blk_drew ?_ | refine blk_alloc ?_ _)); exact BK5.out) hb); have n1_ := Aside0.mk (below_step (by repeat (first | (with_reducible first | exact HB.out | apply below_alloc | apply pw_below_drewN | apply below_drew1 | refine below_set ?_ GE5.out) | exact HB.out)) hb); clear BK5; clear HB; have BK5 := n0_; have HB := n1_; clear n0_ n1_; clear hb; have hz5_0 : w2.cell? ⟨gb5, 0, none⟩ = some (.int .i64 0) := (blk_cell BK5.out 0).trans rfl; have hf5_0 := blk_frozen BK5.out 0; have hz5_1 : w2.cell? ⟨gb5, 1, none⟩ = some (.int .i64 0) := (blk_cell BK5.out 1).trans rfl; have hf5_1 := blk_frozen BK5.out 1) | ((with_reducible refine gate_dst (N := 6) rfl ?_); refine box_event ?hg (N := 6) ?hd (cs := #[.int .i64 0, .int .i64 0]) (t := 25) ?hr ?_; (case hd => rfl); (case hg => rfl); (case hr => first | (go_simp; done) | (go_simp; rfl)); intro gb6 hg w3 hbox hb; (try clear hz5_0); (try clear hf5_0); (try clear hz5_1); (try clear hf5_1); have GE6 := Aside0.mk ((by rw [hg]; exact (below_size (by repeat (first | (with_reducible first | exact HB.out | apply below_alloc | apply pw_below_drewN | apply below_drew1 | refine below_set ?_ GE5.out) | exact HB.out))) : w.heap.size ≤ gb6)); have NB5_6 := Aside0.mk ((by rw [hg]; exact Nat.ne_of_lt (blk_lt (g := gb5) (o := (.cells #[.int .i64 0, .int .i64 0] 25 (0, 0))) (by (with_reducible repeat (first | refine blk_drewN ?_ _ | refine blk_drew ?_ | refine blk_alloc ?_ _)); exact BK5.out)) : gb5 ≠ gb6)); have NB6_5 := Aside0.mk (Ne.symm NB5_6.out); have n0_ := Aside0.mk (blk_below (g := gb5) (o := (.cells #[.int .i64 0, .int .i64 0] 25 (0, 0))) (by (with_reducible repeat (first | refine blk_drewN ?_ _ | refine blk_drew ?_ | refine blk_alloc ?_ _)); exact BK5.out) hb); have n1_ := Aside0.mk (below_step (by repeat (first | (with_reducible first | exact HB.out | apply below_alloc | apply pw_below_drewN | apply below_drew1 | refine below_set ?_ GE5.out) | exact HB.out)) hb); clear BK5; clear HB; have BK5 := n0_; have HB := n1_; clear n0_ n1_; have BK6 := Aside0.mk hbox; clear hb hbox hg; have hz5_0 : w3.cell? ⟨gb5, 0, none⟩ = some (.int .i64 0) := (blk_cell BK5.out 0).trans rfl; have hf5_0 := blk_frozen BK5.out 0; have hz5_1 : w3.cell? ⟨gb5, 1, none⟩ = some (.int .i64 0) := (blk_cell BK5.out 1).trans rfl; have hf5_1 := blk_frozen BK5.out 1; have hz6_0 : w3.cell? ⟨gb6, 0, none⟩ = some (.int .i64 0) := (blk_cell BK6.out 0).trans rfl; have hf6_0 := blk_frozen BK6.out 0; have hz6_1 : w3.cell? ⟨gb6, 1, none⟩ = some (.int .i64 0) := (blk_cell BK6.out 1).trans rfl; have hf6_1 := blk_frozen BK6.out 1) | ((with_reducible refine gate_store (t := 25) (p := 6) rfl ?_); refine put2 (t := 25) (p := 6) (v := ?vo_w4) gb6 (.int .i64 0) (.int .i64 0) (.int .i64 t155) (.int .i64 t156) (by (with_reducible repeat (first | refine blk_drewN ?_ _ | refine blk_drew ?_ | refine blk_alloc ?_ _)); exact BK6.out) ?hg ?ho ?hn ?hr ?_; (case ho => rfl); (case hg => rfl); (case hn => rfl); (case hr => first | (go_simp; done) | (go_simp; rfl)); intro w4 hbk_ hfar_ hbel_; (try clear hz5_0); (try clear hf5_0); (try clear hz5_1); (try clear hf5_1); (try clear hz6_0); (try clear hf6_0); (try clear hz6_1); (try clear hf6_1); have n0_ := Aside0.mk ((hfar_ gb5 NB5_6.out).trans (show _ = some (.cells #[.int .i64 0, .int .i64 0] 25 (0, 0)) from by (with_reducible repeat (first | refine blk_drewN ?_ _ | refine blk_drew ?_ | refine blk_alloc ?_ _)); exact BK5.out)); have n1_ := Aside0.mk (hbk_); have n2_ := Aside0.mk (hbel_ (by repeat (first | (with_reducible first | exact HB.out | apply below_alloc | apply pw_below_drewN | apply below_drew1 | refine below_set ?_ GE5.out | refine below_set ?_ GE6.out) | exact HB.out)) GE6.out); clear BK5; clear BK6; clear HB; have BK5 := n0_; have BK6 := n1_; have HB := n2_; clear n0_ n1_ n2_; clear hbk_ hfar_ hbel_; have hz5_0 : w4.cell? ⟨gb5, 0, none⟩ = some (.int .i64 0) := (blk_cell BK5.out 0).trans rfl; have hf5_0 := blk_frozen BK5.out 0; have hz5_1 : w4.cell? ⟨gb5, 1, none⟩ = some (.int .i64 0) := (blk_cell BK5.out 1).trans rfl; have hf5_1 := blk_frozen BK5.out 1; have hz6_0 : w4.cell? ⟨gb6, 0, none⟩ = some (.int .i64 t155) := (blk_cell BK6.out 0).trans rfl; have hf6_0 := blk_frozen BK6.out 0; have hz6_1 : w4.cell? ⟨gb6, 1, none⟩ = some (.int .i64 t156) := (blk_cell BK6.out 1).trans rfl; have hf6_1 := blk_frozen BK6.out 1) | (go_at_call 30; (with_reducible refine (depgraph_list.calls k (l0.length : Int) A1 c1 l1 0 _ ?side1 ?side2 A7.out).mono ?_); (case side1 => exact Kd.C_below HR1.out (by repeat (first | (with_reducible first | exact HB.out | apply below_alloc | apply pw_below_drewN | apply below_drew1 | refine below_set ?_ GE5.out | refine below_set ?_ GE6.out) | exact HB.out))); (case side2 => exact HC1.out); rintro e w' ⟨rfl, ⟨nd, rfl⟩⟩))
      (try clear hz5_0); (try clear hf5_0); (try clear hz5_1); (try clear hf5_1); (try clear hz6_0); (try clear hf6_0); (try clear hz6_1); (try clear hf6_1)
      clear BK6 NB5_6 NB6_5 GE6
      go_loopg [8, 27] k (fun kq v8 v27 w' => ∃ (x8 : List Int) (x27 : Int), v27 = .int .i64 x27 ∧ Aside0 (depgraph_Affected.l0 kq l0 l1 x8 x27 = some t8) ∧ Aside0 (kq ≤ k) ∧ Aside0 (Kd.R (Kd.int .i64) 3 w' w.heap.size (fun _ => True) v8 x8) ∧ Aside0 (w'.heap[gb5]? = some (.cells #[.int .i64 0, .int .i64 0] 25 (0, 0))) ∧ Aside0 (Below w.heap.size w w'))
      case atStart => exact ⟨[], 0, rfl, A8, ⟨Nat.le_refl _⟩, ⟨Kd.R_nil _ _ _ _ _⟩, ⟨by (with_reducible repeat (first | refine blk_drewN ?_ _ | refine blk_drew ?_ | refine blk_alloc ?_ _)); exact BK5.out⟩, ⟨by repeat (first | (with_reducible first | exact HB.out | apply below_alloc | apply pw_below_drewN | apply below_drew1 | refine below_set ?_ GE5.out) | exact HB.out)⟩⟩
      case round =>
        clear A8 BK5 HB
        obtain ⟨x8, x27, rfl, HA, HK, HO, BK5, HB⟩ := hrel
        cases gk with
        | zero => exact absurd HA.out (by simp [depgraph_Affected.l0])
        | succ k1 =>
          have H := HA.out
          clear HA
          simp only [depgraph_Affected.l0] at H
          by_cases c5 : x27 < (l0.length : Int)
          · rw [if_pos c5] at H
            have c5b0 : decide (x27 < (l0.length : Int)) = true := decide_eq_true c5
            clear c5
            replace H := Option.bind_eq_some_iff.mp H
            obtain ⟨t32, A90, H⟩ := H
            have A9 := Aside0.mk A90
            clear A90
            (try simp only [] at H)
            by_cases c6 : (l1.all fun x => decide (0 ≤ x) && decide (x < (t32.length : Int))) = true
            · rw [if_pos c6] at H
              have C6 := Aside0.mk c6
              clear c6
              by_cases c7 : (l1.any fun x => x == x27 || rdOf false t32 x) = true
              · rw [if_pos c7] at H
                have C7 := Aside0.mk c7
                clear c7
                by_cases c8 : x8.length < 17592186044416
                · rw [if_pos c8] at H
                  have LM := Aside0.mk c8
                  clear c8
                  have H' := Aside0.mk H
                  clear H
                  go_wp2_with (first | ((with_reducible refine gate_dst (N := 9) rfl ?_); refine box_event ?hg (N := 9) ?hd (cs := #[.int .i64 0]) (t := 3) ?hr ?_; (case hd => rfl); (case hg => rfl); (case hr => first | (go_simp; done) | (go_simp; rfl)); intro gb9 hg w11 hbox hb; (try clear hz5_0); (try clear hf5_0); (try clear hz5_1); (try clear hf5_1); have GE9 := Aside0.mk ((by rw [hg]; exact (below_size (by repeat (first | (with_reducible first | exact HB.out | apply below_alloc | apply pw_below_drewN | apply below_drew1 | refine below_set ?_ GE5.out) | exact HB.out))) : w.heap.size ≤ gb9)); have NB5_9 := Aside0.mk ((by rw [hg]; exact Nat.ne_of_lt (blk_lt (g := gb5) (o := (.cells #[.int .i64 0, .int .i64 0] 25 (0, 0))) (by (with_reducible repeat (first | refine blk_drewN ?_ _ | refine blk_drew ?_ | refine blk_alloc ?_ _)); exact BK5.out)) : gb5 ≠ gb9)); have NB9_5 := Aside0.mk (Ne.symm NB5_9.out); have n0_ := Aside0.mk (blk_below (g := gb5) (o := (.cells #[.int .i64 0, .int .i64 0] 25 (0, 0))) (by (with_reducible repeat (first | refine blk_drewN ?_ _ | refine blk_drew ?_ | refine blk_alloc ?_ _)); exact BK5.out) hb); have n1_ := Aside0.mk (Kd.R_below (Kd.R_elderB (HO.out) gb9 (Nat.le_of_eq hg.symm)) hb); have n2_ := Aside0.mk (below_step (by repeat (first | (with_reducible first | exact HB.out | apply below_alloc | apply pw_below_drewN | apply below_drew1 | refine below_set ?_ GE5.out) | exact HB.out)) hb); clear BK5; clear HO; clear HB; have BK5 := n0_; have HO := n1_; have HB := n2_; clear n0_ n1_ n2_; have BK9 := Aside0.mk hbox; clear hb hbox hg; have hz5_0 : w11.cell? ⟨gb5, 0, none⟩ = some (.int .i64 0) := (blk_cell BK5.out 0).trans rfl; have hf5_0 := blk_frozen BK5.out 0; have hz5_1 : w11.cell? ⟨gb5, 1, none⟩ = some (.int .i64 0) := (blk_cell BK5.out 1).trans rfl; have hf5_1 := blk_frozen BK5.out 1; have hz9_0 : w11.cell? ⟨gb9, 0, none⟩ = some (.int .i64 0) := (blk_cell BK9.out 0).trans rfl; have hf9_0 := blk_frozen BK9.out 0) | ((with_reducible refine gate_store (t := 3) (p := 9) rfl ?_); refine put1 (t := 3) (p := 9) (v := ?vo_w12) gb9 (.int .i64 0) (.int .i64 x27) (by (with_reducible repeat (first | refine blk_drewN ?_ _ | refine blk_drew ?_ | refine blk_alloc ?_ _)); exact BK9.out) ?hg ?ho ?hn ?hr ?_; (case ho => rfl); (case hg => rfl); (case hn => rfl); (case hr => first | (go_simp; done) | (go_simp; rfl)); intro w12 hbk_ hfar_ hbel_; (try clear hz5_0); (try clear hf5_0); (try clear hz5_1); (try clear hf5_1); (try clear hz9_0); (try clear hf9_0); have n0_ := Aside0.mk ((hfar_ gb5 NB5_9.out).trans (show _ = some (.cells #[.int .i64 0, .int .i64 0] 25 (0, 0)) from by (with_reducible repeat (first | refine blk_drewN ?_ _ | refine blk_drew ?_ | refine blk_alloc ?_ _)); exact BK5.out)); have n1_ := Aside0.mk (hbk_); have n2_ := Aside0.mk (Kd.R_move (HO.out) (fun k_ hk_ => hfar_ k_ (hk_.2))); have n3_ := Aside0.mk (hbel_ (by repeat (first | (with_reducible first | exact HB.out | apply below_alloc | apply pw_below_drewN | apply below_drew1 | refine below_set ?_ GE5.out | refine below_set ?_ GE9.out) | exact HB.out)) GE9.out); clear BK5; clear BK9; clear HO; clear HB; have BK5 := n0_; have BK9 := n1_; have HO := n2_; have HB := n3_; clear n0_ n1_ n2_ n3_; clear hbk_ hfar_ hbel_; have hz5_0 : w12.cell? ⟨gb5, 0, none⟩ = some (.int .i64 0) := (blk_cell BK5.out 0).trans rfl; have hf5_0 := blk_frozen BK5.out 0; have hz5_1 : w12.cell? ⟨gb5, 1, none⟩ = some (.int .i64 0) := (blk_cell BK5.out 1).trans rfl; have hf5_1 := blk_frozen BK5.out 1; have hz9_0 : w12.cell? ⟨gb9, 0, none⟩ = some (.int .i64 x27) := (blk_cell BK9.out 0).trans rfl; have hf9_0 := blk_frozen BK9.out 0) | (go_at_call 36; (with_reducible refine (depgraph_reach.calls k1 A0 c0 l0 x27 t32 _ ?side1 ?side2 A9.out).mono ?_); (case side1 => exact Kd.C_below HR0.out (by repeat (first | (with_reducible first | exact HB.out | apply below_alloc | apply pw_below_drewN | apply below_drew1 | refine below_set ?_ GE5.out | refine below_set ?_ GE9.out) | exact HB.out))); (case side2 => exact HC0.out); rintro e w13 ⟨v32, rfl, hr_, hb⟩; obtain ⟨Ar, cr, rfl⟩ := Kd.R_slice hr_; (try clear hz5_0); (try clear hf5_0); (try clear hz5_1); (try clear hf5_1); (try clear hz9_0); (try clear hf9_0); have n0_ := Aside0.mk (blk_below (g := gb5) (o := (.cells #[.int .i64 0, .int .i64 0] 25 (0, 0))) (by (with_reducible repeat (first | refine blk_drewN ?_ _ | refine blk_drew ?_ | refine blk_alloc ?_ _)); exact BK5.out) hb); have n1_ := Aside0.mk (blk_below (g := gb9) (o := (.cells #[.int .i64 x27] 3 (0, 0))) (by (with_reducible repeat (first | refine blk_drewN ?_ _ | refine blk_drew ?_ | refine blk_alloc ?_ _)); exact BK9.out) hb); have n2_ := Aside0.mk (Kd.R_below (HO.out) hb); have n3_ := Aside0.mk (below_step (by repeat (first | (with_reducible first | exact HB.out | apply below_alloc | apply pw_below_drewN | apply below_drew1 | refine below_set ?_ GE5.out | refine below_set ?_ GE9.out) | exact HB.out)) hb); have n4_ := Aside0.mk (hr_); clear BK5; clear BK9; clear HO; clear HB; have BK5 := n0_; have BK9 := n1_; have HO := n2_; have HB := n3_; have HV := n4_; clear n0_ n1_ n2_ n3_ n4_; clear hb; have hz5_0 : w13.cell? ⟨gb5, 0, none⟩ = some (.int .i64 0) := (blk_cell BK5.out 0).trans rfl; have hf5_0 := blk_frozen BK5.out 0; have hz5_1 : w13.cell? ⟨gb5, 1, none⟩ = some (.int .i64 0) := (blk_cell BK5.out 1).trans rfl; have hf5_1 := blk_frozen BK5.out 1; have hz9_0 : w13.cell? ⟨gb9, 0, none⟩ = some (.int .i64 x27) := (blk_cell BK9.out 0).trans rfl; have hf9_0 := blk_frozen BK9.out 0) | ((with_reducible refine gate_dst (N := 10) rfl ?_); refine box_event ?hg (N := 10) ?hd (cs := #[.slice none 0 0]) (t := 51) ?hr ?_; (case hd => rfl); (case hg => rfl); (case hr => first | (go_simp; done) | (go_simp; rfl)); intro gb10 hg w14 hbox hb; (try clear hz5_0); (try clear hf5_0); (try clear hz5_1); (try clear hf5_1); (try clear hz9_0); (try clear hf9_0); have GE10 := Aside0.mk ((by rw [hg]; exact (below_size (by repeat (first | (with_reducible first | exact HB.out | apply below_alloc | apply pw_below_drewN | apply below_drew1 | refine below_set ?_ GE5.out | refine below_set ?_ GE9.out) | exact HB.out))) : w.heap.size ≤ gb10)); have NB5_10 := Aside0.mk ((by rw [hg]; exact Nat.ne_of_lt (blk_lt (g := gb5) (o := (.cells #[.int .i64 0, .int .i64 0] 25 (0, 0))) (by (with_reducible repeat (first | refine blk_drewN ?_ _ | refine blk_drew ?_ | refine blk_alloc ?_ _)); exact BK5.out)) : gb5 ≠ gb10)); have NB10_5 := Aside0.mk (Ne.symm NB5_10.out); have NB9_10 := Aside0.mk ((by rw [hg]; exact Nat.ne_of_lt (blk_lt (g := gb9) (o := (.cells #[.int .i64 x27] 3 (0, 0))) (by (with_reducible repeat (first | refine blk_drewN ?_ _ | refine blk_drew ?_ | refine blk_alloc ?_ _)); exact BK9.out)) : gb9 ≠ gb10)); have NB10_9 := Aside0.mk (Ne.symm NB9_10.out); have n0_ := Aside0.mk (blk_below (g := gb5) (o := (.cells #[.int .i64 0, .int .i64 0] 25 (0, 0))) (by (with_reducible repeat (first | refine blk_drewN ?_ _ | refine blk_drew ?_ | refine blk_alloc ?_ _)); exact BK5.out) hb); have n1_ := Aside0.mk (blk_below (g := gb9) (o := (.cells #[.int .i64 x27] 3 (0, 0))) (by (with_reducible repeat (first | refine blk_drewN ?_ _ | refine blk_drew ?_ | refine blk_alloc ?_ _)); exact BK9.out) hb); have n2_ := Aside0.mk (Kd.R_below (Kd.R_elderB (HO.out) gb10 (Nat.le_of_eq hg.symm)) hb); have n3_ := Aside0.mk (Kd.R_below (Kd.R_elderB (HV.out) gb10 (Nat.le_of_eq hg.symm)) hb); have n4_ := Aside0.mk (below_step (by repeat (first | (with_reducible first | exact HB.out | apply below_alloc | apply pw_below_drewN | apply below_drew1 | refine below_set ?_ GE5.out | refine below_set ?_ GE9.out) | exact HB.out)) hb); clear BK5; clear BK9; clear HO; clear HV; clear HB; have BK5 := n0_; have BK9 := n1_; have HO := n2_; have HV := n3_; have HB := n4_; clear n0_ n1_ n2_ n3_ n4_; have BK10 := Aside0.mk hbox; clear hb hbox hg; have hz5_0 : w14.cell? ⟨gb5, 0, none⟩ = some (.int .i64 0) := (blk_cell BK5.out 0).trans rfl; have hf5_0 := blk_frozen BK5.out 0; have hz5_1 : w14.cell? ⟨gb5, 1, none⟩ = some (.int .i64 0) := (blk_cell BK5.out 1).trans rfl; have hf5_1 := blk_frozen BK5.out 1; have hz9_0 : w14.cell? ⟨gb9, 0, none⟩ = some (.int .i64 x27) := (blk_cell BK9.out 0).trans rfl; have hf9_0 := blk_frozen BK9.out 0; have hz10_0 : w14.cell? ⟨gb10, 0, none⟩ = some (.slice none 0 0) := (blk_cell BK10.out 0).trans rfl; have hf10_0 := blk_frozen BK10.out 0) | ((with_reducible refine gate_store (t := 51) (p := 10) rfl ?_); refine put1 (t := 51) (p := 10) (v := ?vo_w15) gb10 (.slice none 0 0) (.slice Ar t32.length cr) (by (with_reducible repeat (first | refine blk_drewN ?_ _ | refine blk_drew ?_ | refine blk_alloc ?_ _)); exact BK10.out) ?hg ?ho ?hn ?hr ?_; (case ho => rfl); (case hg => rfl); (case hn => rfl); (case hr => first | (go_simp; done) | (go_simp; rfl)); intro w15 hbk_ hfar_ hbel_; (try clear hz5_0); (try clear hf5_0); (try clear hz5_1); (try clear hf5_1); (try clear hz9_0); (try clear hf9_0); (try clear hz10_0); (try clear hf10_0); have n0_ := Aside0.mk ((hfar_ gb5 NB5_10.out).trans (show _ = some (.cells #[.int .i64 0, .int .i64 0] 25 (0, 0)) from by (with_reducible repeat (first | refine blk_drewN ?_ _ | refine blk_drew ?_ | refine blk_alloc ?_ _)); exact BK5.out)); have n1_ := Aside0.mk ((hfar_ gb9 NB9_10.out).trans (show _ = some (.cells #[.int .i64 x27] 3 (0, 0)) from by (with_reducible repeat (first | refine blk_drewN ?_ _ | refine blk_drew ?_ | refine blk_alloc ?_ _)); exact BK9.out)); have n2_ := Aside0.mk (hbk_); have n3_ := Aside0.mk (Kd.R_move (HO.out) (fun k_ hk_ => hfar_ k_ (hk_.2))); have n4_ := Aside0.mk (Kd.R_move (HV.out) (fun k_ hk_ => hfar_ k_ (hk_.2))); have n5_ := Aside0.mk (hbel_ (by repeat (first | (with_reducible first | exact HB.out | apply below_alloc | apply pw_below_drewN | apply below_drew1 | refine below_set ?_ GE5.out | refine below_set ?_ GE9.out | refine below_set ?_ GE10.out) | exact HB.out)) GE10.out); clear BK5; clear BK9; clear BK10; clear HO; clear HV; clear HB; have BK5 := n0_; have BK9 := n1_; have BK10 := n2_; have HO := n3_; have HV := n4_; have HB := n5_; clear n0_ n1_ n2_ n3_ n4_ n5_; clear hbk_ hfar_ hbel_; have hz5_0 : w15.cell? ⟨gb5, 0, none⟩ = some (.int .i64 0) := (blk_cell BK5.out 0).trans rfl; have hf5_0 := blk_frozen BK5.out 0; have hz5_1 : w15.cell? ⟨gb5, 1, none⟩ = some (.int .i64 0) := (blk_cell BK5.out 1).trans rfl; have hf5_1 := blk_frozen BK5.out 1; have hz9_0 : w15.cell? ⟨gb9, 0, none⟩ = some (.int .i64 x27) := (blk_cell BK9.out 0).trans rfl; have hf9_0 := blk_frozen BK9.out 0; have hz10_0 : w15.cell? ⟨gb10, 0, none⟩ = some (.slice Ar t32.length cr) := (blk_cell BK10.out 0).trans rfl; have hf10_0 := blk_frozen BK10.out 0) | (go_at_call 37; (with_reducible refine (aff_contains gb9 gb10 x27 (.slice Ar t32.length cr) t32 A1 c1 l1 _ (Kd.C_below HR1.out (by repeat (first | (with_reducible first | exact HB.out | apply below_alloc | apply pw_below_drewN | apply below_drew1 | refine below_set ?_ GE5.out | refine below_set ?_ GE9.out | refine below_set ?_ GE10.out) | exact HB.out))) C6.out BK9.out BK10.out HV.out).mono ?_); rintro e w16 ⟨he_, hb⟩; (try clear hz5_0); (try clear hf5_0); (try clear hz5_1); (try clear hf5_1); (try clear hz9_0); (try clear hf9_0); (try clear hz10_0); (try clear hf10_0); have n0_ := Aside0.mk (blk_below (g := gb5) (o := (.cells #[.int .i64 0, .int .i64 0] 25 (0, 0))) (by (with_reducible repeat (first | refine blk_drewN ?_ _ | refine blk_drew ?_ | refine blk_alloc ?_ _)); exact BK5.out) hb); have n1_ := Aside0.mk (blk_below (g := gb9) (o := (.cells #[.int .i64 x27] 3 (0, 0))) (by (with_reducible repeat (first | refine blk_drewN ?_ _ | refine blk_drew ?_ | refine blk_alloc ?_ _)); exact BK9.out) hb); have n2_ := Aside0.mk (blk_below (g := gb10) (o := (.cells #[.slice Ar t32.length cr] 51 (0, 0))) (by (with_reducible repeat (first | refine blk_drewN ?_ _ | refine blk_drew ?_ | refine blk_alloc ?_ _)); exact BK10.out) hb); have n3_ := Aside0.mk (Kd.R_below (HO.out) hb); have n4_ := Aside0.mk (Kd.R_below (HV.out) hb); have n5_ := Aside0.mk (below_step (by repeat (first | (with_reducible first | exact HB.out | apply below_alloc | apply pw_below_drewN | apply below_drew1 | refine below_set ?_ GE5.out | refine below_set ?_ GE9.out | refine below_set ?_ GE10.out) | exact HB.out)) hb); clear BK5; clear BK9; clear BK10; clear HO; clear HV; clear HB; have BK5 := n0_; have BK9 := n1_; have BK10 := n2_; have HO := n3_; have HV := n4_; have HB := n5_; clear n0_ n1_ n2_ n3_ n4_ n5_; clear hb; have he2_ := he_.trans (congrArg (fun b_ => Ending.returned (.bool b_)) C7.out); subst he2_; clear he_; have hz5_0 : w16.cell? ⟨gb5, 0, none⟩ = some (.int .i64 0) := (blk_cell BK5.out 0).trans rfl; have hf5_0 := blk_frozen BK5.out 0; have hz5_1 : w16.cell? ⟨gb5, 1, none⟩ = some (.int .i64 0) := (blk_cell BK5.out 1).trans rfl; have hf5_1 := blk_frozen BK5.out 1; have hz9_0 : w16.cell? ⟨gb9, 0, none⟩ = some (.int .i64 x27) := (blk_cell BK9.out 0).trans rfl; have hf9_0 := blk_frozen BK9.out 0; have hz10_0 : w16.cell? ⟨gb10, 0, none⟩ = some (.slice Ar t32.length cr) := (blk_cell BK10.out 0).trans rfl; have hf10_0 := blk_frozen BK10.out 0) | ((with_reducible refine gate_builtin (b := .append) (xs := #[.tmp 36, .tmp 38]) rfl ?_); at_builtin; refine Kd.R_append (Kd.int .i64) (w0 := w) w.heap.size rfl (.tmp 36) (.tmp 38) 23 3 (.int .i64 0) 8 rfl Try.underlying23 info3 rfl (by decide) (by omega) u8 x8 x27 [.int .i64 x27] (fun _ => True) (fun _ => False) rfl rfl ?aP (fun _ hk => hk.elim) ?aF ?aO ?aB ?aS ?aL ?_; (case aP => exact rfl); (case aB => exact (by repeat (first | (with_reducible first | exact HB.out | apply below_alloc | apply pw_below_drewN | apply below_drew1 | refine below_set ?_ GE5.out | refine below_set ?_ GE9.out | refine below_set ?_ GE10.out) | exact HB.out))); (case aF => exact (fun _ _ => trivial)); (case aO => exact Kd.R_mono HO.out (fun _ _ => trivial)); (case aS => exact (below_size (by repeat (first | (with_reducible first | exact HB.out | apply below_alloc | apply pw_below_drewN | apply below_drew1 | refine below_set ?_ GE5.out | refine below_set ?_ GE9.out | refine below_set ?_ GE10.out) | exact HB.out)))); (case aL => have := LM.out; omega); intro va_ w17 ho hb hg hat; (try clear hz5_0); (try clear hf5_0); (try clear hz5_1); (try clear hf5_1); (try clear hz9_0); (try clear hf9_0); (try clear hz10_0); (try clear hf10_0); have n0_ := Aside0.mk (blk_grown (by (with_reducible repeat (first | refine blk_drewN ?_ _ | refine blk_drew ?_ | refine blk_alloc ?_ _)); exact BK5.out) hg (Kd.R_ne HO.out BK5.out (by decide))); have n1_ := Aside0.mk (blk_grown (by (with_reducible repeat (first | refine blk_drewN ?_ _ | refine blk_drew ?_ | refine blk_alloc ?_ _)); exact BK10.out) hg (Kd.R_ne HO.out BK10.out (by decide))); have n2_ := Aside0.mk (ho); have n3_ := Aside0.mk (hb); clear BK5; clear BK10; clear HO; clear HB; have BK5 := n0_; have BK10 := n1_; have HO := n2_; have HB := n3_; clear n0_ n1_ n2_ n3_; clear ho hb hg hat; clear BK9; have hz5_0 : w17.cell? ⟨gb5, 0, none⟩ = some (.int .i64 0) := (blk_cell BK5.out 0).trans rfl; have hf5_0 := blk_frozen BK5.out 0; have hz5_1 : w17.cell? ⟨gb5, 1, none⟩ = some (.int .i64 0) := (blk_cell BK5.out 1).trans rfl; have hf5_1 := blk_frozen BK5.out 1; have hz10_0 : w17.cell? ⟨gb10, 0, none⟩ = some (.slice Ar t32.length cr) := (blk_cell BK10.out 0).trans rfl; have hf10_0 := blk_frozen BK10.out 0))
                  go_roundg k1
                  case measure => have := HK.out; omega
                  case rel => exact ⟨x8 ++ [x27], (wrap64 (x27 + 1)), rfl, H', ⟨by have := HK.out; omega⟩, ⟨Kd.R_mono HO.out (fun _ _ => trivial)⟩, ⟨by (with_reducible repeat (first | refine blk_drewN ?_ _ | refine blk_drew ?_ | refine blk_alloc ?_ _)); exact BK5.out⟩, ⟨by repeat (first | (with_reducible first | exact HB.out | apply below_alloc | apply pw_below_drewN | apply below_drew1 | refine below_set ?_ GE5.out | refine below_set ?_ GE10.out) | exact HB.out)⟩⟩
                · rw [if_neg c8] at H
                  exact absurd H (by simp)
              · rw [if_neg c7] at H
                have C7 := Aside0.mk (Bool.eq_false_iff.mpr c7)
                clear c7
                have H' := Aside0.mk H
                clear H
                go_wp2_with (first | ((with_reducible refine gate_dst (N := 9) rfl ?_); refine box_event ?hg (N := 9) ?hd (cs := #[.int .i64 0]) (t := 3) ?hr ?_; (case hd => rfl); (case hg => rfl); (case hr => first | (go_simp; done) | (go_simp; rfl)); intro gb9 hg w11 hbox hb; (try clear hz5_0); (try clear hf5_0); (try clear hz5_1); (try clear hf5_1); have GE9 := Aside0.mk ((by rw [hg]; exact (below_size (by repeat (first | (with_reducible first | exact HB.out | apply below_alloc | apply pw_below_drewN | apply below_drew1 | refine below_set ?_ GE5.out) | exact HB.out))) : w.heap.size ≤ gb9)); have NB5_9 := Aside0.mk ((by rw [hg]; exact Nat.ne_of_lt (blk_lt (g := gb5) (o := (.cells #[.int .i64 0, .int .i64 0] 25 (0, 0))) (by (with_reducible repeat (first | refine blk_drewN ?_ _ | refine blk_drew ?_ | refine blk_alloc ?_ _)); exact BK5.out)) : gb5 ≠ gb9)); have NB9_5 := Aside0.mk (Ne.symm NB5_9.out); have n0_ := Aside0.mk (blk_below (g := gb5) (o := (.cells #[.int .i64 0, .int .i64 0] 25 (0, 0))) (by (with_reducible repeat (first | refine blk_drewN ?_ _ | refine blk_drew ?_ | refine blk_alloc ?_ _)); exact BK5.out) hb); have n1_ := Aside0.mk (Kd.R_below (Kd.R_elderB (HO.out) gb9 (Nat.le_of_eq hg.symm)) hb); have n2_ := Aside0.mk (below_step (by repeat (first | (with_reducible first | exact HB.out | apply below_alloc | apply pw_below_drewN | apply below_drew1 | refine below_set ?_ GE5.out) | exact HB.out)) hb); clear BK5; clear HO; clear HB; have BK5 := n0_; have HO := n1_; have HB := n2_; clear n0_ n1_ n2_; have BK9 := Aside0.mk hbox; clear hb hbox hg; have hz5_0 : w11.cell? ⟨gb5, 0, none⟩ = some (.int .i64 0) := (blk_cell BK5.out 0).trans rfl; have hf5_0 := blk_frozen BK5.out 0; have hz5_1 : w11.cell? ⟨gb5, 1, none⟩ = some (.int .i64 0) := (blk_cell BK5.out 1).trans rfl; have hf5_1 := blk_frozen BK5.out 1; have hz9_0 : w11.cell? ⟨gb9, 0, none⟩ = some (.int .i64 0) := (blk_cell BK9.out 0).trans rfl; have hf9_0 := blk_frozen BK9.out 0) | ((with_reducible refine gate_store (t := 3) (p := 9) rfl ?_); refine put1 (t := 3) (p := 9) (v := ?vo_w12) gb9 (.int .i64 0) (.int .i64 x27) (by (with_reducible repeat (first | refine blk_drewN ?_ _ | refine blk_drew ?_ | refine blk_alloc ?_ _)); exact BK9.out) ?hg ?ho ?hn ?hr ?_; (case ho => rfl); (case hg => rfl); (case hn => rfl); (case hr => first | (go_simp; done) | (go_simp; rfl)); intro w12 hbk_ hfar_ hbel_; (try clear hz5_0); (try clear hf5_0); (try clear hz5_1); (try clear hf5_1); (try clear hz9_0); (try clear hf9_0); have n0_ := Aside0.mk ((hfar_ gb5 NB5_9.out).trans (show _ = some (.cells #[.int .i64 0, .int .i64 0] 25 (0, 0)) from by (with_reducible repeat (first | refine blk_drewN ?_ _ | refine blk_drew ?_ | refine blk_alloc ?_ _)); exact BK5.out)); have n1_ := Aside0.mk (hbk_); have n2_ := Aside0.mk (Kd.R_move (HO.out) (fun k_ hk_ => hfar_ k_ (hk_.2))); have n3_ := Aside0.mk (hbel_ (by repeat (first | (with_reducible first | exact HB.out | apply below_alloc | apply pw_below_drewN | apply below_drew1 | refine below_set ?_ GE5.out | refine below_set ?_ GE9.out) | exact HB.out)) GE9.out); clear BK5; clear BK9; clear HO; clear HB; have BK5 := n0_; have BK9 := n1_; have HO := n2_; have HB := n3_; clear n0_ n1_ n2_ n3_; clear hbk_ hfar_ hbel_; have hz5_0 : w12.cell? ⟨gb5, 0, none⟩ = some (.int .i64 0) := (blk_cell BK5.out 0).trans rfl; have hf5_0 := blk_frozen BK5.out 0; have hz5_1 : w12.cell? ⟨gb5, 1, none⟩ = some (.int .i64 0) := (blk_cell BK5.out 1).trans rfl; have hf5_1 := blk_frozen BK5.out 1; have hz9_0 : w12.cell? ⟨gb9, 0, none⟩ = some (.int .i64 x27) := (blk_cell BK9.out 0).trans rfl; have hf9_0 := blk_frozen BK9.out 0) | (go_at_call 36; (with_reducible refine (depgraph_reach.calls k1 A0 c0 l0 x27 t32 _ ?side1 ?side2 A9.out).mono ?_); (case side1 => exact Kd.C_below HR0.out (by repeat (first | (with_reducible first | exact HB.out | apply below_alloc | apply pw_below_drewN | apply below_drew1 | refine below_set ?_ GE5.out | refine below_set ?_ GE9.out) | exact HB.out))); (case side2 => exact HC0.out); rintro e w13 ⟨v32, rfl, hr_, hb⟩; obtain ⟨Ar, cr, rfl⟩ := Kd.R_slice hr_; (try clear hz5_0); (try clear hf5_0); (try clear hz5_1); (try clear hf5_1); (try clear hz9_0); (try clear hf9_0); have n0_ := Aside0.mk (blk_below (g := gb5) (o := (.cells #[.int .i64 0, .int .i64 0] 25 (0, 0))) (by (with_reducible repeat (first | refine blk_drewN ?_ _ | refine blk_drew ?_ | refine blk_alloc ?_ _)); exact BK5.out) hb); have n1_ := Aside0.mk (blk_below (g := gb9) (o := (.cells #[.int .i64 x27] 3 (0, 0))) (by (with_reducible repeat (first | refine blk_drewN ?_ _ | refine blk_drew ?_ | refine blk_alloc ?_ _)); exact BK9.out) hb); have n2_ := Aside0.mk (Kd.R_below (HO.out) hb); have n3_ := Aside0.mk (below_step (by repeat (first | (with_reducible first | exact HB.out | apply below_alloc | apply pw_below_drewN | apply below_drew1 | refine below_set ?_ GE5.out | refine below_set ?_ GE9.out) | exact HB.out)) hb); have n4_ := Aside0.mk (hr_); clear BK5; clear BK9; clear HO; clear HB; have BK5 := n0_; have BK9 := n1_; have HO := n2_; have HB := n3_; have HV := n4_; clear n0_ n1_ n2_ n3_ n4_; clear hb; have hz5_0 : w13.cell? ⟨gb5, 0, none⟩ = some (.int .i64 0) := (blk_cell BK5.out 0).trans rfl; have hf5_0 := blk_frozen BK5.out 0; have hz5_1 : w13.cell? ⟨gb5, 1, none⟩ = some (.int .i64 0) := (blk_cell BK5.out 1).trans rfl; have hf5_1 := blk_frozen BK5.out 1; have hz9_0 : w13.cell? ⟨gb9, 0, none⟩ = some (.int .i64 x27) := (blk_cell BK9.out 0).trans rfl; have hf9_0 := blk_frozen BK9.out 0) | ((with_reducible refine gate_dst (N := 10) rfl ?_); refine box_event ?hg (N := 10) ?hd (cs := #[.slice none 0 0]) (t := 51) ?hr ?_; (case hd => rfl); (case hg => rfl); (case hr => first | (go_simp; done) | (go_simp; rfl)); intro gb10 hg w14 hbox hb; (try clear hz5_0); (try clear hf5_0); (try clear hz5_1); (try clear hf5_1); (try clear hz9_0); (try clear hf9_0); have GE10 := Aside0.mk ((by rw [hg]; exact (below_size (by repeat (first | (with_reducible first | exact HB.out | apply below_alloc | apply pw_below_drewN | apply below_drew1 | refine below_set ?_ GE5.out | refine below_set ?_ GE9.out) | exact HB.out))) : w.heap.size ≤ gb10)); have NB5_10 := Aside0.mk ((by rw [hg]; exact Nat.ne_of_lt (blk_lt (g := gb5) (o := (.cells #[.int .i64 0, .int .i64 0] 25 (0, 0))) (by (with_reducible repeat (first | refine blk_drewN ?_ _ | refine blk_drew ?_ | refine blk_alloc ?_ _)); exact BK5.out)) : gb5 ≠ gb10)); have NB10_5 := Aside0.mk (Ne.symm NB5_10.out); have NB9_10 := Aside0.mk ((by rw [hg]; exact Nat.ne_of_lt (blk_lt (g := gb9) (o := (.cells #[.int .i64 x27] 3 (0, 0))) (by (with_reducible repeat (first | refine blk_drewN ?_ _ | refine blk_drew ?_ | refine blk_alloc ?_ _)); exact BK9.out)) : gb9 ≠ gb10)); have NB10_9 := Aside0.mk (Ne.symm NB9_10.out); have n0_ := Aside0.mk (blk_below (g := gb5) (o := (.cells #[.int .i64 0, .int .i64 0] 25 (0, 0))) (by (with_reducible repeat (first | refine blk_drewN ?_ _ | refine blk_drew ?_ | refine blk_alloc ?_ _)); exact BK5.out) hb); have n1_ := Aside0.mk (blk_below (g := gb9) (o := (.cells #[.int .i64 x27] 3 (0, 0))) (by (with_reducible repeat (first | refine blk_drewN ?_ _ | refine blk_drew ?_ | refine blk_alloc ?_ _)); exact BK9.out) hb); have n2_ := Aside0.mk (Kd.R_below (Kd.R_elderB (HO.out) gb10 (Nat.le_of_eq hg.symm)) hb); have n3_ := Aside0.mk (Kd.R_below (Kd.R_elderB (HV.out) gb10 (Nat.le_of_eq hg.symm)) hb); have n4_ := Aside0.mk (below_step (by repeat (first | (with_reducible first | exact HB.out | apply below_alloc | apply pw_below_drewN | apply below_drew1 | refine below_set ?_ GE5.out | refine below_set ?_ GE9.out) | exact HB.out)) hb); clear BK5; clear BK9; clear HO; clear HV; clear HB; have BK5 := n0_; have BK9 := n1_; have HO := n2_; have HV := n3_; have HB := n4_; clear n0_ n1_ n2_ n3_ n4_; have BK10 := Aside0.mk hbox; clear hb hbox hg; have hz5_0 : w14.cell? ⟨gb5, 0, none⟩ = some (.int .i64 0) := (blk_cell BK5.out 0).trans rfl; have hf5_0 := blk_frozen BK5.out 0; have hz5_1 : w14.cell? ⟨gb5, 1, none⟩ = some (.int .i64 0) := (blk_cell BK5.out 1).trans rfl; have hf5_1 := blk_frozen BK5.out 1; have hz9_0 : w14.cell? ⟨gb9, 0, none⟩ = some (.int .i64 x27) := (blk_cell BK9.out 0).trans rfl; have hf9_0 := blk_frozen BK9.out 0; have hz10_0 : w14.cell? ⟨gb10, 0, none⟩ = some (.slice none 0 0) := (blk_cell BK10.out 0).trans rfl; have hf10_0 := blk_frozen BK10.out 0) | ((with_reducible refine gate_store (t := 51) (p := 10) rfl ?_); refine put1 (t := 51) (p := 10) (v := ?vo_w15) gb10 (.slice none 0 0) (.slice Ar t32.length cr) (by (with_reducible repeat (first | refine blk_drewN ?_ _ | refine blk_drew ?_ | refine blk_alloc ?_ _)); exact BK10.out) ?hg ?ho ?hn ?hr ?_; (case ho => rfl); (case hg => rfl); (case hn => rfl); (case hr => first | (go_simp; done) | (go_simp; rfl)); intro w15 hbk_ hfar_ hbel_; (try clear hz5_0); (try clear hf5_0); (try clear hz5_1); (try clear hf5_1); (try clear hz9_0); (try clear hf9_0); (try clear hz10_0); (try clear hf10_0); have n0_ := Aside0.mk ((hfar_ gb5 NB5_10.out).trans (show _ = some (.cells #[.int .i64 0, .int .i64 0] 25 (0, 0)) from by (with_reducible repeat (first | refine blk_drewN ?_ _ | refine blk_drew ?_ | refine blk_alloc ?_ _)); exact BK5.out)); have n1_ := Aside0.mk ((hfar_ gb9 NB9_10.out).trans (show _ = some (.cells #[.int .i64 x27] 3 (0, 0)) from by (with_reducible repeat (first | refine blk_drewN ?_ _ | refine blk_drew ?_ | refine blk_alloc ?_ _)); exact BK9.out)); have n2_ := Aside0.mk (hbk_); have n3_ := Aside0.mk (Kd.R_move (HO.out) (fun k_ hk_ => hfar_ k_ (hk_.2))); have n4_ := Aside0.mk (Kd.R_move (HV.out) (fun k_ hk_ => hfar_ k_ (hk_.2))); have n5_ := Aside0.mk (hbel_ (by repeat (first | (with_reducible first | exact HB.out | apply below_alloc | apply pw_below_drewN | apply below_drew1 | refine below_set ?_ GE5.out | refine below_set ?_ GE9.out | refine below_set ?_ GE10.out) | exact HB.out)) GE10.out); clear BK5; clear BK9; clear BK10; clear HO; clear HV; clear HB; have BK5 := n0_; have BK9 := n1_; have BK10 := n2_; have HO := n3_; have HV := n4_; have HB := n5_; clear n0_ n1_ n2_ n3_ n4_ n5_; clear hbk_ hfar_ hbel_; have hz5_0 : w15.cell? ⟨gb5, 0, none⟩ = some (.int .i64 0) := (blk_cell BK5.out 0).trans rfl; have hf5_0 := blk_frozen BK5.out 0; have hz5_1 : w15.cell? ⟨gb5, 1, none⟩ = some (.int .i64 0) := (blk_cell BK5.out 1).trans rfl; have hf5_1 := blk_frozen BK5.out 1; have hz9_0 : w15.cell? ⟨gb9, 0, none⟩ = some (.int .i64 x27) := (blk_cell BK9.out 0).trans rfl; have hf9_0 := blk_frozen BK9.out 0; have hz10_0 : w15.cell? ⟨gb10, 0, none⟩ = some (.slice Ar t32.length cr) := (blk_cell BK10.out 0).trans rfl; have hf10_0 := blk_frozen BK10.out 0) | (go_at_call 37; (with_reducible refine (aff_contains gb9 gb10 x27 (.slice Ar t32.length cr) t32 A1 c1 l1 _ (Kd.C_below HR1.out (by repeat (first | (with_reducible first | exact HB.out | apply below_alloc | apply pw_below_drewN | apply below_drew1 | refine below_set ?_ GE5.out | refine below_set ?_ GE9.out | refine below_set ?_ GE10.out) | exact HB.out))) C6.out BK9.out BK10.out HV.out).mono ?_); rintro e w16 ⟨he_, hb⟩; (try clear hz5_0); (try clear hf5_0); (try clear hz5_1); (try clear hf5_1); (try clear hz9_0); (try clear hf9_0); (try clear hz10_0); (try clear hf10_0); have n0_ := Aside0.mk (blk_below (g := gb5) (o := (.cells #[.int .i64 0, .int .i64 0] 25 (0, 0))) (by (with_reducible repeat (first | refine blk_drewN ?_ _ | refine blk_drew ?_ | refine blk_alloc ?_ _)); exact BK5.out) hb); have n1_ := Aside0.mk (blk_below (g := gb9) (o := (.cells #[.int .i64 x27] 3 (0, 0))) (by (with_reducible repeat (first | refine blk_drewN ?_ _ | refine blk_drew ?_ | refine blk_alloc ?_ _)); exact BK9.out) hb); have n2_ := Aside0.mk (blk_below (g := gb10) (o := (.cells #[.slice Ar t32.length cr] 51 (0, 0))) (by (with_reducible repeat (first | refine blk_drewN ?_ _ | refine blk_drew ?_ | refine blk_alloc ?_ _)); exact BK10.out) hb); have n3_ := Aside0.mk (Kd.R_below (HO.out) hb); have n4_ := Aside0.mk (Kd.R_below (HV.out) hb); have n5_ := Aside0.mk (below_step (by repeat (first | (with_reducible first | exact HB.out | apply below_alloc | apply pw_below_drewN | apply below_drew1 | refine below_set ?_ GE5.out | refine below_set ?_ GE9.out | refine below_set ?_ GE10.out) | exact HB.out)) hb); clear BK5; clear BK9; clear BK10; clear HO; clear HV; clear HB; have BK5 := n0_; have BK9 := n1_; have BK10 := n2_; have HO := n3_; have HV := n4_; have HB := n5_; clear n0_ n1_ n2_ n3_ n4_ n5_; clear hb; have he2_ := he_.trans (congrArg (fun b_ => Ending.returned (.bool b_)) C7.out); subst he2_; clear he_; have hz5_0 : w16.cell? ⟨gb5, 0, none⟩ = some (.int .i64 0) := (blk_cell BK5.out 0).trans rfl; have hf5_0 := blk_frozen BK5.out 0; have hz5_1 : w16.cell? ⟨gb5, 1, none⟩ = some (.int .i64 0) := (blk_cell BK5.out 1).trans rfl; have hf5_1 := blk_frozen BK5.out 1; have hz9_0 : w16.cell? ⟨gb9, 0, none⟩ = some (.int .i64 x27) := (blk_cell BK9.out 0).trans rfl; have hf9_0 := blk_frozen BK9.out 0; have hz10_0 : w16.cell? ⟨gb10, 0, none⟩ = some (.slice Ar t32.length cr) := (blk_cell BK10.out 0).trans rfl; have hf10_0 := blk_frozen BK10.out 0))
                go_roundg k1
                case measure => have := HK.out; omega
                case rel => exact ⟨x8, (wrap64 (x27 + 1)), rfl, H', ⟨by have := HK.out; omega⟩, ⟨Kd.R_mono HO.out (fun _ _ => trivial)⟩, ⟨by (with_reducible repeat (first | refine blk_drewN ?_ _ | refine blk_drew ?_ | refine blk_alloc ?_ _)); exact BK5.out⟩, ⟨by repeat (first | (with_reducible first | exact HB.out | apply below_alloc | apply pw_below_drewN | apply below_drew1 | refine below_set ?_ GE5.out | refine below_set ?_ GE9.out | refine below_set ?_ GE10.out) | exact HB.out)⟩⟩
            · rw [if_neg c6] at H
              exact absurd H (by simp)
          · rw [if_neg c5] at H
            have c5b0 : decide (x27 < (l0.length : Int)) = false := decide_eq_false c5
            clear c5
            obtain rfl := Option.some.inj H
            clear H
            have hz5_0 : wr.cell? ⟨gb5, 0, none⟩ = some (.int .i64 0) := (blk_cell BK5.out 0).trans rfl; have hf5_0 := blk_frozen BK5.out 0; have hz5_1 : wr.cell? ⟨gb5, 1, none⟩ = some (.int .i64 0) := (blk_cell BK5.out 1).trans rfl; have hf5_1 := blk_frozen BK5.out 1
            go_wp2
            refine bodyPost_ret (results_tc rfl _ _ gb5 25 #[.int .i64 0, .int .i64 0] (0, 0) _ rfl (by (with_reducible repeat (first | refine blk_drewN ?_ _ | refine blk_drew ?_ | refine blk_alloc ?_ _)); exact blk_put (cs := #[.int .i64 0, .int .i64 0]) (by (with_reducible repeat (first | refine blk_drewN ?_ _ | refine blk_drew ?_ | refine blk_alloc ?_ _)); exact blk_put (cs := #[.int .i64 0, .int .i64 0]) (by (with_reducible repeat (first | refine blk_drewN ?_ _ | refine blk_drew ?_ | refine blk_alloc ?_ _)); exact BK5.out) 0 _ rfl) 1 _ rfl) Try.underlying25 rfl (by kernel_rfl)) rfl ?_
            exact ⟨_, rfl, Kd.R_set (Kd.R_set HO.out BK5.out (by decide) 0 _) (blk_put (cs := #[.int .i64 0, .int .i64 0]) BK5.out 0 _ rfl) (by decide) 1 _, by repeat (first | (with_reducible first | exact HB.out | apply below_alloc | apply pw_below_drewN | apply below_drew1 | refine below_set ?_ GE5.out) | exact HB.out)⟩
    · rw [if_neg c4] at H
      have c4b0 : (t20 != 0) = true := bne_iff_ne.mpr c4
      simp only [Option.some.injEq, Prod.mk.injEq] at H
      obtain ⟨rfl, rfl, rfl⟩ := H
      clear c4
      go_enter Try.func17, Try.ntmps17
      go_wp2_with (first | ((with_reducible refine gate_dst (N := 5) rfl ?_); refine box_event ?hg (N := 5) ?hd (cs := #[.int .i64 0, .int .i64 0]) (t := 25) ?hr ?_; (case hd => rfl); (case hg => rfl); (case hr => first | (go_simp; done) | (go_simp; rfl)); intro gb5 hg w1 hbox hb; have GE5 := Aside0.mk ((by rw [hg]; exact (below_size (by repeat (first | (with_reducible first | exact HB.out | apply below_alloc | apply pw_below_drewN | apply below_drew1) | exact HB.out))) : w.heap.size ≤ gb5)); have n0_ := Aside0.mk (below_step (by repeat (first | (with_reducible first | exact HB.out | apply below_alloc | apply pw_below_drewN | apply below_drew1) | exact HB.out)) hb); clear HB; have HB := n0_; clear n0_; have BK5 := Aside0.mk hbox; clear hb hbox hg; have hz5_0 : w1.cell? ⟨gb5, 0, none⟩ = some (.int .i64 0) := (blk_cell BK5.out 0).trans rfl; have hf5_0 := blk_frozen BK5.out 0; have hz5_1 : w1.cell? ⟨gb5, 1, none⟩ = some (.int .i64 0) := (blk_cell BK5.out 1).trans rfl; have hf5_1 := blk_frozen BK5.out 1) | (go_at_call 11; (with_reducible refine (depgraph_Validate.calls k _ _ l0 t155 t156 _ ?side1 ?side2 A2.out).mono ?_); (case side1 => exact Kd.C_below HR0.out (by repeat (first | (with_reducible first | exact HB.out | apply below_alloc | apply pw_below_drewN | apply below_drew1 | refine below_set ?_ GE5.out) | exact HB.out))); (case side2 => exact HC0.out); rintro e w2 ⟨rfl, hb⟩; (try clear hz5_0); (try clear hf5_0); (try clear hz5_1); (try clear hf5_1); have n0_ := Aside0.mk (blk_below (g := gb5) (o := (.cells #[.int .i64 0, .int .i64 0] 25 (0, 0))) (by (with_reducible repeat (first | refine blk_drewN ?_ _ | refine blk_drew ?_ | refine blk_alloc ?_ _)); exact BK5.out) hb); have n1_ := Aside0.mk (below_step (by repeat (first | (with_reducible first | exact HB.out | apply below_alloc | apply pw_below_drewN | apply below_drew1 | refine below_set ?_ GE5.out) | exact HB.out)) hb); clear BK5; clear HB; have BK5 := n0_; have HB := n1_; clear n0_ n1_; clear hb; have hz5_0 : w2.cell? ⟨gb5, 0, none⟩ = some (.int .i64 0) := (blk_cell BK5.out 0).trans rfl; have hf5_0 := blk_frozen BK5.out 0; have hz5_1 : w2.cell? ⟨gb5, 1, none⟩ = some (.int .i64 0) := (blk_cell BK5.out 1).trans rfl; have hf5_1 := blk_frozen BK5.out 1) | ((with_reducible refine gate_dst (N := 6) rfl ?_); refine box_event ?hg (N := 6) ?hd (cs := #[.int .i64 0, .int .i64 0]) (t := 25) ?hr ?_; (case hd => rfl); (case hg => rfl); (case hr => first | (go_simp; done) | (go_simp; rfl)); intro gb6 hg w3 hbox hb; (try clear hz5_0); (try clear hf5_0); (try clear hz5_1); (try clear hf5_1); have GE6 := Aside0.mk ((by rw [hg]; exact (below_size (by repeat (first | (with_reducible first | exact HB.out | apply below_alloc | apply pw_below_drewN | apply below_drew1 | refine below_set ?_ GE5.out) | exact HB.out))) : w.heap.size ≤ gb6)); have NB5_6 := Aside0.mk ((by rw [hg]; exact Nat.ne_of_lt (blk_lt (g := gb5) (o := (.cells #[.int .i64 0, .int .i64 0] 25 (0, 0))) (by (with_reducible repeat (first | refine blk_drewN ?_ _ | refine blk_drew ?_ | refine blk_alloc ?_ _)); exact BK5.out)) : gb5 ≠ gb6)); have NB6_5 := Aside0.mk (Ne.symm NB5_6.out); have n0_ := Aside0.mk (blk_below (g := gb5) (o := (.cells #[.int .i64 0, .int .i64 0] 25 (0, 0))) (by (with_reducible repeat (first | refine blk_drewN ?_ _ | refine blk_drew ?_ | refine blk_alloc ?_ _)); exact BK5.out) hb); have n1_ := Aside0.mk (below_step (by repeat (first | (with_reducible first | exact HB.out | apply below_alloc | apply pw_below_drewN | apply below_drew1 | refine below_set ?_ GE5.out) | exact HB.out)) hb); clear BK5; clear HB; have BK5 := n0_; have HB := n1_; clear n0_ n1_; have BK6 := Aside0.mk hbox; clear hb hbox hg; have hz5_0 : w3.cell? ⟨gb5, 0, none⟩ = some (.int .i64 0) := (blk_cell BK5.out 0).trans rfl; have hf5_0 := blk_frozen BK5.out 0; have hz5_1 : w3.cell? ⟨gb5, 1, none⟩ = some (.int .i64 0) := (blk_cell BK5.out 1).trans rfl; have hf5_1 := blk_frozen BK5.out 1; have hz6_0 : w3.cell? ⟨gb6, 0, none⟩ = some (.int .i64 0) := (blk_cell BK6.out 0).trans rfl; have hf6_0 := blk_frozen BK6.out 0; have hz6_1 : w3.cell? ⟨gb6, 1, none⟩ = some (.int .i64 0) := (blk_cell BK6.out 1).trans rfl; have hf6_1 := blk_frozen BK6.out 1) | ((with_reducible refine gate_store (t := 25) (p := 6) rfl ?_); refine put2 (t := 25) (p := 6) (v := ?vo_w4) gb6 (.int .i64 0) (.int .i64 0) (.int .i64 t155) (.int .i64 t156) (by (with_reducible repeat (first | refine blk_drewN ?_ _ | refine blk_drew ?_ | refine blk_alloc ?_ _)); exact BK6.out) ?hg ?ho ?hn ?hr ?_; (case ho => rfl); (case hg => rfl); (case hn => rfl); (case hr => first | (go_simp; done) | (go_simp; rfl)); intro w4 hbk_ hfar_ hbel_; (try clear hz5_0); (try clear hf5_0); (try clear hz5_1); (try clear hf5_1); (try clear hz6_0); (try clear hf6_0); (try clear hz6_1); (try clear hf6_1); have n0_ := Aside0.mk ((hfar_ gb5 NB5_6.out).trans (show _ = some (.cells #[.int .i64 0, .int .i64 0] 25 (0, 0)) from by (with_reducible repeat (first | refine blk_drewN ?_ _ | refine blk_drew ?_ | refine blk_alloc ?_ _)); exact BK5.out)); have n1_ := Aside0.mk (hbk_); have n2_ := Aside0.mk (hbel_ (by repeat (first | (with_reducible first | exact HB.out | apply below_alloc | apply pw_below_drewN | apply below_drew1 | refine below_set ?_ GE5.out | refine below_set ?_ GE6.out) | exact HB.out)) GE6.out); clear BK5; clear BK6; clear HB; have BK5 := n0_; have BK6 := n1_; have HB := n2_; clear n0_ n1_ n2_; clear hbk_ hfar_ hbel_; have hz5_0 : w4.cell? ⟨gb5, 0, none⟩ = some (.int .i64 0) := (blk_cell BK5.out 0).trans rfl; have hf5_0 := blk_frozen BK5.out 0; have hz5_1 : w4.cell? ⟨gb5, 1, none⟩ = some (.int .i64 0) := (blk_cell BK5.out 1).trans rfl; have hf5_1 := blk_frozen BK5.out 1; have hz6_0 : w4.cell? ⟨gb6, 0, none⟩ = some (.int .i64 t155) := (blk_cell BK6.out 0).trans rfl; have hf6_0 := blk_frozen BK6.out 0; have hz6_1 : w4.cell? ⟨gb6, 1, none⟩ = some (.int .i64 t156) := (blk_cell BK6.out 1).trans rfl; have hf6_1 := blk_frozen BK6.out 1) | (go_at_call 30; (with_reducible refine (depgraph_list.calls k (l0.length : Int) A1 c1 l1 t20 _ ?side1 ?side2 A7.out).mono ?_); (case side1 => exact Kd.C_below HR1.out (by repeat (first | (with_reducible first | exact HB.out | apply below_alloc | apply pw_below_drewN | apply below_drew1 | refine below_set ?_ GE5.out | refine below_set ?_ GE6.out) | exact HB.out))); (case side2 => exact HC1.out); rintro e w' ⟨rfl, ⟨nd, rfl⟩⟩))
      refine bodyPost_ret (results_tc rfl _ _ gb5 25 #[.int .i64 t20, .int .i64 (-2)] (0, 0) _ rfl (by (with_reducible repeat (first | refine blk_drewN ?_ _ | refine blk_drew ?_ | refine blk_alloc ?_ _)); exact blk_put (cs := #[.int .i64 t20, .int .i64 0]) (by (with_reducible repeat (first | refine blk_drewN ?_ _ | refine blk_drew ?_ | refine blk_alloc ?_ _)); exact blk_put (cs := #[.int .i64 0, .int .i64 0]) (by (with_reducible repeat (first | refine blk_drewN ?_ _ | refine blk_drew ?_ | refine blk_alloc ?_ _)); exact BK5.out) 0 _ rfl) 1 _ rfl) Try.underlying25 rfl (by kernel_rfl)) rfl ?_
      exact ⟨_, rfl, Kd.R_nil _ _ _ _ _, by repeat (first | (with_reducible first | exact HB.out | apply below_alloc | apply pw_below_drewN | apply below_drew1 | refine below_set ?_ GE5.out | refine below_set ?_ GE6.out) | exact HB.out)⟩
end Go.Proofs.Ytffcaglfcnmhdaa.H
end
section
namespace Go.Proofs.Ytffcaglfcnmhdaa.H
open Go.RowKit Go.Proofs.YtffcaglfcnmhdaaW.PrintWords Go.Proofs.YtffcaglfcnmhdaaW.PrintLast Go.Proofs.YtffcaglfcnmhdaaW.PrintMore
set_option linter.unusedVariables false
set_option linter.unusedSimpArgs false
open Go.RowKit
def disP (tt d : Int) (out : List Int) (x : Int) : Bool := if x = tt then decide (d = 1) else (rd out x == d - 1) && decide (1 < d)
set_option maxHeartbeats 8000000 in
theorem disC_calls (w : World) (g1 g2 g3 : Nat) (tt d : Int) (Ao : Option Addr) (co : Nat) (out : List Int) (x : Int) (h0 : 0 ≤ x) (h1 : x < (out.length : Int)) (hd : 1 ≤ d) (hd2 : d ≤ 1000000000) (c1 : w.cell? ⟨g1, 0, none⟩ = some (.int .i64 tt)) (c2 : w.cell? ⟨g2, 0, none⟩ = some (.int .i64 d)) (c3 : w.cell? ⟨g3, 0, none⟩ = some (.slice Ao out.length co)) (hr : Kd.C (Kd.int .i64) w Ao out.length out) :
    Calls Try.prog 45 #[.int .i64 x, .pointer (some ⟨g1, 0, none⟩), .pointer (some ⟨g2, 0, none⟩), .pointer (some ⟨g3, 0, none⟩)] w fun e w' => e = .returned (.bool (disP tt d out x)) ∧ Below w.heap.size w w' := by
  obtain ⟨ad, rfl, hx⟩ := Kd.at_int hr x h0 h1
  clear hr
  obtain ⟨b, hb⟩ : ∃ b, Aside0 (disP tt d out x = b) := ⟨_, ⟨rfl⟩⟩
  rw [hb.out]
  unfold disP at hb
  have p0 := eq_true h0
  have p1 := eq_true h1
  have hw : IntKind.i64.wrap (d - 1) = d - 1 := by rw [i64_w]; unfold wrap64; omega
  have HD := Aside0.mk hd
  clear h0 h1 hd2 hd
  by_cases q1 : x = tt
  · have b1 : (x == tt) = true := beq_iff_eq.mpr q1
    have b1' : (x != tt) = false := bne_eq_false_iff_eq.mpr q1
    rw [if_pos q1] at hb
    clear q1
    by_cases q2 : d = 1
    · have b2 : (d == 1) = true := beq_iff_eq.mpr q2
      obtain rfl : b = true := by rw [← hb.out]; exact decide_eq_true q2
      clear q2 hw hb HD
      go_enter Try.func45, Try.ntmps45
      go_wp2
      go_quiet (fail)
      go_wp2
      go_ret
      exact ⟨rfl, by repeat (first | exact Below.refl _ _ | apply pw_below_drewN | apply below_drew1)⟩
    · have b2 : (d == 1) = false := beq_eq_false_iff_ne.mpr q2
      obtain rfl : b = false := by rw [← hb.out]; exact decide_eq_false q2
      clear q2 hw hb HD
      go_enter Try.func45, Try.ntmps45
      go_wp2
      go_quiet (fail)
      go_wp2
      go_ret
      exact ⟨rfl, by repeat (first | exact Below.refl _ _ | apply pw_below_drewN | apply below_drew1)⟩
  · have b1 : (x == tt) = false := beq_eq_false_iff_ne.mpr q1
    have b1' : (x != tt) = true := bne_iff_ne.mpr q1
    rw [if_neg q1] at hb
    clear q1
    by_cases q2 : rd out x = d - 1
    · have b2 : (rd out x == d - 1) = true := beq_iff_eq.mpr q2
      rw [b2, Bool.true_and] at hb
      clear q2
      by_cases q3 : 1 < d
      · have b3 : decide (1 < d) = true := decide_eq_true q3
        obtain rfl : b = true := by rw [← hb.out]; exact b3
        clear q3 hb HD
        go_enter Try.func45, Try.ntmps45
        go_wp2
        go_quiet (fail)
        go_wp2
        go_ret
        exact ⟨rfl, by repeat (first | exact Below.refl _ _ | apply pw_below_drewN | apply below_drew1)⟩
      · have b3 : decide (1 < d) = false := decide_eq_false q3
        obtain rfl : b = false := by rw [← hb.out]; exact b3
        clear q3 hb HD
        go_enter Try.func45, Try.ntmps45
        go_wp2
        go_quiet (fail)
        go_wp2
        go_ret
        exact ⟨rfl, by repeat (first | exact Below.refl _ _ | apply pw_below_drewN | apply below_drew1)⟩
    · have b2 : (rd out x == d - 1) = false := beq_eq_false_iff_ne.mpr q2
      rw [b2, Bool.false_and] at hb
      obtain rfl : b = false := hb.out.symm
      clear q2 hb HD
      go_enter Try.func45, Try.ntmps45
      go_wp2
      go_quiet (fail)
      go_wp2
      go_ret
      exact ⟨rfl, by repeat (first | exact Below.refl _ _ | apply pw_below_drewN | apply below_drew1)⟩
def cycP (start left : Int) (dist : List Int) (x : Int) : Bool := (x != start) && (rd dist x == left - 1)
set_option maxHeartbeats 8000000 in
theorem cycC_calls (w : World) (g1 g2 g3 : Nat) (start left : Int) (Ao : Option Addr) (co : Nat) (dist : List Int) (x : Int) (h0 : 0 ≤ x) (h1 : x < (dist.length : Int)) (hd : -1000000000 ≤ left) (hd2 : left ≤ 1000000000) (c1 : w.cell? ⟨g1, 0, none⟩ = some (.int .i64 start)) (c2 : w.cell? ⟨g2, 0, none⟩ = some (.slice Ao dist.length co)) (c3 : w.cell? ⟨g3, 0, none⟩ = some (.int .i64 left)) (hr : Kd.C (Kd.int .i64) w Ao dist.length dist) :
    Calls Try.prog 34 #[.int .i64 x, .pointer (some ⟨g1, 0, none⟩), .pointer (some ⟨g2, 0, none⟩), .pointer (some ⟨g3, 0, none⟩)] w fun e w' => e = .returned (.bool (cycP start left dist x)) ∧ Below w.heap.size w w' := by
  obtain ⟨ad, rfl, hx⟩ := Kd.at_int hr x h0 h1
  clear hr
  obtain ⟨b, hb⟩ : ∃ b, Aside0 (cycP start left dist x = b) := ⟨_, ⟨rfl⟩⟩
  rw [hb.out]
  unfold cycP at hb
  have p0 := eq_true h0
  have p1 := eq_true h1
  have hw : IntKind.i64.wrap (left - 1) = left - 1 := by rw [i64_w]; unfold wrap64; omega
  clear h0 h1 hd2 hd
  by_cases q1 : x = start
  · have b1 : (x == start) = true := beq_iff_eq.mpr q1
    have b1' : (x != start) = false := bne_eq_false_iff_eq.mpr q1
    rw [b1', Bool.false_and] at hb
    obtain rfl : b = false := hb.out.symm
    clear q1 hw hb
    go_enter Try.func34, Try.ntmps34
    go_wp2
    go_quiet (fail)
    go_wp2
    go_ret
    exact ⟨rfl, by repeat (first | exact Below.refl _ _ | apply pw_below_drewN | apply below_drew1)⟩
  · have b1 : (x == start) = false := beq_eq_false_iff_ne.mpr q1
    have b1' : (x != start) = true := bne_iff_ne.mpr q1
    rw [b1', Bool.true_and] at hb
    clear q1
    by_cases q2 : rd dist x = left - 1
    · have b2 : (rd dist x == left - 1) = true := beq_iff_eq.mpr q2
      obtain rfl : b = true := by rw [← hb.out]; exact b2
      clear q2 hb
      go_enter Try.func34, Try.ntmps34
      go_wp2
      go_quiet (fail)
      go_wp2
      go_ret
      exact ⟨rfl, by repeat (first | exact Below.refl _ _ | apply pw_below_drewN | apply below_drew1)⟩
    · have b2 : (rd dist x == left - 1) = false := beq_eq_false_iff_ne.mpr q2
      obtain rfl : b = false := by rw [← hb.out]; exact b2
      clear q2 hb
      go_enter Try.func34, Try.ntmps34
      go_wp2
      go_quiet (fail)
      go_wp2
      go_ret
      exact ⟨rfl, by repeat (first | exact Below.refl _ _ | apply pw_below_drewN | apply below_drew1)⟩
/-- The indices that the closure of distances looks at are in range. -/
def disOk (tt : Int) (out l : List Int) : Bool := l.all fun x => decide (0 ≤ x) && decide (x < (out.length : Int))
theorem dis_contains (g1 g2 g3 : Nat) (tt d : Int) (vo : Value) (out : List Int) (A : Option Addr) (c : Nat) (l : List Int) (w : World) (hr : Kd.C (Kd.int .i64) w A l.length l) (hall : disOk tt out l = true) (hd : 1 ≤ d) (hd2 : d ≤ 1000000000)
    (h1 : w.heap[g1]? = some (.cells #[.int .i64 tt] 3 (0, 0))) (h2 : w.heap[g2]? = some (.cells #[.int .i64 d] 3 (0, 0))) (h3 : w.heap[g3]? = some (.cells #[vo] 23 (0, 0))) {base : Nat} {ok : Nat → Prop} (hv : Kd.R (Kd.int .i64) 3 w base ok vo out) :
    Calls Try.prog 37 #[.slice A l.length c, .func (.func 45) #[] #[.pointer (some ⟨g1, 0, none⟩), .pointer (some ⟨g2, 0, none⟩), .pointer (some ⟨g3, 0, none⟩)]] w fun e w' => e = .returned (.bool (l.any (disP tt d out))) ∧ Below w.heap.size w w' := by
  refine ContainsFunc_calls 45 #[.pointer (some ⟨g1, 0, none⟩), .pointer (some ⟨g2, 0, none⟩), .pointer (some ⟨g3, 0, none⟩)] (fun args w => enters_ Try.func45 (by kernel_rfl) rfl args w) (disP tt d out) A c l w hr ?_
  intro j hj w1 hb
  have hx : rd l (j : Int) ∈ l := by simp [rd, List.getD_eq_getElem?_getD, hj]
  have hx2 := List.all_eq_true.1 hall _ hx
  rw [Bool.and_eq_true, decide_eq_true_eq, decide_eq_true_eq] at hx2
  obtain ⟨Ar, cr, rfl, hl, hC⟩ := Kd.R_reads hv
  exact disC_calls w1 g1 g2 g3 tt d Ar cr out (rd l (j : Int)) hx2.1 hx2.2 hd hd2 ((blk_cell (blk_below h1 hb) 0).trans rfl) ((blk_cell (blk_below h2 hb) 0).trans rfl) ((blk_cell (blk_below h3 hb) 0).trans rfl) (Kd.C_below hC hb)
theorem cyc_index (g1 g2 g3 : Nat) (start left : Int) (vo : Value) (dist : List Int) (A : Option Addr) (c : Nat) (l : List Int) (w : World) (hr : Kd.C (Kd.int .i64) w A l.length l) (hall : disOk start dist l = true) (hd : -1000000000 ≤ left) (hd2 : left ≤ 1000000000)
    (h1 : w.heap[g1]? = some (.cells #[.int .i64 start] 3 (0, 0))) (h2 : w.heap[g2]? = some (.cells #[vo] 23 (0, 0))) (h3 : w.heap[g3]? = some (.cells #[.int .i64 left] 3 (0, 0))) {base : Nat} {ok : Nat → Prop} (hv : Kd.R (Kd.int .i64) 3 w base ok vo dist) :
    Calls Try.prog 33 #[.slice A l.length c, .func (.func 34) #[] #[.pointer (some ⟨g1, 0, none⟩), .pointer (some ⟨g2, 0, none⟩), .pointer (some ⟨g3, 0, none⟩)]] w fun e w' => e = .returned (.int .i64 (idxF (cycP start left dist) l)) ∧ Below w.heap.size w w' := by
  refine IndexFunc_calls 34 #[.pointer (some ⟨g1, 0, none⟩), .pointer (some ⟨g2, 0, none⟩), .pointer (some ⟨g3, 0, none⟩)] (fun args w => enters_ Try.func34 (by kernel_rfl) rfl args w) (cycP start left dist) A c l w hr ?_
  intro j hj w1 hb
  have hx : rd l (j : Int) ∈ l := by simp [rd, List.getD_eq_getElem?_getD, hj]
  have hx2 := List.all_eq_true.1 hall _ hx
  rw [Bool.and_eq_true, decide_eq_true_eq, decide_eq_true_eq] at hx2
  obtain ⟨Ar, cr, rfl, hl, hC⟩ := Kd.R_reads hv
  exact cycC_calls w1 g1 g2 g3 start left Ar cr dist (rd l (j : Int)) hx2.1 hx2.2 hd hd2 ((blk_cell (blk_below h1 hb) 0).trans rfl) ((blk_cell (blk_below h2 hb) 0).trans rfl) ((blk_cell (blk_below h3 hb) 0).trans rfl) (Kd.C_below hC hb)
end Go.Proofs.Ytffcaglfcnmhdaa.H
end
