/- Texts that the law WorkersResultsAreFinal comes to, printed and by hand, what is not used left out. -/
import Derived.Test.YtepflpmngegdiaaCWorkersResultsAreFinal7
import Derived.Deep.Slices
import Derived.ProofKit
import Derived.SizedLaws
import Derived.OpenShut
section
namespace Go.Proofs.Ytepflpmngegdiaa.H
open Go.RowKit Go.Proofs.YtepflpmngegdiaaW.PrintWords Go.Proofs.YtepflpmngegdiaaW.PrintLast Go.Proofs.YtepflpmngegdiaaW.PrintMore
set_option linter.unusedVariables false
set_option linter.unusedSimpArgs false
open Go.Deep
/-- What reads as data at type t has d's shape; F is what is then known of the value. -/
structure Opens {α : Type} (P : Program) (d : Kd α) (F : α → Prop) (t : TypeId) : Prop where
  size : P.cellsOf t = d.sz
  get : ∀ {H : Type} {enc : TypeId × Value → H} {w : World} {base : Nat} {spare : Nat → Bool} {held : Bool} {fuel : Nat} {cs : List Value} {x : DataW H × List MemPlace},
    DataW.trod enc P w base spare held fuel t cs = some x → ∃ v : α, d.K w v cs ∧ F v
theorem opens_int {P : Program} {t : TypeId} {k : IntKind} (hu : P.underlying t = some (.int k)) (hc : P.cellsOf t = 1) : Opens P (Kd.int k) (fun n => (Lit.int k n).wf = true) t :=
  ⟨hc, fun h => by
    obtain ⟨n, rfl, _, hw⟩ := DataW.trod_int hu h
    exact ⟨n, rfl, hw⟩⟩
theorem list_of {α : Type} (Q : Nat → α → Prop) : ∀ n : Nat, (∀ i, i < n → ∃ v, Q i v) → ∃ l : List α, l.length = n ∧ ∀ i v, l[i]? = some v → Q i v
  | 0, _ => ⟨[], rfl, fun i v h => by simp at h⟩
  | n + 1, h => by
    obtain ⟨l, hl, hq⟩ := list_of Q n (fun i hi => h i (by omega))
    obtain ⟨v, hv⟩ := h n (by omega)
    refine ⟨l ++ [v], by simp [hl], fun i u hu => ?_⟩
    rcases Nat.lt_or_ge i l.length with hi | hi
    · rw [List.getElem?_append_left hi] at hu
      exact hq i u hu
    · have hi' : i = n := by
        have := (List.getElem?_eq_some_iff.1 hu).1
        simp at this
        omega
      subst hi'
      have : v = u := by simpa [hl] using hu
      subst this
      exact hv
theorem opens_slice {α : Type} {P : Program} {d : Kd α} {F : α → Prop} {t e : TypeId} (hd : Opens P d F e) (hu : P.underlying t = some (.slice e)) (hc : P.cellsOf t = 1) :
    Opens P (Kd.slice e d) (fun l => l.length ≤ 9223372036854775807 ∧ ∀ x ∈ l, F x) t :=
  ⟨hc, fun {H enc w base spare held fuel cs x} h => by
    rcases open_slice hu h with ⟨rfl, _⟩ | ⟨a, len, cap, m, n, D, Pl, rfl, _, hl, hm, hmm, _, hx⟩
    · exact ⟨[], ⟨none, 0, rfl, Nat.le_refl _, Kd.C_nil _ _⟩, by simp⟩
    · unfold maxLen at hm
      have hlm : len ≤ m := by rw [hmm]; split <;> omega
      obtain ⟨l, hll, hq⟩ := list_of (fun i v => ∃ c, w.cells? base (a.add (i * P.cellsOf e)) (P.cellsOf e) = some c ∧ d.K w v c ∧ F v) len (fun i hi => by
        obtain ⟨c, h1, h2⟩ := hx i (by omega)
        obtain ⟨v, h3, h4⟩ := hd.get h2
        exact ⟨v, c, h1, h3, h4⟩)
      refine ⟨l, ⟨some a, cap, by rw [hll], by omega, rfl, by omega, fun _ => ⟨a, rfl, fun j p hj => ?_⟩⟩, by omega, fun v hv => ?_⟩
      · obtain ⟨c, h1, h2, _⟩ := hq j p hj
        refine ⟨c, d.K_len h2, h2, fun i u hi => ?_⟩
        have h5 := World.cells?_some h1
        have hlen : c.length = P.cellsOf e := by rw [d.K_len h2, hd.size]
        have hi' : i < P.cellsOf e := by rw [← hlen]; exact (List.getElem?_eq_some_iff.1 hi).1
        have ha : (a.add (j * d.sz + i)) = (a.add (j * P.cellsOf e)).add i := by
          rw [hd.size]
          unfold Addr.add
          by_cases h1 : j * d.sz = 0 <;> by_cases h2 : i = 0 <;> simp [h1, h2, Nat.add_assoc]
        rw [ha]
        obtain ⟨_, h6, h7⟩ := h5
        have h8 := h7 i hi'
        rw [hi] at h8
        exact h8
      · obtain ⟨i, hi⟩ := List.mem_iff_getElem?.1 hv
        obtain ⟨c, _, _, h3⟩ := hq i v hi
        exact h3⟩
/-- The fields from number i on, which lie from off on. -/
structure OpensAt {α : Type} (P : Program) (fs : Array Field) (i off : Nat) (d : Kd α) (F : α → Prop) : Prop where
  get : ∀ {H : Type} {enc : TypeId × Value → H} {w : World} {base : Nat} {spare : Nat → Bool} {held : Bool} {fuel : Nat} {cs : List Value} {xs : List (DataW H × List MemPlace)},
    xs.length = fs.size → (∀ (i : Nat) (f : Field), fs[i]? = some f → DataW.trod enc P w base spare held fuel f.type ((cs.drop f.offset).take (P.cellsOf f.type)) = xs[i]?) →
    ∃ v : α, d.K w v ((cs.drop off).take d.sz) ∧ F v
theorem opensAt_one {α : Type} {P : Program} {fs : Array Field} {i off : Nat} {d : Kd α} {F : α → Prop} (f : Field) (hf : fs[i]? = some f) (ho : f.offset = off) (hd : Opens P d F f.type) : OpensAt P fs i off d F := by
  refine ⟨fun {H enc w base spare held fuel cs xs} hlen h => ?_⟩
  have h1 := h i f hf
  have hi : i < xs.length := by rw [hlen]; exact (Array.getElem?_eq_some_iff.1 hf).1
  rw [List.getElem?_eq_getElem hi, ho, hd.size] at h1
  exact hd.get h1
theorem opensAt_cons {α β : Type} {P : Program} {fs : Array Field} {i off : Nat} {a : Kd α} {b : Kd β} {F : α → Prop} {G : β → Prop} (h0 : OpensAt P fs i off a F) (h1 : OpensAt P fs (i + 1) (off + a.sz) b G) : OpensAt P fs i off (Kd.pair a b) (fun x => F x.1 ∧ G x.2) := by
  refine ⟨fun {H enc w base spare held fuel cs xs} hlen h => ?_⟩
  obtain ⟨v0, k0, f0⟩ := h0.get hlen h
  obtain ⟨v1, k1, f1⟩ := h1.get hlen h
  refine ⟨(v0, v1), ⟨_, _, ?_, k0, k1⟩, f0, f1⟩
  show (cs.drop off).take (a.sz + b.sz) = _
  rw [List.take_add, List.drop_drop]
theorem opens_struct {α : Type} {P : Program} {t : TypeId} {fs : Array Field} {d : Kd α} {F : α → Prop} (hu : P.underlying t = some (.struct fs)) (hc : P.cellsOf t = d.sz) (h : OpensAt P fs 0 0 d F) : Opens P d F t :=
  ⟨hc, fun {H enc w base spare held fuel cs x} hx => by
    obtain ⟨xs, n, _, _, hl, hlen, hf⟩ := DataW.trod_struct hu hx
    obtain ⟨v, hk, hF⟩ := h.get hlen hf
    refine ⟨v, ?_, hF⟩
    rw [List.drop_zero, List.take_of_length_le (by rw [hl, hc]; exact Nat.le_refl _)] at hk
    exact hk⟩
theorem opens_iso {α β : Type} {P : Program} {t : TypeId} {d : Kd α} {F : α → Prop} (f : β → α) (g : α → β) (hg : ∀ v, f (g v) = v) (h : Opens P d F t) : Opens P (Kd.iso d f) (fun x => F (f x)) t :=
  ⟨h.size, fun hx => by
    obtain ⟨v, hk, hF⟩ := h.get hx
    refine ⟨g v, ?_, ?_⟩
    · show d.K _ (f (g v)) _
      rw [hg]
      exact hk
    · show F (f (g v))
      rw [hg]
      exact hF⟩
/-- How long a slice that came in may be. -/
theorem sized_any {H : Type} {enc : TypeId × Value → H} {P : Program} {W : World} {base : Nat} {spare : Nat → Bool} {held : Bool} {t e : TypeId} {a : Option Addr} {len cap : Nat} {d : DataW H} {ps : List MemPlace} {ts : List TypeId} {ds : List (DataW H)} {j : Nat}
    (hsz : (DataW.weightsEach P ts ds).all (· ≤ reachBytes) = true) (ht : ts[j]? = some t) (hd : ds[j]? = some d) (hu : P.underlying t = some (.slice e)) {B : Nat} (hB : P.bytesOf e = B)
    (h : DataW.Trod enc P W base spare held t (.slice a len cap) d ps) : len * B ≤ 140737488351232 := by
  obtain ⟨fuel, hf⟩ := h
  rcases open_slice hu hf with ⟨hcs, _⟩ | ⟨a', len', cap', m, n, D, Pl, hcs, _, hl, hm, hmm, hx, _⟩
  · simp [Value.cells] at hcs
    obtain ⟨rfl, rfl, rfl⟩ := hcs
    simp
  · simp [Value.cells] at hcs
    obtain ⟨rfl, rfl, rfl⟩ := hcs
    obtain ⟨hx, _⟩ := Prod.mk.inj hx
    subst hx
    have z := sized_slice hsz ht hd hu
    rw [hB] at z
    simp only [List.length_map, List.length_range] at z
    exact Nat.le_trans (Nat.mul_le_mul_right _ (Nat.le_add_right _ _)) z
def Fit_T44 (x : S44) : Prop := ((Lit.int .i64 x.f0).wf = true) ∧ ((Lit.int .i64 x.f1).wf = true) ∧ ((Lit.int .i64 x.f2).wf = true) ∧ ((Lit.int .i64 x.f3).wf = true)
theorem op_T44 : Opens Try.prog k44 Fit_T44 44 := by
  have h := opens_iso (fun x : S44 => (x.f0, x.f1, x.f2, x.f3)) (fun v => ⟨v.1, v.2.1, v.2.2.1, v.2.2.2⟩) (fun _ => rfl) (opens_struct Try.underlying44 (by kernel_rfl) (opensAt_cons (opensAt_one _ rfl rfl (opens_int Try.underlying3 (by kernel_rfl))) (opensAt_cons (opensAt_one _ rfl rfl (opens_int Try.underlying3 (by kernel_rfl))) (opensAt_cons (opensAt_one _ rfl rfl (opens_int Try.underlying3 (by kernel_rfl))) (opensAt_one _ rfl rfl (opens_int Try.underlying3 (by kernel_rfl)))))))
  exact ⟨h.size, fun hx => h.get hx⟩
end Go.Proofs.Ytepflpmngegdiaa.H
end
section
namespace Go.Proofs.Ytepflpmngegdiaa.H
open Go.RowKit Go.Proofs.YtepflpmngegdiaaW.PrintWords Go.Proofs.YtepflpmngegdiaaW.PrintLast Go.Proofs.YtepflpmngegdiaaW.PrintMore
set_option linter.unusedVariables false
set_option linter.unusedSimpArgs false
def changeforgelaw6_WorkersResultsAreFinal.Pure : Prop := ∀ (a0 : Int) (a1 : Int) (a2 : Int) (l3 : List (S44)) (l4 : List (S44)) (a5 : Int), ((Lit.int .i64 a0).wf = true) → ((Lit.int .i64 a1).wf = true) → ((Lit.int .i64 a2).wf = true) → (l3.length ≤ 9223372036854775807 ∧ ∀ x_ ∈ l3, Fit_T44 x_) → l3.length * 32 ≤ 140737488351232 → (l4.length ≤ 9223372036854775807 ∧ ∀ x_ ∈ l4, Fit_T44 x_) → l4.length * 32 ≤ 140737488351232 → ((Lit.int .i64 a5).wf = true) → ∃ k, changeforgelaw6_WorkersResultsAreFinal.f k a0 a1 a2 l3 l4 a5 = some true
end Go.Proofs.Ytepflpmngegdiaa.H
end
section
namespace Go.Proofs.Ytepflpmngegdiaa.H
open Go.RowKit Go.Proofs.YtepflpmngegdiaaW.PrintWords Go.Proofs.YtepflpmngegdiaaW.PrintLast Go.Proofs.YtepflpmngegdiaaW.PrintMore
set_option linter.unusedVariables false
set_option linter.unusedSimpArgs false

def changeforgeref5_Has.l0 : Nat → List Int → Int → Int → Option (Bool)
  | 0, _, _, _ => none
  | k + 1, x0, x1, x5 => if x5 < (x0.length : Int) then (if 0 ≤ x5 then (if (rd x0 x5) = x1 then (some true) else (changeforgeref5_Has.l0 k x0 x1 (wrap64 (x5 + 1)))) else (none)) else (some false)
def changeforgeref5_Has.f (k : Nat) (l0 : List Int) (a1 : Int) : Option (Bool) := changeforgeref5_Has.l0 k l0 a1 0
theorem changeforgeref5_Has.mono_l : ∀ k, (∀ y0 y1 y2, LeO (changeforgeref5_Has.l0 k y0 y1 y2) (changeforgeref5_Has.l0 (k + 1) y0 y1 y2))
  | 0 => fun _ _ _ r h => by simp [changeforgeref5_Has.l0] at h
  | k + 1 => by
    have ih0 := changeforgeref5_Has.mono_l k
    · intro y0 y1 y2
      unfold changeforgeref5_Has.l0
      repeat' first
      | (with_reducible exact ih0 _ _ _)
      | (with_reducible exact LeO.refl _)
      | (with_reducible exact LeO.none _)
      | (with_reducible refine LeO.ite ?_ ?_)
      | (with_reducible refine LeO.bind ?_ (fun _ => ?_))
      | exact ih0 _ _ _
      | exact LeO.none _
      | refine LeO.ite ?_ ?_
      | refine LeO.bind ?_ (fun _ => ?_)
theorem changeforgeref5_Has.mono : ∀ a0 a1 k, LeO (changeforgeref5_Has.f k a0 a1) (changeforgeref5_Has.f (k + 1) a0 a1) := by
  intro a0 a1 k
  have ih0 := changeforgeref5_Has.mono_l k
  unfold changeforgeref5_Has.f
  repeat' first
      | (with_reducible exact ih0 _ _ _)
      | (with_reducible exact LeO.refl _)
      | (with_reducible exact LeO.none _)
      | (with_reducible refine LeO.ite ?_ ?_)
      | (with_reducible refine LeO.bind ?_ (fun _ => ?_))
      | exact ih0 _ _ _
      | exact LeO.none _
      | refine LeO.ite ?_ ?_
      | refine LeO.bind ?_ (fun _ => ?_)
end Go.Proofs.Ytepflpmngegdiaa.H
end
section
namespace Go.Proofs.Ytepflpmngegdiaa.H
open Go.RowKit Go.Proofs.YtepflpmngegdiaaW.PrintWords Go.Proofs.YtepflpmngegdiaaW.PrintLast Go.Proofs.YtepflpmngegdiaaW.PrintMore
set_option linter.unusedVariables false
set_option linter.unusedSimpArgs false

def changeforgeref6_WorkingOn.l0 : Nat → List (S44) → Int → Int → Int → Option (Int)
  | 0, _, _, _, _ => none
  | k + 1, x0, x1, x5, x6 => if x6 < (x0.length : Int) then (if 0 ≤ x6 then (if ((rd_T44 x0 x6).f1) = x1 then (if ((rd_T44 x0 x6).f0) = 1 then (changeforgeref6_WorkingOn.l0 k x0 x1 ((rd_T44 x0 x6).f2) (wrap64 (x6 + 1))) else (if ((rd_T44 x0 x6).f0) = 3 then (changeforgeref6_WorkingOn.l0 k x0 x1 (-2) (wrap64 (x6 + 1))) else (changeforgeref6_WorkingOn.l0 k x0 x1 (-1) (wrap64 (x6 + 1))))) else (changeforgeref6_WorkingOn.l0 k x0 x1 x5 (wrap64 (x6 + 1)))) else (none)) else (some x5)
def changeforgeref6_WorkingOn.f (k : Nat) (l0 : List (S44)) (a1 : Int) : Option (Int) := changeforgeref6_WorkingOn.l0 k l0 a1 (-1) 0
theorem changeforgeref6_WorkingOn.mono_l : ∀ k, (∀ y0 y1 y2 y3, LeO (changeforgeref6_WorkingOn.l0 k y0 y1 y2 y3) (changeforgeref6_WorkingOn.l0 (k + 1) y0 y1 y2 y3))
  | 0 => fun _ _ _ _ r h => by simp [changeforgeref6_WorkingOn.l0] at h
  | k + 1 => by
    have ih0 := changeforgeref6_WorkingOn.mono_l k
    · intro y0 y1 y2 y3
      unfold changeforgeref6_WorkingOn.l0
      repeat' first
      | (with_reducible exact ih0 _ _ _ _)
      | (with_reducible exact LeO.refl _)
      | (with_reducible exact LeO.none _)
      | (with_reducible refine LeO.ite ?_ ?_)
      | (with_reducible refine LeO.bind ?_ (fun _ => ?_))
      | exact ih0 _ _ _ _
      | exact LeO.none _
      | refine LeO.ite ?_ ?_
      | refine LeO.bind ?_ (fun _ => ?_)
theorem changeforgeref6_WorkingOn.mono : ∀ a0 a1 k, LeO (changeforgeref6_WorkingOn.f k a0 a1) (changeforgeref6_WorkingOn.f (k + 1) a0 a1) := by
  intro a0 a1 k
  have ih0 := changeforgeref6_WorkingOn.mono_l k
  unfold changeforgeref6_WorkingOn.f
  repeat' first
      | (with_reducible exact ih0 _ _ _ _)
      | (with_reducible exact LeO.refl _)
      | (with_reducible exact LeO.none _)
      | (with_reducible refine LeO.ite ?_ ?_)
      | (with_reducible refine LeO.bind ?_ (fun _ => ?_))
      | exact ih0 _ _ _ _
      | exact LeO.none _
      | refine LeO.ite ?_ ?_
      | refine LeO.bind ?_ (fun _ => ?_)
mutual
def changeforgelaw6_WorkersAssignmentsArePermitted.j0 : Nat → Int → Int → Int → List (S44) → Int → Int → Bool → Bool → Option (Bool)
  | 0, _, _, _, _, _, _, _, _ => none
  | k + 1, x0, x1, x2, x3, x9, x10, x11, x38 => if x38 = true then ((changeforgelaw6_farms.f k).bind fun t175 => (if t175 = true then (some (!x11)) else (some false))) else (if (x3.length : Int) > 39 then (some ((x3.length : Int) == 40)) else (if x11 = true then (if ([] : List (S44)).length + x3.length < 4398046511104 then ((some (([] : List (S44)) ++ x3 : List (S44))).bind fun y176 => (if y176.length < 4398046511104 then ((workers_Play.f x0 x1 x2 (y176 ++ [(⟨1, x10, x9, 0⟩ : S44)])).bind fun bt182 => (if bt182.2.1 = 0 then ((changeforgelaw6_in.f x9 0 (wrap64 ((bt182.1.length : Int) - 1))).bind fun t188 => (if t188 = true then (if 0 ≤ x9 then (if x9 < (bt182.1.length : Int) then (some ((rd bt182.1 x9) == (-1))) else (none)) else (none)) else (some false))) else (some false))) else (none))) else (none)) else ((workers_Play.f x0 x1 x2 x3).bind fun bt190 => (changeforgelaw6_WorkersAssignmentsArePermitted.l0 k x0 x1 x2 x3 bt190.1 0 bt190.2.1 bt190.2.2))))
def changeforgelaw6_WorkersAssignmentsArePermitted.l0 : Nat → Int → Int → Int → List (S44) → List Int → Int → Int → Int → Option (Bool)
  | 0, _, _, _, _, _, _, _, _ => none
  | k + 1, x0, x1, x2, x3, x16, x18, x196000, x196001 => if x18 < (x16.length : Int) then ((workers_Reports.f x0 x1 x2 x3 x18).bind fun bt196 => (changeforgelaw6_WorkersAssignmentsArePermitted.l1 k x0 x1 x2 x3 x16 x18 bt196.1 0 x196000 x196001 bt196.2.1 bt196.2.2)) else (some (x196000 == 0))
def changeforgelaw6_WorkersAssignmentsArePermitted.l1 : Nat → Int → Int → Int → List (S44) → List Int → Int → List Int → Int → Int → Int → Int → Int → Option (Bool)
  | 0, _, _, _, _, _, _, _, _, _, _, _, _ => none
  | k + 1, x0, x1, x2, x3, x16, x18, x19, x21, x196000, x196001, x202000, x202001 => if x21 < (x19.length : Int) then (if 0 ≤ x18 then (if x18 < (x16.length : Int) then (if (rd x16 x18) < 0 then (if 0 ≤ x21 then (if (rd x19 x21) < 0 then ((changeforgeref6_WorkingOn.f k x3 x21).bind fun t204 => (if t204 = (-1) then (some false) else (changeforgelaw6_WorkersAssignmentsArePermitted.l1 k x0 x1 x2 x3 x16 x18 x19 (wrap64 (x21 + 1)) x196000 x196001 x202000 x202001))) else (changeforgelaw6_WorkersAssignmentsArePermitted.l1 k x0 x1 x2 x3 x16 x18 x19 (wrap64 (x21 + 1)) x196000 x196001 x202000 x202001)) else (none)) else (changeforgelaw6_WorkersAssignmentsArePermitted.l1 k x0 x1 x2 x3 x16 x18 x19 (wrap64 (x21 + 1)) x196000 x196001 x202000 x202001)) else (none)) else (none)) else (if x202000 = 0 then (changeforgelaw6_WorkersAssignmentsArePermitted.l0 k x0 x1 x2 x3 x16 (wrap64 (x18 + 1)) x196000 x196001) else (some false))
end
def changeforgelaw6_WorkersAssignmentsArePermitted.f (k : Nat) (a0 : Int) (a1 : Int) (a2 : Int) (l3 : List (S44)) : Option (Bool) := (workers_Next.f a0 a1 a2 l3).bind fun bt168 => ((changeforgelaw6_farms.f k).bind fun t174 => (if t174 = true then (changeforgelaw6_WorkersAssignmentsArePermitted.j0 k a0 a1 a2 l3 bt168.1 bt168.2.1 bt168.2.2.1 (bt168.2.2.2.1 != 0)) else (changeforgelaw6_WorkersAssignmentsArePermitted.j0 k a0 a1 a2 l3 bt168.1 bt168.2.1 bt168.2.2.1 true)))
theorem changeforgelaw6_WorkersAssignmentsArePermitted.mono_l : ∀ k, (∀ y0 y1 y2 y3 y4 y5 y6 y7, LeO (changeforgelaw6_WorkersAssignmentsArePermitted.j0 k y0 y1 y2 y3 y4 y5 y6 y7) (changeforgelaw6_WorkersAssignmentsArePermitted.j0 (k + 1) y0 y1 y2 y3 y4 y5 y6 y7)) ∧ (∀ y0 y1 y2 y3 y4 y5 y6 y7, LeO (changeforgelaw6_WorkersAssignmentsArePermitted.l0 k y0 y1 y2 y3 y4 y5 y6 y7) (changeforgelaw6_WorkersAssignmentsArePermitted.l0 (k + 1) y0 y1 y2 y3 y4 y5 y6 y7)) ∧ (∀ y0 y1 y2 y3 y4 y5 y6 y7 y8 y9 y10 y11, LeO (changeforgelaw6_WorkersAssignmentsArePermitted.l1 k y0 y1 y2 y3 y4 y5 y6 y7 y8 y9 y10 y11) (changeforgelaw6_WorkersAssignmentsArePermitted.l1 (k + 1) y0 y1 y2 y3 y4 y5 y6 y7 y8 y9 y10 y11))
  | 0 => ⟨fun _ _ _ _ _ _ _ _ r h => by simp [changeforgelaw6_WorkersAssignmentsArePermitted.j0] at h, fun _ _ _ _ _ _ _ _ r h => by simp [changeforgelaw6_WorkersAssignmentsArePermitted.l0] at h, fun _ _ _ _ _ _ _ _ _ _ _ _ r h => by simp [changeforgelaw6_WorkersAssignmentsArePermitted.l1] at h⟩
  | k + 1 => by
    obtain ⟨ih0, ih1, ih2⟩ := changeforgelaw6_WorkersAssignmentsArePermitted.mono_l k
    refine ⟨?_, ?_, ?_⟩
    · intro y0 y1 y2 y3 y4 y5 y6 y7
      unfold changeforgelaw6_WorkersAssignmentsArePermitted.j0
      repeat' first
      | (with_reducible exact ih0 _ _ _ _ _ _ _ _)
      | (with_reducible exact ih1 _ _ _ _ _ _ _ _)
      | (with_reducible exact ih2 _ _ _ _ _ _ _ _ _ _ _ _)
      | (with_reducible exact changeforgelaw6_farms.mono _)
      | (with_reducible exact changeforgeref6_WorkingOn.mono _ _ _)
      | (with_reducible exact LeO.refl _)
      | (with_reducible exact LeO.none _)
      | (with_reducible refine LeO.ite ?_ ?_)
      | (with_reducible refine LeO.bind ?_ (fun _ => ?_))
      | exact ih0 _ _ _ _ _ _ _ _
      | exact ih1 _ _ _ _ _ _ _ _
      | exact ih2 _ _ _ _ _ _ _ _ _ _ _ _
      | exact changeforgelaw6_farms.mono _
      | exact changeforgeref6_WorkingOn.mono _ _ _
      | exact LeO.none _
      | refine LeO.ite ?_ ?_
      | refine LeO.bind ?_ (fun _ => ?_)
    · intro y0 y1 y2 y3 y4 y5 y6 y7
      unfold changeforgelaw6_WorkersAssignmentsArePermitted.l0
      repeat' first
      | (with_reducible exact ih0 _ _ _ _ _ _ _ _)
      | (with_reducible exact ih1 _ _ _ _ _ _ _ _)
      | (with_reducible exact ih2 _ _ _ _ _ _ _ _ _ _ _ _)
      | (with_reducible exact changeforgelaw6_farms.mono _)
      | (with_reducible exact changeforgeref6_WorkingOn.mono _ _ _)
      | (with_reducible exact LeO.refl _)
      | (with_reducible exact LeO.none _)
      | (with_reducible refine LeO.ite ?_ ?_)
      | (with_reducible refine LeO.bind ?_ (fun _ => ?_))
      | exact ih0 _ _ _ _ _ _ _ _
      | exact ih1 _ _ _ _ _ _ _ _
      | exact ih2 _ _ _ _ _ _ _ _ _ _ _ _
      | exact changeforgelaw6_farms.mono _
      | exact changeforgeref6_WorkingOn.mono _ _ _
      | exact LeO.none _
      | refine LeO.ite ?_ ?_
      | refine LeO.bind ?_ (fun _ => ?_)
    · intro y0 y1 y2 y3 y4 y5 y6 y7 y8 y9 y10 y11
      unfold changeforgelaw6_WorkersAssignmentsArePermitted.l1
      repeat' first
      | (with_reducible exact ih0 _ _ _ _ _ _ _ _)
      | (with_reducible exact ih1 _ _ _ _ _ _ _ _)
      | (with_reducible exact ih2 _ _ _ _ _ _ _ _ _ _ _ _)
      | (with_reducible exact changeforgelaw6_farms.mono _)
      | (with_reducible exact changeforgeref6_WorkingOn.mono _ _ _)
      | (with_reducible exact LeO.refl _)
      | (with_reducible exact LeO.none _)
      | (with_reducible refine LeO.ite ?_ ?_)
      | (with_reducible refine LeO.bind ?_ (fun _ => ?_))
      | exact ih0 _ _ _ _ _ _ _ _
      | exact ih1 _ _ _ _ _ _ _ _
      | exact ih2 _ _ _ _ _ _ _ _ _ _ _ _
      | exact changeforgelaw6_farms.mono _
      | exact changeforgeref6_WorkingOn.mono _ _ _
      | exact LeO.none _
      | refine LeO.ite ?_ ?_
      | refine LeO.bind ?_ (fun _ => ?_)
theorem changeforgelaw6_WorkersAssignmentsArePermitted.mono : ∀ a0 a1 a2 a3 k, LeO (changeforgelaw6_WorkersAssignmentsArePermitted.f k a0 a1 a2 a3) (changeforgelaw6_WorkersAssignmentsArePermitted.f (k + 1) a0 a1 a2 a3) := by
  intro a0 a1 a2 a3 k
  obtain ⟨ih0, ih1, ih2⟩ := changeforgelaw6_WorkersAssignmentsArePermitted.mono_l k
  unfold changeforgelaw6_WorkersAssignmentsArePermitted.f
  repeat' first
      | (with_reducible exact ih0 _ _ _ _ _ _ _ _)
      | (with_reducible exact ih1 _ _ _ _ _ _ _ _)
      | (with_reducible exact ih2 _ _ _ _ _ _ _ _ _ _ _ _)
      | (with_reducible exact changeforgelaw6_farms.mono _)
      | (with_reducible exact changeforgeref6_WorkingOn.mono _ _ _)
      | (with_reducible exact LeO.refl _)
      | (with_reducible exact LeO.none _)
      | (with_reducible refine LeO.ite ?_ ?_)
      | (with_reducible refine LeO.bind ?_ (fun _ => ?_))
      | exact ih0 _ _ _ _ _ _ _ _
      | exact ih1 _ _ _ _ _ _ _ _
      | exact ih2 _ _ _ _ _ _ _ _ _ _ _ _
      | exact changeforgelaw6_farms.mono _
      | exact changeforgeref6_WorkingOn.mono _ _ _
      | exact LeO.none _
      | refine LeO.ite ?_ ?_
      | refine LeO.bind ?_ (fun _ => ?_)
end Go.Proofs.Ytepflpmngegdiaa.H
end
section
namespace Go.Proofs.Ytepflpmngegdiaa.H
open Go.RowKit Go.Proofs.YtepflpmngegdiaaW.PrintWords Go.Proofs.YtepflpmngegdiaaW.PrintLast Go.Proofs.YtepflpmngegdiaaW.PrintMore
set_option linter.unusedVariables false
set_option linter.unusedSimpArgs false

def changeforgeref6_Reported.l0 : Nat → List (S44) → Int → Int → Int → Option (Int)
  | 0, _, _, _, _ => none
  | k + 1, x0, x1, x2, x7 => if x7 < (x0.length : Int) then (if 0 ≤ x7 then (if ((rd_T44 x0 x7).f0) = 2 then (if ((rd_T44 x0 x7).f1) = x1 then (if x7 ≤ (x0.length : Int) then ((changeforgeref6_WorkingOn.f k (x0.take (x7 : Int).toNat) x1).bind fun t241 => (if t241 = x2 then (some ((rd_T44 x0 x7).f3)) else (changeforgeref6_Reported.l0 k x0 x1 x2 (wrap64 (x7 + 1))))) else (none)) else (changeforgeref6_Reported.l0 k x0 x1 x2 (wrap64 (x7 + 1)))) else (changeforgeref6_Reported.l0 k x0 x1 x2 (wrap64 (x7 + 1)))) else (none)) else (some (-1))
def changeforgeref6_Reported.f (k : Nat) (l0 : List (S44)) (a1 : Int) (a2 : Int) : Option (Int) := changeforgeref6_Reported.l0 k l0 a1 a2 0
theorem changeforgeref6_Reported.mono_l : ∀ k, (∀ y0 y1 y2 y3, LeO (changeforgeref6_Reported.l0 k y0 y1 y2 y3) (changeforgeref6_Reported.l0 (k + 1) y0 y1 y2 y3))
  | 0 => fun _ _ _ _ r h => by simp [changeforgeref6_Reported.l0] at h
  | k + 1 => by
    have ih0 := changeforgeref6_Reported.mono_l k
    · intro y0 y1 y2 y3
      unfold changeforgeref6_Reported.l0
      repeat' first
      | (with_reducible exact ih0 _ _ _ _)
      | (with_reducible exact changeforgeref6_WorkingOn.mono _ _ _)
      | (with_reducible exact LeO.refl _)
      | (with_reducible exact LeO.none _)
      | (with_reducible refine LeO.ite ?_ ?_)
      | (with_reducible refine LeO.bind ?_ (fun _ => ?_))
      | exact ih0 _ _ _ _
      | exact changeforgeref6_WorkingOn.mono _ _ _
      | exact LeO.none _
      | refine LeO.ite ?_ ?_
      | refine LeO.bind ?_ (fun _ => ?_)
theorem changeforgeref6_Reported.mono : ∀ a0 a1 a2 k, LeO (changeforgeref6_Reported.f k a0 a1 a2) (changeforgeref6_Reported.f (k + 1) a0 a1 a2) := by
  intro a0 a1 a2 k
  have ih0 := changeforgeref6_Reported.mono_l k
  unfold changeforgeref6_Reported.f
  repeat' first
      | (with_reducible exact ih0 _ _ _ _)
      | (with_reducible exact changeforgeref6_WorkingOn.mono _ _ _)
      | (with_reducible exact LeO.refl _)
      | (with_reducible exact LeO.none _)
      | (with_reducible refine LeO.ite ?_ ?_)
      | (with_reducible refine LeO.bind ?_ (fun _ => ?_))
      | exact ih0 _ _ _ _
      | exact changeforgeref6_WorkingOn.mono _ _ _
      | exact LeO.none _
      | refine LeO.ite ?_ ?_
      | refine LeO.bind ?_ (fun _ => ?_)
end Go.Proofs.Ytepflpmngegdiaa.H
end
section
namespace Go.Proofs.Ytepflpmngegdiaa.H
open Go.RowKit Go.Proofs.YtepflpmngegdiaaW.PrintWords Go.Proofs.YtepflpmngegdiaaW.PrintLast Go.Proofs.YtepflpmngegdiaaW.PrintMore
set_option linter.unusedVariables false
set_option linter.unusedSimpArgs false

mutual
def changeforgeref6_Accepted.l0 : Nat → List (S44) → Int → Int → Int → Int → Option (Int)
  | 0, _, _, _, _, _ => none
  | k + 1, x0, x1, x2, x3, x9 => if x9 < (x0.length : Int) then (if 0 ≤ x9 then (if ((rd_T44 x0 x9).f0) = 2 then (if x9 ≤ (x0.length : Int) then ((changeforgeref6_WorkingOn.f k (x0.take (x9 : Int).toNat) ((rd_T44 x0 x9).f1)).bind fun t275 => (changeforgeref6_Accepted.j1 k x0 x1 x2 x3 x9 (t275 != x3))) else (none)) else (changeforgeref6_Accepted.j1 k x0 x1 x2 x3 x9 true)) else (none)) else (some (-1))
def changeforgeref6_Accepted.j1 : Nat → List (S44) → Int → Int → Int → Int → Bool → Option (Int)
  | 0, _, _, _, _, _, _ => none
  | k + 1, x0, x1, x2, x3, x9, x36 => if x36 = true then (changeforgeref6_Accepted.l0 k x0 x1 x2 x3 (wrap64 (x9 + 1))) else (changeforgeref6_Accepted.l1 k x0 x1 x2 x3 x9 0 0)
def changeforgeref6_Accepted.l1 : Nat → List (S44) → Int → Int → Int → Int → Int → Int → Option (Int)
  | 0, _, _, _, _, _, _, _ => none
  | k + 1, x0, x1, x2, x3, x9, x10, x11 => if x11 < x1 then (if 0 ≤ (wrap64 (x9 + 1)) then (if (wrap64 (x9 + 1)) ≤ (x0.length : Int) then ((changeforgeref6_Reported.f k (x0.take ((wrap64 (x9 + 1)) : Int).toNat) x11 x3).bind fun t280 => (if 0 ≤ x9 then (if x9 < (x0.length : Int) then (if t280 = ((rd_T44 x0 x9).f3) then (changeforgeref6_Accepted.l1 k x0 x1 x2 x3 x9 (wrap64 (x10 + 1)) (wrap64 (x11 + 1))) else (changeforgeref6_Accepted.l1 k x0 x1 x2 x3 x9 x10 (wrap64 (x11 + 1)))) else (none)) else (none))) else (none)) else (none)) else (if x10 ≥ x2 then (if 0 ≤ x9 then (if x9 < (x0.length : Int) then (some ((rd_T44 x0 x9).f3)) else (none)) else (none)) else (changeforgeref6_Accepted.l0 k x0 x1 x2 x3 (wrap64 (x9 + 1))))
end
def changeforgeref6_Accepted.f (k : Nat) (l0 : List (S44)) (a1 : Int) (a2 : Int) (a3 : Int) : Option (Int) := changeforgeref6_Accepted.l0 k l0 a1 a2 a3 0
theorem changeforgeref6_Accepted.mono_l : ∀ k, (∀ y0 y1 y2 y3 y4, LeO (changeforgeref6_Accepted.l0 k y0 y1 y2 y3 y4) (changeforgeref6_Accepted.l0 (k + 1) y0 y1 y2 y3 y4)) ∧ (∀ y0 y1 y2 y3 y4 y5, LeO (changeforgeref6_Accepted.j1 k y0 y1 y2 y3 y4 y5) (changeforgeref6_Accepted.j1 (k + 1) y0 y1 y2 y3 y4 y5)) ∧ (∀ y0 y1 y2 y3 y4 y5 y6, LeO (changeforgeref6_Accepted.l1 k y0 y1 y2 y3 y4 y5 y6) (changeforgeref6_Accepted.l1 (k + 1) y0 y1 y2 y3 y4 y5 y6))
  | 0 => ⟨fun _ _ _ _ _ r h => by simp [changeforgeref6_Accepted.l0] at h, fun _ _ _ _ _ _ r h => by simp [changeforgeref6_Accepted.j1] at h, fun _ _ _ _ _ _ _ r h => by simp [changeforgeref6_Accepted.l1] at h⟩
  | k + 1 => by
    obtain ⟨ih0, ih1, ih2⟩ := changeforgeref6_Accepted.mono_l k
    refine ⟨?_, ?_, ?_⟩
    · intro y0 y1 y2 y3 y4
      unfold changeforgeref6_Accepted.l0
      repeat' first
      | (with_reducible exact ih0 _ _ _ _ _)
      | (with_reducible exact ih1 _ _ _ _ _ _)
      | (with_reducible exact ih2 _ _ _ _ _ _ _)
      | (with_reducible exact changeforgeref6_Reported.mono _ _ _ _)
      | (with_reducible exact changeforgeref6_WorkingOn.mono _ _ _)
      | (with_reducible exact LeO.refl _)
      | (with_reducible exact LeO.none _)
      | (with_reducible refine LeO.ite ?_ ?_)
      | (with_reducible refine LeO.bind ?_ (fun _ => ?_))
      | exact ih0 _ _ _ _ _
      | exact ih1 _ _ _ _ _ _
      | exact ih2 _ _ _ _ _ _ _
      | exact changeforgeref6_Reported.mono _ _ _ _
      | exact changeforgeref6_WorkingOn.mono _ _ _
      | exact LeO.none _
      | refine LeO.ite ?_ ?_
      | refine LeO.bind ?_ (fun _ => ?_)
    · intro y0 y1 y2 y3 y4 y5
      unfold changeforgeref6_Accepted.j1
      repeat' first
      | (with_reducible exact ih0 _ _ _ _ _)
      | (with_reducible exact ih1 _ _ _ _ _ _)
      | (with_reducible exact ih2 _ _ _ _ _ _ _)
      | (with_reducible exact changeforgeref6_Reported.mono _ _ _ _)
      | (with_reducible exact changeforgeref6_WorkingOn.mono _ _ _)
      | (with_reducible exact LeO.refl _)
      | (with_reducible exact LeO.none _)
      | (with_reducible refine LeO.ite ?_ ?_)
      | (with_reducible refine LeO.bind ?_ (fun _ => ?_))
      | exact ih0 _ _ _ _ _
      | exact ih1 _ _ _ _ _ _
      | exact ih2 _ _ _ _ _ _ _
      | exact changeforgeref6_Reported.mono _ _ _ _
      | exact changeforgeref6_WorkingOn.mono _ _ _
      | exact LeO.none _
      | refine LeO.ite ?_ ?_
      | refine LeO.bind ?_ (fun _ => ?_)
    · intro y0 y1 y2 y3 y4 y5 y6
      unfold changeforgeref6_Accepted.l1
      repeat' first
      | (with_reducible exact ih0 _ _ _ _ _)
      | (with_reducible exact ih1 _ _ _ _ _ _)
      | (with_reducible exact ih2 _ _ _ _ _ _ _)
      | (with_reducible exact changeforgeref6_Reported.mono _ _ _ _)
      | (with_reducible exact changeforgeref6_WorkingOn.mono _ _ _)
      | (with_reducible exact LeO.refl _)
      | (with_reducible exact LeO.none _)
      | (with_reducible refine LeO.ite ?_ ?_)
      | (with_reducible refine LeO.bind ?_ (fun _ => ?_))
      | exact ih0 _ _ _ _ _
      | exact ih1 _ _ _ _ _ _
      | exact ih2 _ _ _ _ _ _ _
      | exact changeforgeref6_Reported.mono _ _ _ _
      | exact changeforgeref6_WorkingOn.mono _ _ _
      | exact LeO.none _
      | refine LeO.ite ?_ ?_
      | refine LeO.bind ?_ (fun _ => ?_)
theorem changeforgeref6_Accepted.mono : ∀ a0 a1 a2 a3 k, LeO (changeforgeref6_Accepted.f k a0 a1 a2 a3) (changeforgeref6_Accepted.f (k + 1) a0 a1 a2 a3) := by
  intro a0 a1 a2 a3 k
  obtain ⟨ih0, ih1, ih2⟩ := changeforgeref6_Accepted.mono_l k
  unfold changeforgeref6_Accepted.f
  repeat' first
      | (with_reducible exact ih0 _ _ _ _ _)
      | (with_reducible exact ih1 _ _ _ _ _ _)
      | (with_reducible exact ih2 _ _ _ _ _ _ _)
      | (with_reducible exact changeforgeref6_Reported.mono _ _ _ _)
      | (with_reducible exact changeforgeref6_WorkingOn.mono _ _ _)
      | (with_reducible exact LeO.refl _)
      | (with_reducible exact LeO.none _)
      | (with_reducible refine LeO.ite ?_ ?_)
      | (with_reducible refine LeO.bind ?_ (fun _ => ?_))
      | exact ih0 _ _ _ _ _
      | exact ih1 _ _ _ _ _ _
      | exact ih2 _ _ _ _ _ _ _
      | exact changeforgeref6_Reported.mono _ _ _ _
      | exact changeforgeref6_WorkingOn.mono _ _ _
      | exact LeO.none _
      | refine LeO.ite ?_ ?_
      | refine LeO.bind ?_ (fun _ => ?_)
end Go.Proofs.Ytepflpmngegdiaa.H
end
section
namespace Go.Proofs.Ytepflpmngegdiaa.H
open Go.RowKit Go.Proofs.YtepflpmngegdiaaW.PrintWords Go.Proofs.YtepflpmngegdiaaW.PrintLast Go.Proofs.YtepflpmngegdiaaW.PrintMore
set_option linter.unusedVariables false
set_option linter.unusedSimpArgs false

mutual
def changeforgelaw6_WorkersLiarsAreOutvoted.j0 : Nat → Int → Int → Int → List Int → List Int → Bool → Int → Int → Int → Int → Option (Bool)
  | 0, _, _, _, _, _, _, _, _, _, _ => none
  | k + 1, x2, x4, x5, x13, x15, x47, x211000, x211001, x217000, x217001 => if x47 = true then ((changeforgelaw6_farms.f k).bind fun t218 => (if t218 = true then (if x211000 = 0 then (if x217000 = 0 then (some true) else (some ((x15.length : Int) == 0))) else (if (x13.length : Int) = 0 then (if x217000 = 0 then (some true) else (some ((x15.length : Int) == 0))) else (some false))) else (some false))) else (changeforgelaw6_WorkersLiarsAreOutvoted.l0 k x2 x4 x5 x13 x15 0 0)
def changeforgelaw6_WorkersLiarsAreOutvoted.l0 : Nat → Int → Int → Int → List Int → List Int → Int → Int → Option (Bool)
  | 0, _, _, _, _, _, _, _ => none
  | k + 1, x2, x4, x5, x13, x15, x17, x18 => if x18 < (x15.length : Int) then (if 0 ≤ x18 then (if (rd x15 x18) ≥ 0 then (if (rd x15 x18) = x5 then (changeforgelaw6_WorkersLiarsAreOutvoted.l0 k x2 x4 x5 x13 x15 x17 (wrap64 (x18 + 1))) else (changeforgelaw6_WorkersLiarsAreOutvoted.l0 k x2 x4 x5 x13 x15 (wrap64 (x17 + 1)) (wrap64 (x18 + 1)))) else (changeforgelaw6_WorkersLiarsAreOutvoted.l0 k x2 x4 x5 x13 x15 x17 (wrap64 (x18 + 1)))) else (none)) else ((changeforgelaw6_in.f x4 0 (wrap64 ((x13.length : Int) - 1))).bind fun t221 => (if t221 = true then (if x17 ≥ x2 then (some true) else (if 0 ≤ x4 then (if x4 < (x13.length : Int) then (if (rd x13 x4) = (-1) then (some true) else (some ((rd x13 x4) == x5))) else (none)) else (none))) else (some false)))
end
def changeforgelaw6_WorkersLiarsAreOutvoted.f (k : Nat) (a0 : Int) (a1 : Int) (a2 : Int) (l3 : List (S44)) (a4 : Int) (a5 : Int) : Option (Bool) := (workers_Play.f a0 a1 a2 l3).bind fun bt205 => ((workers_Reports.f a0 a1 a2 l3 a4).bind fun bt211 => ((changeforgelaw6_farms.f k).bind fun t217 => (if t217 = true then (if bt205.2.1 = 0 then (changeforgelaw6_WorkersLiarsAreOutvoted.j0 k a2 a4 a5 bt205.1 bt211.1 (bt211.2.1 != 0) bt205.2.1 bt205.2.2 bt211.2.1 bt211.2.2) else (changeforgelaw6_WorkersLiarsAreOutvoted.j0 k a2 a4 a5 bt205.1 bt211.1 true bt205.2.1 bt205.2.2 bt211.2.1 bt211.2.2)) else (changeforgelaw6_WorkersLiarsAreOutvoted.j0 k a2 a4 a5 bt205.1 bt211.1 true bt205.2.1 bt205.2.2 bt211.2.1 bt211.2.2))))
theorem changeforgelaw6_WorkersLiarsAreOutvoted.mono_l : ∀ k, (∀ y0 y1 y2 y3 y4 y5 y6 y7 y8 y9, LeO (changeforgelaw6_WorkersLiarsAreOutvoted.j0 k y0 y1 y2 y3 y4 y5 y6 y7 y8 y9) (changeforgelaw6_WorkersLiarsAreOutvoted.j0 (k + 1) y0 y1 y2 y3 y4 y5 y6 y7 y8 y9)) ∧ (∀ y0 y1 y2 y3 y4 y5 y6, LeO (changeforgelaw6_WorkersLiarsAreOutvoted.l0 k y0 y1 y2 y3 y4 y5 y6) (changeforgelaw6_WorkersLiarsAreOutvoted.l0 (k + 1) y0 y1 y2 y3 y4 y5 y6))
  | 0 => ⟨fun _ _ _ _ _ _ _ _ _ _ r h => by simp [changeforgelaw6_WorkersLiarsAreOutvoted.j0] at h, fun _ _ _ _ _ _ _ r h => by simp [changeforgelaw6_WorkersLiarsAreOutvoted.l0] at h⟩
  | k + 1 => by
    obtain ⟨ih0, ih1⟩ := changeforgelaw6_WorkersLiarsAreOutvoted.mono_l k
    refine ⟨?_, ?_⟩
    · intro y0 y1 y2 y3 y4 y5 y6 y7 y8 y9
      unfold changeforgelaw6_WorkersLiarsAreOutvoted.j0
      repeat' first
      | (with_reducible exact ih0 _ _ _ _ _ _ _ _ _ _)
      | (with_reducible exact ih1 _ _ _ _ _ _ _)
      | (with_reducible exact changeforgelaw6_farms.mono _)
      | (with_reducible exact LeO.refl _)
      | (with_reducible exact LeO.none _)
      | (with_reducible refine LeO.ite ?_ ?_)
      | (with_reducible refine LeO.bind ?_ (fun _ => ?_))
      | exact ih0 _ _ _ _ _ _ _ _ _ _
      | exact ih1 _ _ _ _ _ _ _
      | exact changeforgelaw6_farms.mono _
      | exact LeO.none _
      | refine LeO.ite ?_ ?_
      | refine LeO.bind ?_ (fun _ => ?_)
    · intro y0 y1 y2 y3 y4 y5 y6
      unfold changeforgelaw6_WorkersLiarsAreOutvoted.l0
      repeat' first
      | (with_reducible exact ih0 _ _ _ _ _ _ _ _ _ _)
      | (with_reducible exact ih1 _ _ _ _ _ _ _)
      | (with_reducible exact changeforgelaw6_farms.mono _)
      | (with_reducible exact LeO.refl _)
      | (with_reducible exact LeO.none _)
      | (with_reducible refine LeO.ite ?_ ?_)
      | (with_reducible refine LeO.bind ?_ (fun _ => ?_))
      | exact ih0 _ _ _ _ _ _ _ _ _ _
      | exact ih1 _ _ _ _ _ _ _
      | exact changeforgelaw6_farms.mono _
      | exact LeO.none _
      | refine LeO.ite ?_ ?_
      | refine LeO.bind ?_ (fun _ => ?_)
theorem changeforgelaw6_WorkersLiarsAreOutvoted.mono : ∀ a0 a1 a2 a3 a4 a5 k, LeO (changeforgelaw6_WorkersLiarsAreOutvoted.f k a0 a1 a2 a3 a4 a5) (changeforgelaw6_WorkersLiarsAreOutvoted.f (k + 1) a0 a1 a2 a3 a4 a5) := by
  intro a0 a1 a2 a3 a4 a5 k
  obtain ⟨ih0, ih1⟩ := changeforgelaw6_WorkersLiarsAreOutvoted.mono_l k
  unfold changeforgelaw6_WorkersLiarsAreOutvoted.f
  repeat' first
      | (with_reducible exact ih0 _ _ _ _ _ _ _ _ _ _)
      | (with_reducible exact ih1 _ _ _ _ _ _ _)
      | (with_reducible exact changeforgelaw6_farms.mono _)
      | (with_reducible exact LeO.refl _)
      | (with_reducible exact LeO.none _)
      | (with_reducible refine LeO.ite ?_ ?_)
      | (with_reducible refine LeO.bind ?_ (fun _ => ?_))
      | exact ih0 _ _ _ _ _ _ _ _ _ _
      | exact ih1 _ _ _ _ _ _ _
      | exact changeforgelaw6_farms.mono _
      | exact LeO.none _
      | refine LeO.ite ?_ ?_
      | refine LeO.bind ?_ (fun _ => ?_)
def changeforgeref6_fault.f (a0 : Int) (a1 : Int) : Option (Int × Int) := some (a0, a1)
def changeforgeref6_in.f (a0 : Int) (a1 : Int) (a2 : Int) : Option (Bool) := if a0 ≥ a1 then (some (decide (a0 ≤ a2))) else (some false)
def changeforgeref6_FarmFault.f (a0 : Int) (a1 : Int) (a2 : Int) : Option (Int × Int) := (changeforgeref6_in.f a0 0 12).bind fun t226 => (if t226 = true then ((changeforgeref6_in.f a1 1 8).bind fun t227 => (if t227 = true then ((changeforgeref6_in.f a2 1 a1).bind fun t228 => (if t228 = true then (some (0, 0)) else ((changeforgeref6_fault.f 3 (-1)).bind fun bt229 => (some (bt229.1, bt229.2))))) else ((changeforgeref6_fault.f 3 (-1)).bind fun bt231 => (some (bt231.1, bt231.2))))) else ((changeforgeref6_fault.f 3 (-1)).bind fun bt233 => (some (bt233.1, bt233.2))))
end Go.Proofs.Ytepflpmngegdiaa.H
end
section
namespace Go.Proofs.Ytepflpmngegdiaa.H
open Go.RowKit Go.Proofs.YtepflpmngegdiaaW.PrintWords Go.Proofs.YtepflpmngegdiaaW.PrintLast Go.Proofs.YtepflpmngegdiaaW.PrintMore
set_option linter.unusedVariables false
set_option linter.unusedSimpArgs false

mutual
def changeforgeref6_eventCode.j0 : Nat → Int → List (S44) → Int → Bool → Int → Int → Int → Int → Option (Int)
  | 0, _, _, _, _, _, _, _, _ => none
  | k + 1, x0, x2, x3, x42, x245000, x245001, x245002, x245003 => if x42 = true then (some 5) else (if x245000 = 1 then ((changeforgeref6_in.f x245002 0 (wrap64 (x0 - 1))).bind fun t247 => (if t247 = true then (if x245000 = 2 then ((changeforgeref6_in.f x245003 0 1000000000).bind fun t248 => (changeforgeref6_eventCode.j1 k x2 x3 (!t248) x245000 x245001 x245002 x245003)) else (changeforgeref6_eventCode.j1 k x2 x3 false x245000 x245001 x245002 x245003)) else (changeforgeref6_eventCode.j1 k x2 x3 true x245000 x245001 x245002 x245003))) else (if x245000 = 2 then ((changeforgeref6_in.f x245003 0 1000000000).bind fun t249 => (changeforgeref6_eventCode.j1 k x2 x3 (!t249) x245000 x245001 x245002 x245003)) else (changeforgeref6_eventCode.j1 k x2 x3 false x245000 x245001 x245002 x245003)))
def changeforgeref6_eventCode.j1 : Nat → List (S44) → Int → Bool → Int → Int → Int → Int → Option (Int)
  | 0, _, _, _, _, _, _, _ => none
  | k + 1, x2, x3, x64, x245000, x245001, x245002, x245003 => if x64 = true then (some 3) else (if 0 ≤ x3 then (if x3 ≤ (x2.length : Int) then ((changeforgeref6_WorkingOn.f k (x2.take (x3 : Int).toNat) x245001).bind fun t254 => (if x245000 = 1 then (if t254 = (-1) then (if x245000 = 2 then (if t254 < 0 then (changeforgeref6_eventCode.j2 k x2 x3 true x245000 x245001 x245002 x245003) else (if x245000 = 3 then (if t254 = (-2) then (changeforgeref6_eventCode.j2 k x2 x3 true x245000 x245001 x245002 x245003) else (if x245000 = 4 then (changeforgeref6_eventCode.j2 k x2 x3 (t254 != (-2)) x245000 x245001 x245002 x245003) else (changeforgeref6_eventCode.j2 k x2 x3 false x245000 x245001 x245002 x245003))) else (if x245000 = 4 then (changeforgeref6_eventCode.j2 k x2 x3 (t254 != (-2)) x245000 x245001 x245002 x245003) else (changeforgeref6_eventCode.j2 k x2 x3 false x245000 x245001 x245002 x245003)))) else (if x245000 = 3 then (if t254 = (-2) then (changeforgeref6_eventCode.j2 k x2 x3 true x245000 x245001 x245002 x245003) else (if x245000 = 4 then (changeforgeref6_eventCode.j2 k x2 x3 (t254 != (-2)) x245000 x245001 x245002 x245003) else (changeforgeref6_eventCode.j2 k x2 x3 false x245000 x245001 x245002 x245003))) else (if x245000 = 4 then (changeforgeref6_eventCode.j2 k x2 x3 (t254 != (-2)) x245000 x245001 x245002 x245003) else (changeforgeref6_eventCode.j2 k x2 x3 false x245000 x245001 x245002 x245003)))) else (changeforgeref6_eventCode.j2 k x2 x3 true x245000 x245001 x245002 x245003)) else (if x245000 = 2 then (if t254 < 0 then (changeforgeref6_eventCode.j2 k x2 x3 true x245000 x245001 x245002 x245003) else (if x245000 = 3 then (if t254 = (-2) then (changeforgeref6_eventCode.j2 k x2 x3 true x245000 x245001 x245002 x245003) else (if x245000 = 4 then (changeforgeref6_eventCode.j2 k x2 x3 (t254 != (-2)) x245000 x245001 x245002 x245003) else (changeforgeref6_eventCode.j2 k x2 x3 false x245000 x245001 x245002 x245003))) else (if x245000 = 4 then (changeforgeref6_eventCode.j2 k x2 x3 (t254 != (-2)) x245000 x245001 x245002 x245003) else (changeforgeref6_eventCode.j2 k x2 x3 false x245000 x245001 x245002 x245003)))) else (if x245000 = 3 then (if t254 = (-2) then (changeforgeref6_eventCode.j2 k x2 x3 true x245000 x245001 x245002 x245003) else (if x245000 = 4 then (changeforgeref6_eventCode.j2 k x2 x3 (t254 != (-2)) x245000 x245001 x245002 x245003) else (changeforgeref6_eventCode.j2 k x2 x3 false x245000 x245001 x245002 x245003))) else (if x245000 = 4 then (changeforgeref6_eventCode.j2 k x2 x3 (t254 != (-2)) x245000 x245001 x245002 x245003) else (changeforgeref6_eventCode.j2 k x2 x3 false x245000 x245001 x245002 x245003)))))) else (none)) else (none))
def changeforgeref6_eventCode.j2 : Nat → List (S44) → Int → Bool → Int → Int → Int → Int → Option (Int)
  | 0, _, _, _, _, _, _, _ => none
  | k + 1, x2, x3, x104, x245000, x245001, x245002, x245003 => if x104 = true then (some 11) else (if x245000 = 1 then (if 0 ≤ x3 then (if x3 ≤ (x2.length : Int) then ((changeforgeref6_Reported.f k (x2.take (x3 : Int).toNat) x245001 x245002).bind fun t259 => (if t259 ≥ 0 then (some 7) else (some 0))) else (none)) else (none)) else (some 0))
end
def changeforgeref6_eventCode.f (k : Nat) (a0 : Int) (a1 : Int) (l2 : List (S44)) (a3 : Int) : Option (Int) := if 0 ≤ a3 then (if a3 < (l2.length : Int) then ((changeforgeref6_in.f ((rd_T44 l2 a3).f0) 1 4).bind fun t245 => (if t245 = true then ((changeforgeref6_in.f ((rd_T44 l2 a3).f1) 0 (wrap64 (a1 - 1))).bind fun t246 => (if t246 = true then (if ((rd_T44 l2 a3).f0) = 1 then (if ((rd_T44 l2 a3).f0) = 2 then (changeforgeref6_eventCode.j0 k a0 l2 a3 false ((rd_T44 l2 a3).f0) ((rd_T44 l2 a3).f1) ((rd_T44 l2 a3).f2) ((rd_T44 l2 a3).f3)) else (changeforgeref6_eventCode.j0 k a0 l2 a3 (((rd_T44 l2 a3).f3) != 0) ((rd_T44 l2 a3).f0) ((rd_T44 l2 a3).f1) ((rd_T44 l2 a3).f2) ((rd_T44 l2 a3).f3))) else (if ((rd_T44 l2 a3).f2) = 0 then (if ((rd_T44 l2 a3).f0) = 2 then (changeforgeref6_eventCode.j0 k a0 l2 a3 false ((rd_T44 l2 a3).f0) ((rd_T44 l2 a3).f1) ((rd_T44 l2 a3).f2) ((rd_T44 l2 a3).f3)) else (changeforgeref6_eventCode.j0 k a0 l2 a3 (((rd_T44 l2 a3).f3) != 0) ((rd_T44 l2 a3).f0) ((rd_T44 l2 a3).f1) ((rd_T44 l2 a3).f2) ((rd_T44 l2 a3).f3))) else (changeforgeref6_eventCode.j0 k a0 l2 a3 true ((rd_T44 l2 a3).f0) ((rd_T44 l2 a3).f1) ((rd_T44 l2 a3).f2) ((rd_T44 l2 a3).f3)))) else (some 3))) else (some 4))) else (none)) else (none)
theorem changeforgeref6_eventCode.mono_l : ∀ k, (∀ y0 y1 y2 y3 y4 y5 y6 y7, LeO (changeforgeref6_eventCode.j0 k y0 y1 y2 y3 y4 y5 y6 y7) (changeforgeref6_eventCode.j0 (k + 1) y0 y1 y2 y3 y4 y5 y6 y7)) ∧ (∀ y0 y1 y2 y3 y4 y5 y6, LeO (changeforgeref6_eventCode.j1 k y0 y1 y2 y3 y4 y5 y6) (changeforgeref6_eventCode.j1 (k + 1) y0 y1 y2 y3 y4 y5 y6)) ∧ (∀ y0 y1 y2 y3 y4 y5 y6, LeO (changeforgeref6_eventCode.j2 k y0 y1 y2 y3 y4 y5 y6) (changeforgeref6_eventCode.j2 (k + 1) y0 y1 y2 y3 y4 y5 y6))
  | 0 => ⟨fun _ _ _ _ _ _ _ _ r h => by simp [changeforgeref6_eventCode.j0] at h, fun _ _ _ _ _ _ _ r h => by simp [changeforgeref6_eventCode.j1] at h, fun _ _ _ _ _ _ _ r h => by simp [changeforgeref6_eventCode.j2] at h⟩
  | k + 1 => by
    obtain ⟨ih0, ih1, ih2⟩ := changeforgeref6_eventCode.mono_l k
    refine ⟨?_, ?_, ?_⟩
    · intro y0 y1 y2 y3 y4 y5 y6 y7
      unfold changeforgeref6_eventCode.j0
      repeat' first
      | (with_reducible exact ih0 _ _ _ _ _ _ _ _)
      | (with_reducible exact ih1 _ _ _ _ _ _ _)
      | (with_reducible exact ih2 _ _ _ _ _ _ _)
      | (with_reducible exact changeforgeref6_Reported.mono _ _ _ _)
      | (with_reducible exact changeforgeref6_WorkingOn.mono _ _ _)
      | (with_reducible exact LeO.refl _)
      | (with_reducible exact LeO.none _)
      | (with_reducible refine LeO.ite ?_ ?_)
      | (with_reducible refine LeO.bind ?_ (fun _ => ?_))
      | exact ih0 _ _ _ _ _ _ _ _
      | exact ih1 _ _ _ _ _ _ _
      | exact ih2 _ _ _ _ _ _ _
      | exact changeforgeref6_Reported.mono _ _ _ _
      | exact changeforgeref6_WorkingOn.mono _ _ _
      | exact LeO.none _
      | refine LeO.ite ?_ ?_
      | refine LeO.bind ?_ (fun _ => ?_)
    · intro y0 y1 y2 y3 y4 y5 y6
      unfold changeforgeref6_eventCode.j1
      repeat' first
      | (with_reducible exact ih0 _ _ _ _ _ _ _ _)
      | (with_reducible exact ih1 _ _ _ _ _ _ _)
      | (with_reducible exact ih2 _ _ _ _ _ _ _)
      | (with_reducible exact changeforgeref6_Reported.mono _ _ _ _)
      | (with_reducible exact changeforgeref6_WorkingOn.mono _ _ _)
      | (with_reducible exact LeO.refl _)
      | (with_reducible exact LeO.none _)
      | (with_reducible refine LeO.ite ?_ ?_)
      | (with_reducible refine LeO.bind ?_ (fun _ => ?_))
      | exact ih0 _ _ _ _ _ _ _ _
      | exact ih1 _ _ _ _ _ _ _
      | exact ih2 _ _ _ _ _ _ _
      | exact changeforgeref6_Reported.mono _ _ _ _
      | exact changeforgeref6_WorkingOn.mono _ _ _
      | exact LeO.none _
      | refine LeO.ite ?_ ?_
      | refine LeO.bind ?_ (fun _ => ?_)
    · intro y0 y1 y2 y3 y4 y5 y6
      unfold changeforgeref6_eventCode.j2
      repeat' first
      | (with_reducible exact ih0 _ _ _ _ _ _ _ _)
      | (with_reducible exact ih1 _ _ _ _ _ _ _)
      | (with_reducible exact ih2 _ _ _ _ _ _ _)
      | (with_reducible exact changeforgeref6_Reported.mono _ _ _ _)
      | (with_reducible exact changeforgeref6_WorkingOn.mono _ _ _)
      | (with_reducible exact LeO.refl _)
      | (with_reducible exact LeO.none _)
      | (with_reducible refine LeO.ite ?_ ?_)
      | (with_reducible refine LeO.bind ?_ (fun _ => ?_))
      | exact ih0 _ _ _ _ _ _ _ _
      | exact ih1 _ _ _ _ _ _ _
      | exact ih2 _ _ _ _ _ _ _
      | exact changeforgeref6_Reported.mono _ _ _ _
      | exact changeforgeref6_WorkingOn.mono _ _ _
      | exact LeO.none _
      | refine LeO.ite ?_ ?_
      | refine LeO.bind ?_ (fun _ => ?_)
theorem changeforgeref6_eventCode.mono : ∀ a0 a1 a2 a3 k, LeO (changeforgeref6_eventCode.f k a0 a1 a2 a3) (changeforgeref6_eventCode.f (k + 1) a0 a1 a2 a3) := by
  intro a0 a1 a2 a3 k
  obtain ⟨ih0, ih1, ih2⟩ := changeforgeref6_eventCode.mono_l k
  unfold changeforgeref6_eventCode.f
  repeat' first
      | (with_reducible exact ih0 _ _ _ _ _ _ _ _)
      | (with_reducible exact ih1 _ _ _ _ _ _ _)
      | (with_reducible exact ih2 _ _ _ _ _ _ _)
      | (with_reducible exact changeforgeref6_Reported.mono _ _ _ _)
      | (with_reducible exact changeforgeref6_WorkingOn.mono _ _ _)
      | (with_reducible exact LeO.refl _)
      | (with_reducible exact LeO.none _)
      | (with_reducible refine LeO.ite ?_ ?_)
      | (with_reducible refine LeO.bind ?_ (fun _ => ?_))
      | exact ih0 _ _ _ _ _ _ _ _
      | exact ih1 _ _ _ _ _ _ _
      | exact ih2 _ _ _ _ _ _ _
      | exact changeforgeref6_Reported.mono _ _ _ _
      | exact changeforgeref6_WorkingOn.mono _ _ _
      | exact LeO.none _
      | refine LeO.ite ?_ ?_
      | refine LeO.bind ?_ (fun _ => ?_)
end Go.Proofs.Ytepflpmngegdiaa.H
end
section
namespace Go.Proofs.Ytepflpmngegdiaa.H
open Go.RowKit Go.Proofs.YtepflpmngegdiaaW.PrintWords Go.Proofs.YtepflpmngegdiaaW.PrintLast Go.Proofs.YtepflpmngegdiaaW.PrintMore
set_option linter.unusedVariables false
set_option linter.unusedSimpArgs false

def changeforgeref6_EventsFault.l0 : Nat → Int → Int → List (S44) → Int → Option (Int × Int)
  | 0, _, _, _, _ => none
  | k + 1, x0, x1, x3, x10 => if x10 < (x3.length : Int) then ((changeforgeref6_eventCode.f k x0 x1 x3 x10).bind fun t266 => (if t266 = 0 then (changeforgeref6_EventsFault.l0 k x0 x1 x3 (wrap64 (x10 + 1))) else ((changeforgeref6_fault.f t266 x10).bind fun bt267 => (some (bt267.1, bt267.2))))) else (some (0, 0))
def changeforgeref6_EventsFault.f (k : Nat) (a0 : Int) (a1 : Int) (a2 : Int) (l3 : List (S44)) : Option (Int × Int) := (changeforgeref6_FarmFault.f a0 a1 a2).bind fun bt261 => (if bt261.1 = 0 then (if (l3.length : Int) > 40 then ((changeforgeref6_fault.f 2 (-1)).bind fun bt264 => (some (bt264.1, bt264.2))) else (changeforgeref6_EventsFault.l0 k a0 a1 l3 0)) else (some (bt261.1, bt261.2)))
theorem changeforgeref6_EventsFault.mono_l : ∀ k, (∀ y0 y1 y2 y3, LeO (changeforgeref6_EventsFault.l0 k y0 y1 y2 y3) (changeforgeref6_EventsFault.l0 (k + 1) y0 y1 y2 y3))
  | 0 => fun _ _ _ _ r h => by simp [changeforgeref6_EventsFault.l0] at h
  | k + 1 => by
    have ih0 := changeforgeref6_EventsFault.mono_l k
    · intro y0 y1 y2 y3
      unfold changeforgeref6_EventsFault.l0
      repeat' first
      | (with_reducible exact ih0 _ _ _ _)
      | (with_reducible exact changeforgeref6_eventCode.mono _ _ _ _ _)
      | (with_reducible exact LeO.refl _)
      | (with_reducible exact LeO.none _)
      | (with_reducible refine LeO.ite ?_ ?_)
      | (with_reducible refine LeO.bind ?_ (fun _ => ?_))
      | exact ih0 _ _ _ _
      | exact changeforgeref6_eventCode.mono _ _ _ _ _
      | exact LeO.none _
      | refine LeO.ite ?_ ?_
      | refine LeO.bind ?_ (fun _ => ?_)
theorem changeforgeref6_EventsFault.mono : ∀ a0 a1 a2 a3 k, LeO (changeforgeref6_EventsFault.f k a0 a1 a2 a3) (changeforgeref6_EventsFault.f (k + 1) a0 a1 a2 a3) := by
  intro a0 a1 a2 a3 k
  have ih0 := changeforgeref6_EventsFault.mono_l k
  unfold changeforgeref6_EventsFault.f
  repeat' first
      | (with_reducible exact ih0 _ _ _ _)
      | (with_reducible exact changeforgeref6_eventCode.mono _ _ _ _ _)
      | (with_reducible exact LeO.refl _)
      | (with_reducible exact LeO.none _)
      | (with_reducible refine LeO.ite ?_ ?_)
      | (with_reducible refine LeO.bind ?_ (fun _ => ?_))
      | exact ih0 _ _ _ _
      | exact changeforgeref6_eventCode.mono _ _ _ _ _
      | exact LeO.none _
      | refine LeO.ite ?_ ?_
      | refine LeO.bind ?_ (fun _ => ?_)
end Go.Proofs.Ytepflpmngegdiaa.H
end
section
namespace Go.Proofs.Ytepflpmngegdiaa.H
open Go.RowKit Go.Proofs.YtepflpmngegdiaaW.PrintWords Go.Proofs.YtepflpmngegdiaaW.PrintLast Go.Proofs.YtepflpmngegdiaaW.PrintMore
set_option linter.unusedVariables false
set_option linter.unusedSimpArgs false

attribute [local go_sem high] eqA25
def changeforgelaw6_free.f (k : Nat) (l0 : List (S44)) (a1 : Int) (a2 : Int) : Option (Bool) := (changeforgeref6_WorkingOn.f k l0 a1).bind fun t305 => (if t305 = (-1) then ((changeforgeref6_Reported.f k l0 a1 a2).bind fun t306 => (some (decide (t306 < 0)))) else (some false))
theorem changeforgelaw6_free.mono : ∀ a0 a1 a2 k, LeO (changeforgelaw6_free.f k a0 a1 a2) (changeforgelaw6_free.f (k + 1) a0 a1 a2) := by
  intro a0 a1 a2 k
  unfold changeforgelaw6_free.f
  repeat' first
      | (with_reducible exact changeforgeref6_Reported.mono _ _ _ _)
      | (with_reducible exact changeforgeref6_WorkingOn.mono _ _ _)
      | (with_reducible exact LeO.refl _)
      | (with_reducible exact LeO.none _)
      | (with_reducible refine LeO.ite ?_ ?_)
      | (with_reducible refine LeO.bind ?_ (fun _ => ?_))
      | exact changeforgeref6_Reported.mono _ _ _ _
      | exact changeforgeref6_WorkingOn.mono _ _ _
      | exact LeO.none _
      | refine LeO.ite ?_ ?_
      | refine LeO.bind ?_ (fun _ => ?_)
mutual
def changeforgelaw6_WorkersNextMatchesSpec.j0 : Nat → Int → Int → Int → List (S44) → Int → Int → Bool → Bool → Int → Int → Option (Bool)
  | 0, _, _, _, _, _, _, _, _, _, _ => none
  | k + 1, x0, x1, x2, x3, x10, x11, x12, x49, x310000, x310001 => if x49 = true then (some false) else (changeforgelaw6_WorkersNextMatchesSpec.l0 k x0 x1 x2 x3 x10 x11 x12 0 x310000 x310001)
def changeforgelaw6_WorkersNextMatchesSpec.l0 : Nat → Int → Int → Int → List (S44) → Int → Int → Bool → Int → Int → Int → Option (Bool)
  | 0, _, _, _, _, _, _, _, _, _, _ => none
  | k + 1, x0, x1, x2, x3, x10, x11, x12, x14, x310000, x310001 => if x310000 = 0 then (changeforgelaw6_WorkersNextMatchesSpec.j2 k x0 x1 x2 x3 x10 x11 x12 x14 (decide (x14 < x0)) x310000 x310001) else (changeforgelaw6_WorkersNextMatchesSpec.j2 k x0 x1 x2 x3 x10 x11 x12 x14 false x310000 x310001)
def changeforgelaw6_WorkersNextMatchesSpec.j2 : Nat → Int → Int → Int → List (S44) → Int → Int → Bool → Int → Bool → Int → Int → Option (Bool)
  | 0, _, _, _, _, _, _, _, _, _, _, _ => none
  | k + 1, x0, x1, x2, x3, x10, x11, x12, x14, x57, x310000, x310001 => if x57 = true then (changeforgelaw6_WorkersNextMatchesSpec.l1 k x0 x1 x2 x3 x10 x11 x12 x14 0 x310000 x310001) else (some (!x12))
def changeforgelaw6_WorkersNextMatchesSpec.l1 : Nat → Int → Int → Int → List (S44) → Int → Int → Bool → Int → Int → Int → Int → Option (Bool)
  | 0, _, _, _, _, _, _, _, _, _, _, _ => none
  | k + 1, x0, x1, x2, x3, x10, x11, x12, x14, x15, x310000, x310001 => if x15 < x1 then ((changeforgeref6_Accepted.f k x3 x1 x2 x14).bind fun t317 => (if t317 < 0 then ((changeforgelaw6_free.f k x3 x15 x14).bind fun t318 => (if t318 = true then (if x12 = true then (if x10 = x14 then (some (x11 == x15)) else (some false)) else (some false)) else (changeforgelaw6_WorkersNextMatchesSpec.l1 k x0 x1 x2 x3 x10 x11 x12 x14 (wrap64 (x15 + 1)) x310000 x310001))) else (changeforgelaw6_WorkersNextMatchesSpec.l1 k x0 x1 x2 x3 x10 x11 x12 x14 (wrap64 (x15 + 1)) x310000 x310001))) else (changeforgelaw6_WorkersNextMatchesSpec.l0 k x0 x1 x2 x3 x10 x11 x12 (wrap64 (x14 + 1)) x310000 x310001)
end
def changeforgelaw6_WorkersNextMatchesSpec.f (k : Nat) (a0 : Int) (a1 : Int) (a2 : Int) (l3 : List (S44)) : Option (Bool) := (changeforgeref6_EventsFault.f k a0 a1 a2 l3).bind fun bt307 => ((workers_Next.f a0 a1 a2 l3).bind fun bt310 => ((changeforgelaw6_farms.f k).bind fun t316 => (if t316 = true then (if (!(bt310.2.2.2.1 == bt307.1) || (!(bt310.2.2.2.2 == bt307.2))) = true then (changeforgelaw6_WorkersNextMatchesSpec.j0 k a0 a1 a2 l3 bt310.1 bt310.2.1 bt310.2.2.1 true bt307.1 bt307.2) else (if bt310.2.2.1 = true then (changeforgelaw6_WorkersNextMatchesSpec.j0 k a0 a1 a2 l3 bt310.1 bt310.2.1 bt310.2.2.1 false bt307.1 bt307.2) else (if bt310.1 = 0 then (changeforgelaw6_WorkersNextMatchesSpec.j0 k a0 a1 a2 l3 bt310.1 bt310.2.1 bt310.2.2.1 (bt310.2.1 != 0) bt307.1 bt307.2) else (changeforgelaw6_WorkersNextMatchesSpec.j0 k a0 a1 a2 l3 bt310.1 bt310.2.1 bt310.2.2.1 true bt307.1 bt307.2)))) else (changeforgelaw6_WorkersNextMatchesSpec.j0 k a0 a1 a2 l3 bt310.1 bt310.2.1 bt310.2.2.1 true bt307.1 bt307.2))))
theorem changeforgelaw6_WorkersNextMatchesSpec.mono_l : ∀ k, (∀ y0 y1 y2 y3 y4 y5 y6 y7 y8 y9, LeO (changeforgelaw6_WorkersNextMatchesSpec.j0 k y0 y1 y2 y3 y4 y5 y6 y7 y8 y9) (changeforgelaw6_WorkersNextMatchesSpec.j0 (k + 1) y0 y1 y2 y3 y4 y5 y6 y7 y8 y9)) ∧ (∀ y0 y1 y2 y3 y4 y5 y6 y7 y8 y9, LeO (changeforgelaw6_WorkersNextMatchesSpec.l0 k y0 y1 y2 y3 y4 y5 y6 y7 y8 y9) (changeforgelaw6_WorkersNextMatchesSpec.l0 (k + 1) y0 y1 y2 y3 y4 y5 y6 y7 y8 y9)) ∧ (∀ y0 y1 y2 y3 y4 y5 y6 y7 y8 y9 y10, LeO (changeforgelaw6_WorkersNextMatchesSpec.j2 k y0 y1 y2 y3 y4 y5 y6 y7 y8 y9 y10) (changeforgelaw6_WorkersNextMatchesSpec.j2 (k + 1) y0 y1 y2 y3 y4 y5 y6 y7 y8 y9 y10)) ∧ (∀ y0 y1 y2 y3 y4 y5 y6 y7 y8 y9 y10, LeO (changeforgelaw6_WorkersNextMatchesSpec.l1 k y0 y1 y2 y3 y4 y5 y6 y7 y8 y9 y10) (changeforgelaw6_WorkersNextMatchesSpec.l1 (k + 1) y0 y1 y2 y3 y4 y5 y6 y7 y8 y9 y10))
  | 0 => ⟨fun _ _ _ _ _ _ _ _ _ _ r h => by simp [changeforgelaw6_WorkersNextMatchesSpec.j0] at h, fun _ _ _ _ _ _ _ _ _ _ r h => by simp [changeforgelaw6_WorkersNextMatchesSpec.l0] at h, fun _ _ _ _ _ _ _ _ _ _ _ r h => by simp [changeforgelaw6_WorkersNextMatchesSpec.j2] at h, fun _ _ _ _ _ _ _ _ _ _ _ r h => by simp [changeforgelaw6_WorkersNextMatchesSpec.l1] at h⟩
  | k + 1 => by
    obtain ⟨ih0, ih1, ih2, ih3⟩ := changeforgelaw6_WorkersNextMatchesSpec.mono_l k
    refine ⟨?_, ?_, ?_, ?_⟩
    · intro y0 y1 y2 y3 y4 y5 y6 y7 y8 y9
      unfold changeforgelaw6_WorkersNextMatchesSpec.j0
      repeat' first
      | (with_reducible exact ih0 _ _ _ _ _ _ _ _ _ _)
      | (with_reducible exact ih1 _ _ _ _ _ _ _ _ _ _)
      | (with_reducible exact ih2 _ _ _ _ _ _ _ _ _ _ _)
      | (with_reducible exact ih3 _ _ _ _ _ _ _ _ _ _ _)
      | (with_reducible exact changeforgelaw6_farms.mono _)
      | (with_reducible exact changeforgelaw6_free.mono _ _ _ _)
      | (with_reducible exact changeforgeref6_Accepted.mono _ _ _ _ _)
      | (with_reducible exact changeforgeref6_EventsFault.mono _ _ _ _ _)
      | (with_reducible exact LeO.refl _)
      | (with_reducible exact LeO.none _)
      | (with_reducible refine LeO.ite ?_ ?_)
      | (with_reducible refine LeO.bind ?_ (fun _ => ?_))
      | exact ih0 _ _ _ _ _ _ _ _ _ _
      | exact ih1 _ _ _ _ _ _ _ _ _ _
      | exact ih2 _ _ _ _ _ _ _ _ _ _ _
      | exact ih3 _ _ _ _ _ _ _ _ _ _ _
      | exact changeforgelaw6_farms.mono _
      | exact changeforgelaw6_free.mono _ _ _ _
      | exact changeforgeref6_Accepted.mono _ _ _ _ _
      | exact changeforgeref6_EventsFault.mono _ _ _ _ _
      | exact LeO.none _
      | refine LeO.ite ?_ ?_
      | refine LeO.bind ?_ (fun _ => ?_)
    · intro y0 y1 y2 y3 y4 y5 y6 y7 y8 y9
      unfold changeforgelaw6_WorkersNextMatchesSpec.l0
      repeat' first
      | (with_reducible exact ih0 _ _ _ _ _ _ _ _ _ _)
      | (with_reducible exact ih1 _ _ _ _ _ _ _ _ _ _)
      | (with_reducible exact ih2 _ _ _ _ _ _ _ _ _ _ _)
      | (with_reducible exact ih3 _ _ _ _ _ _ _ _ _ _ _)
      | (with_reducible exact changeforgelaw6_farms.mono _)
      | (with_reducible exact changeforgelaw6_free.mono _ _ _ _)
      | (with_reducible exact changeforgeref6_Accepted.mono _ _ _ _ _)
      | (with_reducible exact changeforgeref6_EventsFault.mono _ _ _ _ _)
      | (with_reducible exact LeO.refl _)
      | (with_reducible exact LeO.none _)
      | (with_reducible refine LeO.ite ?_ ?_)
      | (with_reducible refine LeO.bind ?_ (fun _ => ?_))
      | exact ih0 _ _ _ _ _ _ _ _ _ _
      | exact ih1 _ _ _ _ _ _ _ _ _ _
      | exact ih2 _ _ _ _ _ _ _ _ _ _ _
      | exact ih3 _ _ _ _ _ _ _ _ _ _ _
      | exact changeforgelaw6_farms.mono _
      | exact changeforgelaw6_free.mono _ _ _ _
      | exact changeforgeref6_Accepted.mono _ _ _ _ _
      | exact changeforgeref6_EventsFault.mono _ _ _ _ _
      | exact LeO.none _
      | refine LeO.ite ?_ ?_
      | refine LeO.bind ?_ (fun _ => ?_)
    · intro y0 y1 y2 y3 y4 y5 y6 y7 y8 y9 y10
      unfold changeforgelaw6_WorkersNextMatchesSpec.j2
      repeat' first
      | (with_reducible exact ih0 _ _ _ _ _ _ _ _ _ _)
      | (with_reducible exact ih1 _ _ _ _ _ _ _ _ _ _)
      | (with_reducible exact ih2 _ _ _ _ _ _ _ _ _ _ _)
      | (with_reducible exact ih3 _ _ _ _ _ _ _ _ _ _ _)
      | (with_reducible exact changeforgelaw6_farms.mono _)
      | (with_reducible exact changeforgelaw6_free.mono _ _ _ _)
      | (with_reducible exact changeforgeref6_Accepted.mono _ _ _ _ _)
      | (with_reducible exact changeforgeref6_EventsFault.mono _ _ _ _ _)
      | (with_reducible exact LeO.refl _)
      | (with_reducible exact LeO.none _)
      | (with_reducible refine LeO.ite ?_ ?_)
      | (with_reducible refine LeO.bind ?_ (fun _ => ?_))
      | exact ih0 _ _ _ _ _ _ _ _ _ _
      | exact ih1 _ _ _ _ _ _ _ _ _ _
      | exact ih2 _ _ _ _ _ _ _ _ _ _ _
      | exact ih3 _ _ _ _ _ _ _ _ _ _ _
      | exact changeforgelaw6_farms.mono _
      | exact changeforgelaw6_free.mono _ _ _ _
      | exact changeforgeref6_Accepted.mono _ _ _ _ _
      | exact changeforgeref6_EventsFault.mono _ _ _ _ _
      | exact LeO.none _
      | refine LeO.ite ?_ ?_
      | refine LeO.bind ?_ (fun _ => ?_)
    · intro y0 y1 y2 y3 y4 y5 y6 y7 y8 y9 y10
      unfold changeforgelaw6_WorkersNextMatchesSpec.l1
      repeat' first
      | (with_reducible exact ih0 _ _ _ _ _ _ _ _ _ _)
      | (with_reducible exact ih1 _ _ _ _ _ _ _ _ _ _)
      | (with_reducible exact ih2 _ _ _ _ _ _ _ _ _ _ _)
      | (with_reducible exact ih3 _ _ _ _ _ _ _ _ _ _ _)
      | (with_reducible exact changeforgelaw6_farms.mono _)
      | (with_reducible exact changeforgelaw6_free.mono _ _ _ _)
      | (with_reducible exact changeforgeref6_Accepted.mono _ _ _ _ _)
      | (with_reducible exact changeforgeref6_EventsFault.mono _ _ _ _ _)
      | (with_reducible exact LeO.refl _)
      | (with_reducible exact LeO.none _)
      | (with_reducible refine LeO.ite ?_ ?_)
      | (with_reducible refine LeO.bind ?_ (fun _ => ?_))
      | exact ih0 _ _ _ _ _ _ _ _ _ _
      | exact ih1 _ _ _ _ _ _ _ _ _ _
      | exact ih2 _ _ _ _ _ _ _ _ _ _ _
      | exact ih3 _ _ _ _ _ _ _ _ _ _ _
      | exact changeforgelaw6_farms.mono _
      | exact changeforgelaw6_free.mono _ _ _ _
      | exact changeforgeref6_Accepted.mono _ _ _ _ _
      | exact changeforgeref6_EventsFault.mono _ _ _ _ _
      | exact LeO.none _
      | refine LeO.ite ?_ ?_
      | refine LeO.bind ?_ (fun _ => ?_)
theorem changeforgelaw6_WorkersNextMatchesSpec.mono : ∀ a0 a1 a2 a3 k, LeO (changeforgelaw6_WorkersNextMatchesSpec.f k a0 a1 a2 a3) (changeforgelaw6_WorkersNextMatchesSpec.f (k + 1) a0 a1 a2 a3) := by
  intro a0 a1 a2 a3 k
  obtain ⟨ih0, ih1, ih2, ih3⟩ := changeforgelaw6_WorkersNextMatchesSpec.mono_l k
  unfold changeforgelaw6_WorkersNextMatchesSpec.f
  repeat' first
      | (with_reducible exact ih0 _ _ _ _ _ _ _ _ _ _)
      | (with_reducible exact ih1 _ _ _ _ _ _ _ _ _ _)
      | (with_reducible exact ih2 _ _ _ _ _ _ _ _ _ _ _)
      | (with_reducible exact ih3 _ _ _ _ _ _ _ _ _ _ _)
      | (with_reducible exact changeforgelaw6_farms.mono _)
      | (with_reducible exact changeforgelaw6_free.mono _ _ _ _)
      | (with_reducible exact changeforgeref6_Accepted.mono _ _ _ _ _)
      | (with_reducible exact changeforgeref6_EventsFault.mono _ _ _ _ _)
      | (with_reducible exact LeO.refl _)
      | (with_reducible exact LeO.none _)
      | (with_reducible refine LeO.ite ?_ ?_)
      | (with_reducible refine LeO.bind ?_ (fun _ => ?_))
      | exact ih0 _ _ _ _ _ _ _ _ _ _
      | exact ih1 _ _ _ _ _ _ _ _ _ _
      | exact ih2 _ _ _ _ _ _ _ _ _ _ _
      | exact ih3 _ _ _ _ _ _ _ _ _ _ _
      | exact changeforgelaw6_farms.mono _
      | exact changeforgelaw6_free.mono _ _ _ _
      | exact changeforgeref6_Accepted.mono _ _ _ _ _
      | exact changeforgeref6_EventsFault.mono _ _ _ _ _
      | exact LeO.none _
      | refine LeO.ite ?_ ?_
      | refine LeO.bind ?_ (fun _ => ?_)
end Go.Proofs.Ytepflpmngegdiaa.H
end
section
namespace Go.Proofs.Ytepflpmngegdiaa.H
open Go.RowKit Go.Proofs.YtepflpmngegdiaaW.PrintWords Go.Proofs.YtepflpmngegdiaaW.PrintLast Go.Proofs.YtepflpmngegdiaaW.PrintMore
set_option linter.unusedVariables false
set_option linter.unusedSimpArgs false
open Go.RowKit
abbrev WE := S44
theorem wrap_lt {x : Int} (h0 : -9223372036854775808 ≤ x) (h1 : x < 9223372036854775808) : wrap64 x = x := by unfold wrap64; omega
def wStep (w now : Int) (e : WE) : Int := if e.f1 = w then (if e.f0 = 1 then e.f2 else if e.f0 = 3 then -2 else -1) else now
def workingOn (l : List WE) (w : Int) : Int := l.foldl (wStep w) (-1)
/-- The first report of worker w for job j among the events behind p. -/
def repFrom (w j : Int) : List WE → List WE → Option Int
  | _, [] => none
  | p, e :: es => if e.f0 = 2 ∧ e.f1 = w ∧ workingOn p w = j then some e.f3 else repFrom w j (p ++ [e]) es
def reportedO (l : List WE) (w j : Int) : Option Int := repFrom w j [] l
def reported (l : List WE) (w j : Int) : Int := (reportedO l w j).getD (-1)
def cntR (l : List WE) (N : Nat) (j v : Int) : Nat := (List.range N).countP fun (w : Nat) => decide (reported l w j = v)
def accFrom (N : Nat) (need j : Int) : List WE → List WE → Option Int
  | _, [] => none
  | p, e :: es => if e.f0 = 2 ∧ workingOn p e.f1 = j ∧ need ≤ (cntR (p ++ [e]) N j e.f3 : Int) then some e.f3 else accFrom N need j (p ++ [e]) es
def acceptedO (l : List WE) (N : Nat) (need j : Int) : Option Int := accFrom N need j [] l
def accepted (l : List WE) (N : Nat) (need j : Int) : Int := (acceptedO l N need j).getD (-1)
theorem countP_range_succ (p : Nat → Bool) (n : Nat) : (List.range (n + 1)).countP p = (List.range n).countP p + if p n then 1 else 0 := by
  rw [List.range_succ, List.countP_append]
  simp [List.countP_cons, List.countP_nil]
abbrev badState (k now : Int) : Prop := (k = 1 ∧ now ≠ -1) ∨ (k = 2 ∧ now < 0) ∨ (k = 3 ∧ now = -2) ∨ (k = 4 ∧ now ≠ -2)
/-- The error code of an event behind the events p. -/
def evCode (J N : Int) (p : List WE) (e : WE) : Int :=
  if ¬ (1 ≤ e.f0 ∧ e.f0 ≤ 4) then 4 else if ¬ (0 ≤ e.f1 ∧ e.f1 ≤ N - 1) then 3 else if (e.f0 ≠ 1 ∧ e.f2 ≠ 0) ∨ (e.f0 ≠ 2 ∧ e.f3 ≠ 0) then 5 else
    if (e.f0 = 1 ∧ ¬ (0 ≤ e.f2 ∧ e.f2 ≤ J - 1)) ∨ (e.f0 = 2 ∧ ¬ (0 ≤ e.f3 ∧ e.f3 ≤ 1000000000)) then 3 else
      if badState e.f0 (workingOn p e.f1) then 11 else if e.f0 = 1 ∧ 0 ≤ reported p e.f1 e.f2 then 7 else 0
/-- The events behind p: the first fault. -/
def evFault (J N : Int) : List WE → List WE → Int → Int × Int
  | _, [], _ => (0, 0)
  | p, e :: es, i => if evCode J N p e = 0 then evFault J N (p ++ [e]) es (i + 1) else (evCode J N p e, i)
def eventsFault (J N need : Int) (l : List WE) : Int × Int := if ¬ sizesOk J N need then (3, -1) else if 40 < l.length then (2, -1) else evFault J N [] l 0
end Go.Proofs.Ytepflpmngegdiaa.H
end
section
namespace Go.Proofs.Ytepflpmngegdiaa.H
open Go.RowKit Go.Proofs.YtepflpmngegdiaaW.PrintWords Go.Proofs.YtepflpmngegdiaaW.PrintLast Go.Proofs.YtepflpmngegdiaaW.PrintMore
set_option linter.unusedVariables false
set_option linter.unusedSimpArgs false
open Go.RowKit
theorem workingOn_snoc (p : List WE) (e : WE) (w : Int) : workingOn (p ++ [e]) w = wStep w (workingOn p w) e := by simp [workingOn, List.foldl_append]
theorem repFrom_snoc (w j : Int) (e : WE) : ∀ (es p : List WE), repFrom w j p (es ++ [e]) = (repFrom w j p es).or (if e.f0 = 2 ∧ e.f1 = w ∧ workingOn (p ++ es) w = j then some e.f3 else none)
  | [], p => by
    show (if _ then _ else _) = Option.or none _
    rw [List.append_nil]
    rfl
  | a :: es, p => by
    show (if _ then _ else _) = Option.or (if _ then _ else _) _
    by_cases h : a.f0 = 2 ∧ a.f1 = w ∧ workingOn p w = j
    · rw [if_pos h, if_pos h]; rfl
    · rw [if_neg h, if_neg h]
      have := repFrom_snoc w j e es (p ++ [a])
      rw [List.append_assoc] at this
      exact this
theorem reportedO_snoc (p : List WE) (e : WE) (w j : Int) : reportedO (p ++ [e]) w j = (reportedO p w j).or (if e.f0 = 2 ∧ e.f1 = w ∧ workingOn p w = j then some e.f3 else none) := repFrom_snoc w j e p []
theorem accFrom_snoc (N : Nat) (need j : Int) (e : WE) : ∀ (es p : List WE), accFrom N need j p (es ++ [e]) = (accFrom N need j p es).or (if e.f0 = 2 ∧ workingOn (p ++ es) e.f1 = j ∧ need ≤ (cntR (p ++ es ++ [e]) N j e.f3 : Int) then some e.f3 else none)
  | [], p => by
    show (if _ then _ else _) = Option.or none _
    rw [List.append_nil]
    rfl
  | a :: es, p => by
    show (if _ then _ else _) = Option.or (if _ then _ else _) _
    by_cases h : a.f0 = 2 ∧ workingOn p a.f1 = j ∧ need ≤ (cntR (p ++ [a]) N j a.f3 : Int)
    · rw [if_pos h, if_pos h]; rfl
    · rw [if_neg h, if_neg h]
      have := accFrom_snoc N need j e es (p ++ [a])
      simp only [List.append_assoc] at this ⊢
      exact this
theorem acceptedO_snoc (p : List WE) (e : WE) (N : Nat) (need j : Int) : acceptedO (p ++ [e]) N need j = (acceptedO p N need j).or (if e.f0 = 2 ∧ workingOn p e.f1 = j ∧ need ≤ (cntR (p ++ [e]) N j e.f3 : Int) then some e.f3 else none) := accFrom_snoc N need j e p []
theorem rd_set (l : List Int) (i j : Nat) (x : Int) (h : i < l.length) : rd (l.set i x) j = if i = j then x else rd l j := by
  unfold rd
  rw [Int.toNat_natCast, List.getD_eq_getElem?_getD, List.getD_eq_getElem?_getD, List.getElem?_set]
  split
  · rename_i e; subst e; simp [h]
  · rfl
theorem countP_rd (v : Int) (l : List Int) : l.countP (· == v) = (List.range l.length).countP fun (w : Nat) => decide (rd l w = v) := by
  have h : ∀ n, n ≤ l.length → (l.take n).countP (· == v) = (List.range n).countP fun (w : Nat) => decide (rd l w = v) := by
    intro n
    induction n with
    | zero => intro _; rfl
    | succ n ih =>
      intro hn
      rw [countP_take_succ l v n (by omega), ih (by omega), countP_range_succ]
      by_cases h : rd l (n : Int) = v <;> simp [h]
  have := h l.length (Nat.le_refl _)
  rwa [List.take_length] at this
structure Inv (F : Farm) (J N : Nat) (need : Int) (p : List WE) : Prop where
  wf : F.WF J N
  nd : F.need = need
  work : ∀ w : Nat, w < N → rd F.working w = workingOn p w
  rep : ∀ j w : Nat, j < J → w < N → rd (F.reports.getD j []) w = reported p w j
  acc : ∀ j : Nat, j < J → rd F.results j = accepted p N need j
  once : ∀ w j : Nat, w < N → workingOn p w = j → reportedO p w j = none
  pos : ∀ (w j v : Int), reportedO p w j = some v → 0 ≤ v
  apos : ∀ (j v : Int), acceptedO p N need j = some v → 0 ≤ v
  q1 : ∀ (j v : Int), acceptedO p N need j = some v → need ≤ (cntR p N j v : Int)
  q2 : ∀ (j : Nat) (v : Int), 0 ≤ v → need ≤ (cntR p N j v : Int) → acceptedO p N need j ≠ none
theorem Inv.start {J N need : Int} (h : sizesOk J N need) : Inv (newFarm J N need) J.toNat N.toNat need [] := by
  refine ⟨newFarm_wf h, rfl, fun w hw => ?_, fun j w hj hw => ?_, fun j hj => ?_, fun _ _ _ _ => rfl, fun _ _ _ h => (by cases h), fun _ _ h => (by cases h), fun _ _ h => (by cases h), fun j v hv hq => ?_⟩
  · simp [newFarm, rd, workingOn, List.getD_eq_getElem?_getD, List.getElem?_replicate, hw]
  · simp [newFarm, rd, reported, reportedO, repFrom, List.getD_eq_getElem?_getD, List.getElem?_replicate, hj, hw]
  · simp [newFarm, rd, accepted, acceptedO, accFrom, List.getD_eq_getElem?_getD, List.getElem?_replicate, hj]
  · exfalso
    have h1 := h.2.2.2.2.1
    have : cntR [] N.toNat j v = 0 := by
      unfold cntR
      rw [List.countP_eq_zero]
      intro w _
      rw [show reported [] w j = -1 from rfl, decide_eq_false (by omega)]
      exact Bool.false_ne_true
    rw [this] at hq
    have hq' : need ≤ 0 := hq
    omega
theorem reported_none {p : List WE} {w j : Int} (h : reportedO p w j = none) : reported p w j = -1 := by unfold reported; rw [h]; rfl
theorem reported_some {p : List WE} {w j v : Int} (h : reportedO p w j = some v) : reported p w j = v := by unfold reported; rw [h]; rfl
theorem reported_neg {p : List WE} {w j : Int} (hp : ∀ v, reportedO p w j = some v → 0 ≤ v) : reported p w j < 0 ↔ reportedO p w j = none := by
  unfold reported
  cases h : reportedO p w j with
  | none => simp
  | some v => have := hp v h; simp; omega
theorem Inv.code {F : Farm} {J N : Nat} {need : Int} {p : List WE} (h : Inv F J N need p) (e : WE) : (evOf F e).2 = evCode J N p e := by
  unfold evOf Farm.event
  rw [h.wf.ress, h.wf.work]
  have hf : formCode J N e.f0 e.f1 e.f2 e.f3 = if ¬ (1 ≤ e.f0 ∧ e.f0 ≤ 4) then 4 else if ¬ (0 ≤ e.f1 ∧ e.f1 ≤ N - 1) then 3 else if (e.f0 ≠ 1 ∧ e.f2 ≠ 0) ∨ (e.f0 ≠ 2 ∧ e.f3 ≠ 0) then 5 else
      if (e.f0 = 1 ∧ ¬ (0 ≤ e.f2 ∧ e.f2 ≤ (J : Int) - 1)) ∨ (e.f0 = 2 ∧ ¬ (0 ≤ e.f3 ∧ e.f3 ≤ 1000000000)) then 3 else 0 := by
    unfold formCode
    by_cases c1 : e.f0 < 1 ∨ 4 < e.f0
    · rw [if_pos c1, if_pos (show ¬ (1 ≤ e.f0 ∧ e.f0 ≤ 4) by omega)]
    rw [if_neg c1, if_neg (show ¬ ¬ (1 ≤ e.f0 ∧ e.f0 ≤ 4) by omega)]
    by_cases c2 : e.f1 < 0 ∨ (N : Int) ≤ e.f1
    · rw [if_pos c2, if_pos (show ¬ (0 ≤ e.f1 ∧ e.f1 ≤ (N : Int) - 1) by omega)]
    rw [if_neg c2, if_neg (show ¬ ¬ (0 ≤ e.f1 ∧ e.f1 ≤ (N : Int) - 1) by omega)]
    by_cases c3 : (e.f0 ≠ 1 ∧ e.f2 ≠ 0) ∨ (e.f0 ≠ 2 ∧ e.f3 ≠ 0)
    · rw [if_pos c3, if_pos c3]
    rw [if_neg c3, if_neg c3]
    by_cases c4 : e.f0 = 1 ∧ (e.f2 < 0 ∨ (J : Int) ≤ e.f2)
    · rw [if_pos c4, if_pos (show (e.f0 = 1 ∧ ¬ (0 ≤ e.f2 ∧ e.f2 ≤ (J : Int) - 1)) ∨ (e.f0 = 2 ∧ ¬ (0 ≤ e.f3 ∧ e.f3 ≤ 1000000000)) by omega)]
    rw [if_neg c4]
    by_cases c5 : e.f0 = 2 ∧ (e.f3 < 0 ∨ 1000000000 < e.f3)
    · rw [if_pos c5, if_pos (show (e.f0 = 1 ∧ ¬ (0 ≤ e.f2 ∧ e.f2 ≤ (J : Int) - 1)) ∨ (e.f0 = 2 ∧ ¬ (0 ≤ e.f3 ∧ e.f3 ≤ 1000000000)) by omega)]
    rw [if_neg c5, if_neg (show ¬ ((e.f0 = 1 ∧ ¬ (0 ≤ e.f2 ∧ e.f2 ≤ (J : Int) - 1)) ∨ (e.f0 = 2 ∧ ¬ (0 ≤ e.f3 ∧ e.f3 ≤ 1000000000))) by omega)]
  have hz := fun h0 => formCode_ok (J := J) (N := N) (k := e.f0) (wk := e.f1) (jb := e.f2) (vl := e.f3) h0
  unfold evCode
  by_cases c1 : ¬ (1 ≤ e.f0 ∧ e.f0 ≤ 4)
  · rw [if_pos c1] at hf ⊢; simp [hf]
  rw [if_neg c1] at hf ⊢
  by_cases c2 : ¬ (0 ≤ e.f1 ∧ e.f1 ≤ (N : Int) - 1)
  · rw [if_pos c2] at hf ⊢; simp [hf]
  rw [if_neg c2] at hf ⊢
  by_cases c3 : (e.f0 ≠ 1 ∧ e.f2 ≠ 0) ∨ (e.f0 ≠ 2 ∧ e.f3 ≠ 0)
  · rw [if_pos c3] at hf ⊢; simp [hf]
  rw [if_neg c3] at hf ⊢
  by_cases c4 : (e.f0 = 1 ∧ ¬ (0 ≤ e.f2 ∧ e.f2 ≤ (J : Int) - 1)) ∨ (e.f0 = 2 ∧ ¬ (0 ≤ e.f3 ∧ e.f3 ≤ 1000000000))
  · rw [if_pos c4] at hf ⊢; simp [hf]
  rw [if_neg c4] at hf ⊢
  simp only [hf]
  obtain ⟨w, hw⟩ : ∃ w : Nat, e.f1 = w := ⟨e.f1.toNat, by omega⟩
  have hwN : w < N := by omega
  have hwk := h.work w hwN
  rw [if_neg (by simp), hw, hwk]
  by_cases k1 : e.f0 = 1
  · obtain ⟨j, hj⟩ : ∃ j : Nat, e.f2 = j := ⟨e.f2.toNat, by omega⟩
    rw [if_pos k1, hj, Int.toNat_natCast, h.rep j w (by omega) hwN]
    by_cases b : workingOn p w = -1
    · rw [if_neg (show ¬ workingOn p w ≠ -1 by omega), if_neg (show ¬ badState e.f0 (workingOn p w) by unfold badState; omega)]
      by_cases c : 0 ≤ reported p w j
      · rw [if_pos c, if_pos ⟨k1, c⟩]
      · rw [if_neg c, if_neg (fun h => c h.2)]
    · rw [if_pos b, if_pos (.inl ⟨k1, b⟩)]
  · rw [if_neg k1]
    by_cases k2 : e.f0 = 2
    · rw [if_pos k2]
      by_cases b : workingOn p w < 0
      · rw [if_pos b, if_pos (.inr (.inl ⟨k2, b⟩))]
      · rw [if_neg b, if_neg (show ¬ badState e.f0 (workingOn p w) by unfold badState; omega), if_neg (fun h => k1 h.1)]
    · rw [if_neg k2]
      by_cases k3 : e.f0 = 3
      · rw [if_pos k3]
        by_cases b : workingOn p w = -2
        · rw [if_pos b, if_pos (.inr (.inr (.inl ⟨k3, b⟩)))]
        · rw [if_neg b, if_neg (show ¬ badState e.f0 (workingOn p w) by unfold badState; omega), if_neg (fun h => k1 h.1)]
      · rw [if_neg k3]
        by_cases b : workingOn p w = -2
        · rw [if_neg (show ¬ workingOn p w ≠ -2 by omega), if_neg (show ¬ badState e.f0 (workingOn p w) by unfold badState; omega), if_neg (fun h => k1 h.1)]
        · rw [if_pos b, if_pos (.inr (.inr (.inr ⟨by omega, b⟩)))]
theorem evCode_ok {J N : Int} {p : List WE} {e : WE} (h : evCode J N p e = 0) : (1 ≤ e.f0 ∧ e.f0 ≤ 4) ∧ (0 ≤ e.f1 ∧ e.f1 ≤ N - 1) ∧ (e.f0 = 1 → 0 ≤ e.f2 ∧ e.f2 ≤ J - 1) ∧ (e.f0 = 2 → 0 ≤ e.f3 ∧ e.f3 ≤ 1000000000) ∧ ¬ badState e.f0 (workingOn p e.f1) ∧ (e.f0 = 1 → reported p e.f1 e.f2 < 0) := by
  unfold evCode at h
  by_cases c1 : ¬ (1 ≤ e.f0 ∧ e.f0 ≤ 4)
  · rw [if_pos c1] at h; omega
  rw [if_neg c1] at h
  by_cases c2 : ¬ (0 ≤ e.f1 ∧ e.f1 ≤ N - 1)
  · rw [if_pos c2] at h; omega
  rw [if_neg c2] at h
  by_cases c3 : (e.f0 ≠ 1 ∧ e.f2 ≠ 0) ∨ (e.f0 ≠ 2 ∧ e.f3 ≠ 0)
  · rw [if_pos c3] at h; omega
  rw [if_neg c3] at h
  by_cases c4 : (e.f0 = 1 ∧ ¬ (0 ≤ e.f2 ∧ e.f2 ≤ J - 1)) ∨ (e.f0 = 2 ∧ ¬ (0 ≤ e.f3 ∧ e.f3 ≤ 1000000000))
  · rw [if_pos c4] at h; omega
  rw [if_neg c4] at h
  by_cases c5 : badState e.f0 (workingOn p e.f1)
  · rw [if_pos c5] at h; omega
  rw [if_neg c5] at h
  by_cases c6 : e.f0 = 1 ∧ 0 ≤ reported p e.f1 e.f2
  · rw [if_pos c6] at h; omega
  refine ⟨by omega, by omega, by omega, by omega, c5, fun h1 => ?_⟩
  by_cases h2 : 0 ≤ reported p e.f1 e.f2
  · exact absurd ⟨h1, h2⟩ c6
  · omega
theorem reported_congr {p q : List WE} {w j : Int} (h : reportedO p w j = reportedO q w j) : reported p w j = reported q w j := by unfold reported; rw [h]
theorem Inv.set {F : Farm} {J N : Nat} {need : Int} {p : List WE} (h : Inv F J N need p) (e : WE) (w : Nat) (x : Int) (hw : e.f1 = w) (hwN : w < N) (h2 : e.f0 ≠ 2) (hx : wStep w (workingOn p w) e = x)
    (hwf : ({ F with working := F.working.set w x } : Farm).WF J N) (ho : ∀ j : Nat, x = j → reportedO p w j = none) : Inv { F with working := F.working.set w x } J N need (p ++ [e]) := by
  have hr : ∀ w j, reportedO (p ++ [e]) w j = reportedO p w j := fun w j => by rw [reportedO_snoc, if_neg (fun h => h2 h.1), Option.or_none]
  have ha : ∀ j, acceptedO (p ++ [e]) N need j = acceptedO p N need j := fun j => by rw [acceptedO_snoc, if_neg (fun h => h2 h.1), Option.or_none]
  have hwo : ∀ w' : Nat, workingOn (p ++ [e]) w' = if w = w' then x else workingOn p w' := fun w' => by
    rw [workingOn_snoc]
    by_cases hc : w = w'
    · subst hc; rw [if_pos rfl]; exact hx
    · rw [if_neg hc]; unfold wStep; rw [if_neg (by rw [hw]; omega)]
  have hcn : ∀ j v, cntR (p ++ [e]) N j v = cntR p N j v := fun j v => by
    unfold cntR
    refine List.countP_congr fun w' hw' => ?_
    rw [reported_congr (hr _ _)]
  refine ⟨hwf, h.nd, fun w' hw' => ?_, fun j w' hj hw' => ?_, fun j hj => ?_, fun w' j hw' hj => ?_, fun w' j v hv => ?_, fun j v hv => ?_, fun j v hv => ?_, fun j v hv hq => ?_⟩
  · show rd (F.working.set w x) w' = _
    rw [rd_set _ _ _ _ (by rw [h.wf.work]; exact hwN), hwo]
    split
    · rfl
    · exact h.work w' hw'
  · rw [reported_congr (hr _ _)]; exact h.rep j w' hj hw'
  · show rd F.results j = _
    rw [h.acc j hj]; unfold accepted; rw [ha]
  · rw [hr]
    rw [hwo] at hj
    by_cases hc : w = w'
    · subst hc
      rw [if_pos rfl] at hj
      exact ho j hj
    · rw [if_neg hc] at hj
      exact h.once w' j hw' hj
  · rw [hr] at hv; exact h.pos w' j v hv
  · rw [ha] at hv; exact h.apos j v hv
  · rw [ha] at hv; rw [hcn]; exact h.q1 j v hv
  · rw [hcn] at hq; rw [ha]; exact h.q2 j v hv hq
theorem Inv.step {F : Farm} {J N : Nat} {need : Int} {p : List WE} (h : Inv F J N need p) (e : WE) (he : evCode J N p e = 0) : Inv (evOf F e).1 J N need (p ++ [e]) := by
  have hcode : (evOf F e).2 = 0 := by rw [h.code, he]
  have hwf : (evOf F e).1.WF J N := h.wf.event _ _ _ _
  obtain ⟨⟨k1, k4⟩, ⟨w0, w1⟩, hj, hv, hb, hr⟩ := evCode_ok he
  obtain ⟨w, hw⟩ : ∃ w : Nat, e.f1 = w := ⟨e.f1.toNat, by omega⟩
  have hwN : w < N := by omega
  have hwk := h.work w hwN
  unfold evOf Farm.event at hcode hwf ⊢
  by_cases hc : ¬ formCode F.results.length F.working.length e.f0 e.f1 e.f2 e.f3 = 0
  · simp only at hcode
    rw [if_pos hc] at hcode
    exact absurd hcode hc
  replace hc := Decidable.not_not.1 hc
  simp only at hwf ⊢
  rw [if_neg (not_not_intro hc)] at hwf ⊢
  rw [hw] at hb hr hwf ⊢
  rw [Int.toNat_natCast, hwk] at hwf ⊢
  by_cases p1 : e.f0 = 1
  · obtain ⟨j, hj'⟩ : ∃ j : Nat, e.f2 = j := ⟨e.f2.toNat, by have := hj p1; omega⟩
    have hjJ : j < J := by have := hj p1; omega
    rw [if_pos p1] at hwf ⊢
    have hb1 : ¬ workingOn p w ≠ -1 := fun hn => hb (.inl ⟨p1, hn⟩)
    rw [if_neg hb1, hj', Int.toNat_natCast, h.rep j w hjJ hwN] at hwf
    rw [if_neg hb1, hj', Int.toNat_natCast, h.rep j w hjJ hwN]
    have hrj := hr p1
    rw [hj'] at hrj
    rw [if_neg (by omega)] at hwf
    rw [if_neg (by omega)]
    refine h.set e w j hw hwN (by omega) (by unfold wStep; rw [if_pos hw, if_pos p1, hj']) hwf (fun j' hjj => ?_)
    obtain rfl : j' = j := by omega
    exact (reported_neg (fun v hv => h.pos _ _ v hv)).1 hrj
  rw [if_neg p1] at hwf ⊢
  by_cases p2 : e.f0 = 2
  · rw [if_pos p2] at hwf ⊢
    have hb2 : ¬ workingOn p w < 0 := fun hn => hb (.inr (.inl ⟨p2, hn⟩))
    rw [if_neg hb2] at hwf ⊢
    obtain ⟨v0, v1⟩ := hv p2
    have hvals := h.wf.vals _ (rd_mem (l := F.working) (i := w) (by omega) (by rw [h.wf.work]; omega))
    rw [hwk] at hvals
    obtain ⟨j, hj'⟩ : ∃ j : Nat, workingOn p w = j := ⟨(workingOn p w).toNat, by omega⟩
    have hjJ : j < J := by omega
    have hnone := h.once w j hwN hj'
    have hrl : (F.reports.getD j []).length = N := by
      apply h.wf.rows
      rw [List.getD_eq_getElem?_getD, List.getElem?_eq_getElem (show j < F.reports.length by rw [h.wf.reps]; exact hjJ)]
      exact List.getElem_mem _
    obtain ⟨v, hvv⟩ : ∃ v, e.f3 = v := ⟨_, rfl⟩
    rw [hvv] at hwf ⊢ v0 v1
    have hR : F.report w v = { F with working := F.working.set w (-1), reports := F.reports.set j ((F.reports.getD j []).set w v), results := if rd F.results j < 0 ∧ F.need ≤ (((F.reports.getD j []).set w v).countP (· == v) : Int) then F.results.set j v else F.results } := by
      unfold Farm.report
      simp only [hwk, hj', Int.toNat_natCast]
    show Inv (F.report w v) J N need (p ++ [e])
    have hwf' : (F.report w v).WF J N := hwf
    rw [hR] at hwf' ⊢
    have hro : ∀ w' j' : Nat, reportedO (p ++ [e]) w' j' = if w = w' ∧ j = j' then some v else reportedO p w' j' := fun w' j' => by
      rw [reportedO_snoc]
      by_cases hc : w = w' ∧ j = j'
      · obtain ⟨rfl, rfl⟩ := hc
        rw [if_pos ⟨p2, hw, hj'⟩, if_pos ⟨rfl, rfl⟩, hnone, hvv]; rfl
      · rw [if_neg hc]
        by_cases hc2 : e.f0 = 2 ∧ e.f1 = w' ∧ workingOn p w' = j'
        · exfalso
          apply hc
          obtain ⟨_, hc3, hc4⟩ := hc2
          have : w = w' := by omega
          subst this
          exact ⟨rfl, by omega⟩
        · rw [if_neg hc2, Option.or_none]
    have hrep : ∀ j' w' : Nat, j' < J → w' < N → rd ((F.reports.set j ((F.reports.getD j []).set w v)).getD j' []) w' = reported (p ++ [e]) w' j' := fun j' w' hj1 hw1 => by
      have hx : (F.reports.set j ((F.reports.getD j []).set w v)).getD j' [] = if j = j' then (F.reports.getD j []).set w v else F.reports.getD j' [] := by
        rw [List.getD_eq_getElem?_getD, List.getElem?_set]
        split
        · rename_i hc; subst hc; simp [h.wf.reps, hjJ]
        · rw [List.getD_eq_getElem?_getD]
      rw [hx]
      unfold reported
      rw [hro]
      by_cases hc : j = j'
      · subst hc
        rw [if_pos rfl, rd_set _ _ _ _ (by rw [hrl]; exact hwN)]
        by_cases hc2 : w = w'
        · rw [if_pos hc2, if_pos ⟨hc2, rfl⟩]; rfl
        · rw [if_neg hc2, if_neg (fun h => hc2 h.1)]
          exact h.rep j w' hj1 hw1
      · rw [if_neg hc, if_neg (fun h => hc h.2)]
        exact h.rep j' w' hj1 hw1
    have hcnt : (((F.reports.getD j []).set w v).countP (· == v) : Nat) = cntR (p ++ [e]) N j v := by
      rw [countP_rd, List.length_set, hrl]
      unfold cntR
      refine List.countP_congr fun w' hw' => ?_
      have h1 := hrep j w' hjJ (List.mem_range.1 hw')
      rw [getD_set_self _ _ _ _ (by rw [h.wf.reps]; exact hjJ)] at h1
      rw [h1]
    have hao : ∀ j' : Nat, acceptedO (p ++ [e]) N need j' = if j = j' then (acceptedO p N need j).or (if need ≤ (cntR (p ++ [e]) N j v : Int) then some v else none) else acceptedO p N need j' := fun j' => by
      rw [acceptedO_snoc]
      by_cases hc : j = j'
      · subst hc
        rw [if_pos rfl, hvv]
        by_cases hc2 : need ≤ (cntR (p ++ [e]) N j v : Int)
        · rw [if_pos ⟨p2, by rw [hw]; exact hj', hc2⟩, if_pos hc2]
        · rw [if_neg (fun h => hc2 h.2.2), if_neg hc2]
      · rw [if_neg hc, if_neg (fun h => hc (by have := h.2.1; rw [hw, hj'] at this; omega)), Option.or_none]
    refine ⟨hwf', h.nd, fun w' hw' => ?_, hrep, fun j' hj1 => ?_, fun w' j' hw' hj1 => ?_, fun w' j' v' hv' => ?_, fun j' v' hv' => ?_, fun j' v' hv' => ?_, fun j' v' hv' hq => ?_⟩
    · show rd (F.working.set w (-1)) w' = _
      rw [rd_set _ _ _ _ (by rw [h.wf.work]; exact hwN), workingOn_snoc]
      unfold wStep
      by_cases hc : w = w'
      · rw [if_pos hc, if_pos (by omega), if_neg p1, if_neg (by omega)]
      · rw [if_neg hc, if_neg (by omega)]
        exact h.work w' hw'
    · show rd (if _ then _ else _) _ = _
      unfold accepted
      rw [hao, h.nd, hcnt]
      have hacc := h.acc j hjJ
      unfold accepted at hacc
      by_cases hc : j = j'
      · subst hc
        rw [if_pos rfl]
        cases ho : acceptedO p N need j with
        | none =>
          rw [ho] at hacc
          simp only [Option.getD_none] at hacc
          rw [Option.none_or]
          by_cases hc2 : need ≤ (cntR (p ++ [e]) N j v : Int)
          · rw [if_pos ⟨by omega, hc2⟩, if_pos hc2, rd_set _ _ _ _ (by rw [h.wf.ress]; exact hjJ), if_pos rfl]; rfl
          · rw [if_neg (fun h => hc2 h.2), if_neg hc2, hacc]; rfl
        | some a =>
          rw [ho] at hacc
          have := h.apos j a ho
          simp only [Option.getD_some] at hacc
          rw [if_neg (by omega), hacc]
          rfl
      · rw [if_neg hc]
        have hx : rd (F.results.set j v) j' = rd F.results j' := by rw [rd_set _ _ _ _ (by rw [h.wf.ress]; exact hjJ), if_neg hc]
        split
        · rw [hx]; exact h.acc j' hj1
        · exact h.acc j' hj1
    · rw [workingOn_snoc] at hj1
      unfold wStep at hj1
      by_cases hc : e.f1 = w'
      · rw [if_pos hc, if_neg p1, if_neg (by omega)] at hj1
        omega
      · rw [if_neg hc] at hj1
        rw [hro, if_neg (fun h => hc (by omega))]
        exact h.once w' j' hw' hj1
    · rw [reportedO_snoc] at hv'
      cases ho : reportedO p w' j' with
      | none =>
        rw [ho, Option.none_or] at hv'
        split at hv'
        · injection hv' with hv'; omega
        · cases hv'
      | some a => rw [ho] at hv'; injection hv' with hv'; have := h.pos _ _ _ ho; omega
    · rw [acceptedO_snoc] at hv'
      cases ho : acceptedO p N need j' with
      | none =>
        rw [ho, Option.none_or] at hv'
        split at hv'
        · injection hv' with hv'; omega
        · cases hv'
      | some a => rw [ho] at hv'; injection hv' with hv'; have := h.apos _ _ ho; omega
    · rw [acceptedO_snoc] at hv'
      cases ho : acceptedO p N need j' with
      | none =>
        rw [ho, Option.none_or] at hv'
        split at hv'
        · rename_i hc; injection hv' with hv'; rw [← hv']; exact hc.2.2
        · cases hv'
      | some a =>
        rw [ho] at hv'
        obtain rfl : a = v' := by injection hv'
        have ha0 := h.apos _ _ ho
        refine Int.le_trans (h.q1 _ _ ho) (Int.ofNat_le.2 ?_)
        unfold cntR
        refine List.countP_mono_left fun w' _ hx => ?_
        have hx' : reported p w' j' = a := by simpa using hx
        refine decide_eq_true ?_
        have hs : reportedO p w' j' = some a := by
          unfold reported at hx'
          cases hq : reportedO p w' j' with
          | none => rw [hq] at hx'; simp at hx'; omega
          | some b => rw [hq] at hx'; simp at hx'; rw [hx']
        exact reported_some (by rw [reportedO_snoc, hs]; rfl)
    · by_cases hold : need ≤ (cntR p N j' v' : Int)
      · have := h.q2 j' v' hv' hold
        rw [acceptedO_snoc]
        cases ho : acceptedO p N need j' with
        | none => exact absurd ho this
        | some a => simp
      · by_cases hc : j = j' ∧ v = v'
        · obtain ⟨rfl, rfl⟩ := hc
          rw [hao, if_pos rfl, if_pos hq]
          cases acceptedO p N need j <;> simp
        · exfalso
          apply hold
          refine Int.le_trans hq (Int.ofNat_le.2 ?_)
          unfold cntR
          refine List.countP_mono_left fun w' hw1 hx => ?_
          have hx' : reported (p ++ [e]) w' j' = v' := by simpa using hx
          refine decide_eq_true ?_
          by_cases hd : w = w' ∧ j = j'
          · obtain ⟨rfl, rfl⟩ := hd
            rw [reported_some (show reportedO (p ++ [e]) w j = some v by rw [hro, if_pos ⟨rfl, rfl⟩])] at hx'
            exact absurd ⟨rfl, hx'⟩ hc
          · rw [← hx']
            exact reported_congr (by rw [hro, if_neg hd])
  rw [if_neg p2] at hwf ⊢
  by_cases p3 : e.f0 = 3
  · rw [if_pos p3] at hwf ⊢
    have hb3 : ¬ workingOn p w = -2 := fun hn => hb (.inr (.inr (.inl ⟨p3, hn⟩)))
    rw [if_neg hb3] at hwf ⊢
    exact h.set e w (-2) hw hwN (by omega) (by unfold wStep; rw [if_pos hw, if_neg p1, if_pos p3]) hwf (fun j' hjj => by omega)
  · rw [if_neg p3] at hwf ⊢
    have hb4 : ¬ workingOn p w ≠ -2 := fun hn => hb (.inr (.inr (.inr ⟨by omega, hn⟩)))
    rw [if_neg hb4] at hwf ⊢
    exact h.set e w (-1) hw hwN (by omega) (by unfold wStep; rw [if_pos hw, if_neg p1, if_neg p3]) hwf (fun j' hjj => by omega)
theorem evRun_spec {J N : Nat} {need : Int} : ∀ (es p : List WE) (F : Farm) (i : Int), Inv F J N need p → (evRun F es i).2 = evFault J N p es i ∧ ((evRun F es i).2.1 = 0 → Inv (evRun F es i).1 J N need (p ++ es))
  | [], p, F, i, h => ⟨rfl, fun _ => by rw [List.append_nil]; exact h⟩
  | e :: es, p, F, i, h => by
    have hcode := h.code e
    unfold evRun evFault
    by_cases hc : evCode J N p e = 0
    · rw [if_neg (by rw [hcode]; simpa using hc), if_pos hc]
      have := evRun_spec es (p ++ [e]) (evOf F e).1 (i + 1) (h.step e hc)
      rw [List.append_assoc] at this
      exact this
    · rw [if_pos (by rw [hcode]; exact hc), if_neg hc, hcode]
      exact ⟨rfl, fun h0 => absurd h0 hc⟩
/-- The fault of a replay is the reference's; without one the farm holds what the reference functions say. -/
theorem replay_spec (J N need : Int) (l : List WE) : (replayF J N need l).2 = eventsFault J N need l ∧ ((replayF J N need l).2.1 = 0 → sizesOk J N need ∧ l.length ≤ 40 ∧ Inv (replayF J N need l).1 J.toNat N.toNat need l) := by
  unfold replayF eventsFault
  by_cases hs : sizesOk J N need
  · rw [if_neg (not_not_intro hs), if_neg (not_not_intro hs)]
    by_cases hl : 40 < l.length
    · rw [if_pos hl, if_pos hl]
      exact ⟨rfl, fun h => by simp at h⟩
    · rw [if_neg hl, if_neg hl]
      have := evRun_spec l [] (newFarm J N need) 0 (Inv.start hs)
      have e1 : (J.toNat : Int) = J := by have := hs.1; omega
      have e2 : (N.toNat : Int) = N := by have := hs.2.2.1; omega
      rw [e1, e2] at this
      exact ⟨this.1, fun h => ⟨hs, by omega, by simpa using this.2 h⟩⟩
  · rw [if_pos hs, if_pos hs]
    exact ⟨rfl, fun h => by simp at h⟩
end Go.Proofs.Ytepflpmngegdiaa.H
end
section
namespace Go.Proofs.Ytepflpmngegdiaa.H
open Go.RowKit Go.Proofs.YtepflpmngegdiaaW.PrintWords Go.Proofs.YtepflpmngegdiaaW.PrintLast Go.Proofs.YtepflpmngegdiaaW.PrintMore
set_option linter.unusedVariables false
set_option linter.unusedSimpArgs false
theorem ev_farms (k : Nat) (hk : 10 ≤ k) : changeforgelaw6_farms.f k = some true := at_rounds (fun k => changeforgelaw6_farms.mono k) hk (by kernel_rfl)
theorem row_len {F : Farm} {J N : Nat} {need : Int} {p : List WE} (h : Inv F J N need p) {j : Nat} (hj : j < J) : (F.reports.getD j []).length = N := by
  apply h.wf.rows
  rw [List.getD_eq_getElem?_getD, List.getElem?_eq_getElem (show j < F.reports.length by rw [h.wf.reps]; exact hj)]
  exact List.getElem_mem _
end Go.Proofs.Ytepflpmngegdiaa.H
end
section
namespace Go.Proofs.Ytepflpmngegdiaa.H
open Go.RowKit Go.Proofs.YtepflpmngegdiaaW.PrintWords Go.Proofs.YtepflpmngegdiaaW.PrintLast Go.Proofs.YtepflpmngegdiaaW.PrintMore
set_option linter.unusedVariables false
set_option linter.unusedSimpArgs false
theorem evRun_append (m : List WE) : ∀ (l : List WE) (F : Farm) (i : Int), (evRun F l i).2.1 = 0 → evRun F (l ++ m) i = evRun (evRun F l i).1 m (i + l.length)
  | [], F, i, _ => by simp [evRun]
  | e :: es, F, i, h => by
    unfold evRun at h
    by_cases hc : (evOf F e).2 ≠ 0
    · rw [if_pos hc] at h; exact absurd h hc
    · rw [if_neg hc] at h
      have := evRun_append m es (evOf F e).1 (i + 1) h
      show (if _ then _ else _) = evRun (if _ then _ else _ : Farm × Int × Int).1 _ _
      rw [if_neg hc, if_neg hc, List.append_eq, this, List.length_cons, show i + 1 + (es.length : Int) = i + ((es.length + 1 : Nat) : Int) from by omega]
theorem evRun_prefix (m : List WE) : ∀ (l : List WE) (F : Farm) (i : Int), (evRun F (l ++ m) i).2.1 = 0 → (evRun F l i).2.1 = 0
  | [], F, i, _ => rfl
  | e :: es, F, i, h => by
    rw [List.cons_append] at h
    unfold evRun at h ⊢
    by_cases hc : (evOf F e).2 ≠ 0
    · rw [if_pos hc] at h; exact absurd h hc
    · rw [if_neg hc] at h
      rw [if_neg hc]
      exact evRun_prefix m es _ _ h
theorem replay_append {J N need : Int} {l m : List WE} (h : (replayF J N need l).2.1 = 0) (hl : l.length + m.length ≤ 40) : replayF J N need (l ++ m) = evRun (replayF J N need l).1 m l.length := by
  obtain ⟨_, h2⟩ := replay_spec J N need l
  obtain ⟨hs, h40, _⟩ := h2 h
  unfold replayF at h ⊢
  rw [if_neg (not_not_intro hs), if_neg (by omega)] at h
  rw [if_neg (not_not_intro hs), if_neg (by rw [List.length_append]; omega), if_neg (not_not_intro hs), if_neg (by omega), evRun_append m l _ _ h]
  simp
theorem replay_prefix {J N need : Int} {l m : List WE} (h : (replayF J N need (l ++ m)).2.1 = 0) : (replayF J N need l).2.1 = 0 := by
  obtain ⟨_, h2⟩ := replay_spec J N need (l ++ m)
  obtain ⟨hs, h40, _⟩ := h2 h
  rw [List.length_append] at h40
  unfold replayF at h ⊢
  rw [if_neg (not_not_intro hs), if_neg (by rw [List.length_append]; omega)] at h
  rw [if_neg (not_not_intro hs), if_neg (by omega)]
  exact evRun_prefix m l _ _ h
theorem reportedO_keep (w j v : Int) : ∀ (q p : List WE), reportedO p w j = some v → reportedO (p ++ q) w j = some v
  | [], p, h => by rw [List.append_nil]; exact h
  | e :: q, p, h => by
    rw [show p ++ e :: q = (p ++ [e]) ++ q from by simp]
    exact reportedO_keep w j v q _ (by rw [reportedO_snoc, h]; rfl)
theorem acceptedO_keep (N : Nat) (need j v : Int) : ∀ (q p : List WE), acceptedO p N need j = some v → acceptedO (p ++ q) N need j = some v
  | [], p, h => by rw [List.append_nil]; exact h
  | e :: q, p, h => by
    rw [show p ++ e :: q = (p ++ [e]) ++ q from by simp]
    exact acceptedO_keep N need j v q _ (by rw [acceptedO_snoc, h]; rfl)
theorem reported_keep {p q : List WE} {w j : Int} (h : 0 ≤ reported p w j) : reported (p ++ q) w j = reported p w j := by
  cases ho : reportedO p w j with
  | none => rw [reported_none ho] at h; omega
  | some v => rw [reported_some ho, reported_some (reportedO_keep w j v q p ho)]
theorem accepted_keep {p q : List WE} {N : Nat} {need j : Int} (h : 0 ≤ accepted p N need j) : accepted (p ++ q) N need j = accepted p N need j := by
  unfold accepted at h ⊢
  cases ho : acceptedO p N need j with
  | none => rw [ho] at h; simp at h
  | some v => rw [acceptedO_keep N need j v q p ho]
end Go.Proofs.Ytepflpmngegdiaa.H
end
section
namespace Go.Proofs.Ytepflpmngegdiaa.H
open Go.RowKit Go.Proofs.YtepflpmngegdiaaW.PrintWords Go.Proofs.YtepflpmngegdiaaW.PrintLast Go.Proofs.YtepflpmngegdiaaW.PrintMore
set_option linter.unusedVariables false
set_option linter.unusedSimpArgs false
theorem fin_l1 (a b : List Int) (hab : a.length = b.length) (h100 : a.length ≤ 100) (h : ∀ i : Nat, i < a.length → 0 ≤ rd a i → rd b i = rd a i) :
    ∀ (d i k : Nat), a.length - i = d → i ≤ a.length → d < k → changeforgelaw6_WorkersResultsAreFinal.l1 k a b i = some true := by
  intro d
  induction d with
  | zero =>
    intro i k hd hi hk
    obtain ⟨k, rfl⟩ : ∃ m, k = m + 1 := ⟨k - 1, by omega⟩
    simp only [changeforgelaw6_WorkersResultsAreFinal.l1]
    rw [if_neg (by omega)]
  | succ d ih =>
    intro i k hd hi hk
    obtain ⟨k, rfl⟩ : ∃ m, k = m + 1 := ⟨k - 1, by omega⟩
    simp only [changeforgelaw6_WorkersResultsAreFinal.l1]
    have hn := ih (i + 1) k (by omega) (by omega) (by omega)
    rw [if_pos (by omega), if_pos (by omega), wrap_lt (by omega) (by omega), show ((i : Int) + 1) = ((i + 1 : Nat) : Int) from by omega, hn]
    by_cases h1 : rd a i ≥ 0
    · rw [if_pos h1, if_pos (by omega), if_pos (h i (by omega) h1)]
    · rw [if_neg h1]
theorem fin_l0 (a b x y : List Int) (hab : a.length = b.length) (h100 : a.length ≤ 100) (h : ∀ i : Nat, i < a.length → 0 ≤ rd a i → rd b i = rd a i) (K : Nat) (hK : ∀ k, K ≤ k → changeforgelaw6_WorkersResultsAreFinal.l1 k x y 0 = some true) :
    ∀ (d i k : Nat), a.length - i = d → i ≤ a.length → K + d < k → changeforgelaw6_WorkersResultsAreFinal.l0 k a b x y i = some true := by
  intro d
  induction d with
  | zero =>
    intro i k hd hi hk
    obtain ⟨k, rfl⟩ : ∃ m, k = m + 1 := ⟨k - 1, by omega⟩
    simp only [changeforgelaw6_WorkersResultsAreFinal.l0]
    rw [if_neg (by omega), hK k (by omega)]
  | succ d ih =>
    intro i k hd hi hk
    obtain ⟨k, rfl⟩ : ∃ m, k = m + 1 := ⟨k - 1, by omega⟩
    simp only [changeforgelaw6_WorkersResultsAreFinal.l0]
    have hn := ih (i + 1) k (by omega) (by omega) (by omega)
    rw [if_pos (by omega), if_pos (by omega), wrap_lt (by omega) (by omega), show ((i : Int) + 1) = ((i + 1 : Nat) : Int) from by omega, hn]
    by_cases h1 : rd a i ≥ 0
    · rw [if_pos h1, if_pos (by omega), if_pos (h i (by omega) h1)]
    · rw [if_neg h1]
set_option maxHeartbeats 4000000 in
theorem pf_WorkersResultsAreFinal : changeforgelaw6_WorkersResultsAreFinal.Pure := by
  intro a0 a1 a2 l3 l4 a5 w0 w1 w2 w3 y3 w4 y4 w5
  obtain ⟨M, hM⟩ : ∃ M : Nat, M = 6000 := ⟨_, rfl⟩
  refine ⟨M + 20, ?_⟩
  have hf := ev_farms (M + 20) (by omega)
  unfold changeforgelaw6_WorkersResultsAreFinal.f
  simp only [hf, Option.bind_some, if_true]
  by_cases h1 : (l3.length : Int) > 40
  · rw [if_pos h1]
    simp only [changeforgelaw6_WorkersResultsAreFinal.j0, if_true]
  rw [if_neg h1]
  by_cases h2 : (l4.length : Int) > 40
  · rw [decide_eq_true h2]
    simp only [changeforgelaw6_WorkersResultsAreFinal.j0, if_true]
  rw [decide_eq_false h2]
  simp only [changeforgelaw6_WorkersResultsAreFinal.j0, Bool.false_eq_true, if_false]
  rw [if_pos (by simp; omega)]
  simp only [Option.bind_some, List.nil_append]
  rw [if_pos (by omega)]
  obtain ⟨hs1, hs2⟩ := replay_spec a0 a1 a2 (l3 ++ l4)
  obtain ⟨ht1, ht2⟩ := replay_spec a0 a1 a2 l3
  have hpre := fun h => replay_prefix (J := a0) (N := a1) (need := a2) (l := l3) (m := l4) h
  unfold workers_Play.f workers_Reports.f
  generalize replayF a0 a1 a2 l3 = R at *
  generalize replayF a0 a1 a2 (l3 ++ l4) = S at *
  obtain ⟨F, c, i⟩ := R
  obtain ⟨G, e, x⟩ := S
  simp only at hs1 hs2 ht1 ht2 hpre ⊢
  by_cases he : e = 0
  · have hc := hpre he
    obtain ⟨hso, hl, hI⟩ := ht2 hc
    obtain ⟨_, hl2, hI2⟩ := hs2 he
    rw [if_pos he, if_pos hc, if_pos hc]
    by_cases hj : a5 < 0 ∨ a0 ≤ a5
    · rw [if_pos hj]
      simp [he, hj, changeforgelaw6_WorkersResultsAreFinal.j1]
    · rw [if_neg hj]
      obtain ⟨j, rfl⟩ : ∃ j : Nat, a5 = j := ⟨a5.toNat, by omega⟩
      have hjJ : j < a0.toNat := by omega
      have hN := hI.wf.n8
      have hJ := hI.wf.j12
      have e1 := hI.wf.ress
      have e2 := hI2.wf.ress
      have e3 := row_len hI hjJ
      have e4 := row_len hI2 hjJ
      have h1 := fun d (k : Nat) => fin_l1 (F.reports.getD j []) (G.reports.getD j []) (by omega) (by omega) (fun w hw hp => by
        rw [hI.rep j w hjJ (by omega)] at hp ⊢
        rw [hI2.rep j w hjJ (by omega)]
        exact reported_keep hp) d 0 k
      have h0 := fin_l0 F.results G.results (F.reports.getD j []) (G.reports.getD j []) (by omega) (by omega) (fun w hw hp => by
        rw [hI.acc w (by omega)] at hp ⊢
        rw [hI2.acc w (by omega)]
        exact accepted_keep hp) 200 (fun k hk => h1 _ k rfl (by omega) (by omega)) _ 0 (M + 17) rfl (by omega) (by omega)
      simp only [he, hj, if_true, if_false, Option.bind_some, Int.toNat_natCast, bne_self_eq_false, changeforgelaw6_WorkersResultsAreFinal.j1, Bool.false_eq_true, changeforgelaw6_WorkersResultsAreFinal.j2, e1, e2, e3, e4]
      exact h0
  · rw [if_neg he]
    simp only [he, if_false, Option.bind_some]
    by_cases hc : c = 0
    · by_cases hj : a5 < 0 ∨ a0 ≤ a5
      · simp [hc, he, hj, changeforgelaw6_WorkersResultsAreFinal.j1]
      · simp [hc, he, hj, changeforgelaw6_WorkersResultsAreFinal.j1]
    · simp [hc, he, changeforgelaw6_WorkersResultsAreFinal.j1]
end Go.Proofs.Ytepflpmngegdiaa.H
end
