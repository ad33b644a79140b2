/- Texts that the law TopBuildStepsAreOrdered comes to, printed and by hand, what is not used left out. -/
import Derived.Test.YtffcaglfcnmhdaaDoorCTopBuildStepsAreOrdered9
import Derived.SizedLaws
section
namespace Go.Proofs.YtffcaglfcnmhdaaDoor.H
open Go.RowKit Go.Proofs.YtffcaglfcnmhdaaDoorW.PrintWords Go.Proofs.YtffcaglfcnmhdaaDoorW.PrintLast Go.Proofs.YtffcaglfcnmhdaaDoorW.PrintMore
set_option linter.unusedVariables false
set_option linter.unusedSimpArgs false
open Go.Deep
/-- What reads as data at type t has d's shape; F is what is then known of the value. -/
structure Opens {α : Type} (P : Program) (d : Kd α) (F : α → Prop) (t : TypeId) : Prop where
  size : P.cellsOf t = d.sz
  get : ∀ {H : Type} {enc : TypeId × Value → H} {w : World} {base : Nat} {spare : Nat → Bool} {held : Bool} {fuel : Nat} {cs : List Value} {x : DataW H × List MemPlace},
    DataW.trod enc P w base spare held fuel t cs = some x → ∃ v : α, d.K w v cs ∧ F v
theorem opens_int {P : Program} {t : TypeId} {k : IntKind} (hu : P.underlying t = some (.int k)) (hc : P.cellsOf t = 1) : Opens P (Kd.int k) (fun n => (Lit.int k n).wf = true) t :=
  ⟨hc, fun h => by
    obtain ⟨n, rfl, _, hw⟩ := DataW.trod_int hu h
    exact ⟨n, rfl, hw⟩⟩
theorem list_of {α : Type} (Q : Nat → α → Prop) : ∀ n : Nat, (∀ i, i < n → ∃ v, Q i v) → ∃ l : List α, l.length = n ∧ ∀ i v, l[i]? = some v → Q i v
  | 0, _ => ⟨[], rfl, fun i v h => by simp at h⟩
  | n + 1, h => by
    obtain ⟨l, hl, hq⟩ := list_of Q n (fun i hi => h i (by omega))
    obtain ⟨v, hv⟩ := h n (by omega)
    refine ⟨l ++ [v], by simp [hl], fun i u hu => ?_⟩
    rcases Nat.lt_or_ge i l.length with hi | hi
    · rw [List.getElem?_append_left hi] at hu
      exact hq i u hu
    · have hi' : i = n := by
        have := (List.getElem?_eq_some_iff.1 hu).1
        simp at this
        omega
      subst hi'
      have : v = u := by simpa [hl] using hu
      subst this
      exact hv
theorem opens_slice {α : Type} {P : Program} {d : Kd α} {F : α → Prop} {t e : TypeId} (hd : Opens P d F e) (hu : P.underlying t = some (.slice e)) (hc : P.cellsOf t = 1) :
    Opens P (Kd.slice e d) (fun l => l.length ≤ 9223372036854775807 ∧ ∀ x ∈ l, F x) t :=
  ⟨hc, fun {H enc w base spare held fuel cs x} h => by
    rcases open_slice hu h with ⟨rfl, _⟩ | ⟨a, len, cap, m, n, D, Pl, rfl, _, hl, hm, hmm, _, hx⟩
    · exact ⟨[], ⟨none, 0, rfl, Nat.le_refl _, Kd.C_nil _ _⟩, by simp⟩
    · unfold maxLen at hm
      have hlm : len ≤ m := by rw [hmm]; split <;> omega
      obtain ⟨l, hll, hq⟩ := list_of (fun i v => ∃ c, w.cells? base (a.add (i * P.cellsOf e)) (P.cellsOf e) = some c ∧ d.K w v c ∧ F v) len (fun i hi => by
        obtain ⟨c, h1, h2⟩ := hx i (by omega)
        obtain ⟨v, h3, h4⟩ := hd.get h2
        exact ⟨v, c, h1, h3, h4⟩)
      refine ⟨l, ⟨some a, cap, by rw [hll], by omega, rfl, by omega, fun _ => ⟨a, rfl, fun j p hj => ?_⟩⟩, by omega, fun v hv => ?_⟩
      · obtain ⟨c, h1, h2, _⟩ := hq j p hj
        refine ⟨c, d.K_len h2, h2, fun i u hi => ?_⟩
        have h5 := World.cells?_some h1
        have hlen : c.length = P.cellsOf e := by rw [d.K_len h2, hd.size]
        have hi' : i < P.cellsOf e := by rw [← hlen]; exact (List.getElem?_eq_some_iff.1 hi).1
        have ha : (a.add (j * d.sz + i)) = (a.add (j * P.cellsOf e)).add i := by
          rw [hd.size]
          unfold Addr.add
          by_cases h1 : j * d.sz = 0 <;> by_cases h2 : i = 0 <;> simp [h1, h2, Nat.add_assoc]
        rw [ha]
        obtain ⟨_, h6, h7⟩ := h5
        have h8 := h7 i hi'
        rw [hi] at h8
        exact h8
      · obtain ⟨i, hi⟩ := List.mem_iff_getElem?.1 hv
        obtain ⟨c, _, _, h3⟩ := hq i v hi
        exact h3⟩
/-- The fields from number i on, which lie from off on. -/
structure OpensAt {α : Type} (P : Program) (fs : Array Field) (i off : Nat) (d : Kd α) (F : α → Prop) : Prop where
  get : ∀ {H : Type} {enc : TypeId × Value → H} {w : World} {base : Nat} {spare : Nat → Bool} {held : Bool} {fuel : Nat} {cs : List Value} {xs : List (DataW H × List MemPlace)},
    xs.length = fs.size → (∀ (i : Nat) (f : Field), fs[i]? = some f → DataW.trod enc P w base spare held fuel f.type ((cs.drop f.offset).take (P.cellsOf f.type)) = xs[i]?) →
    ∃ v : α, d.K w v ((cs.drop off).take d.sz) ∧ F v
theorem opensAt_one {α : Type} {P : Program} {fs : Array Field} {i off : Nat} {d : Kd α} {F : α → Prop} (f : Field) (hf : fs[i]? = some f) (ho : f.offset = off) (hd : Opens P d F f.type) : OpensAt P fs i off d F := by
  refine ⟨fun {H enc w base spare held fuel cs xs} hlen h => ?_⟩
  have h1 := h i f hf
  have hi : i < xs.length := by rw [hlen]; exact (Array.getElem?_eq_some_iff.1 hf).1
  rw [List.getElem?_eq_getElem hi, ho, hd.size] at h1
  exact hd.get h1
theorem opensAt_cons {α β : Type} {P : Program} {fs : Array Field} {i off : Nat} {a : Kd α} {b : Kd β} {F : α → Prop} {G : β → Prop} (h0 : OpensAt P fs i off a F) (h1 : OpensAt P fs (i + 1) (off + a.sz) b G) : OpensAt P fs i off (Kd.pair a b) (fun x => F x.1 ∧ G x.2) := by
  refine ⟨fun {H enc w base spare held fuel cs xs} hlen h => ?_⟩
  obtain ⟨v0, k0, f0⟩ := h0.get hlen h
  obtain ⟨v1, k1, f1⟩ := h1.get hlen h
  refine ⟨(v0, v1), ⟨_, _, ?_, k0, k1⟩, f0, f1⟩
  show (cs.drop off).take (a.sz + b.sz) = _
  rw [List.take_add, List.drop_drop]
theorem opens_struct {α : Type} {P : Program} {t : TypeId} {fs : Array Field} {d : Kd α} {F : α → Prop} (hu : P.underlying t = some (.struct fs)) (hc : P.cellsOf t = d.sz) (h : OpensAt P fs 0 0 d F) : Opens P d F t :=
  ⟨hc, fun {H enc w base spare held fuel cs x} hx => by
    obtain ⟨xs, n, _, _, hl, hlen, hf⟩ := DataW.trod_struct hu hx
    obtain ⟨v, hk, hF⟩ := h.get hlen hf
    refine ⟨v, ?_, hF⟩
    rw [List.drop_zero, List.take_of_length_le (by rw [hl, hc]; exact Nat.le_refl _)] at hk
    exact hk⟩
theorem opens_iso {α β : Type} {P : Program} {t : TypeId} {d : Kd α} {F : α → Prop} (f : β → α) (g : α → β) (hg : ∀ v, f (g v) = v) (h : Opens P d F t) : Opens P (Kd.iso d f) (fun x => F (f x)) t :=
  ⟨h.size, fun hx => by
    obtain ⟨v, hk, hF⟩ := h.get hx
    refine ⟨g v, ?_, ?_⟩
    · show d.K _ (f (g v)) _
      rw [hg]
      exact hk
    · show F (f (g v))
      rw [hg]
      exact hF⟩
/-- How long a slice that came in may be. -/
theorem sized_any {H : Type} {enc : TypeId × Value → H} {P : Program} {W : World} {base : Nat} {spare : Nat → Bool} {held : Bool} {t e : TypeId} {a : Option Addr} {len cap : Nat} {d : DataW H} {ps : List MemPlace} {ts : List TypeId} {ds : List (DataW H)} {j : Nat}
    (hsz : (DataW.weightsEach P ts ds).all (· ≤ reachBytes) = true) (ht : ts[j]? = some t) (hd : ds[j]? = some d) (hu : P.underlying t = some (.slice e)) {B : Nat} (hB : P.bytesOf e = B)
    (h : DataW.Trod enc P W base spare held t (.slice a len cap) d ps) : len * B ≤ 140737488351232 := by
  obtain ⟨fuel, hf⟩ := h
  rcases open_slice hu hf with ⟨hcs, _⟩ | ⟨a', len', cap', m, n, D, Pl, hcs, _, hl, hm, hmm, hx, _⟩
  · simp [Value.cells] at hcs
    obtain ⟨rfl, rfl, rfl⟩ := hcs
    simp
  · simp [Value.cells] at hcs
    obtain ⟨rfl, rfl, rfl⟩ := hcs
    obtain ⟨hx, _⟩ := Prod.mk.inj hx
    subst hx
    have z := sized_slice hsz ht hd hu
    rw [hB] at z
    simp only [List.length_map, List.length_range] at z
    exact Nat.le_trans (Nat.mul_le_mul_right _ (Nat.le_add_right _ _)) z
def Fit_T30 (x : S30) : Prop := ((Lit.int .i64 x.f0).wf = true) ∧ (x.f1.length ≤ 9223372036854775807 ∧ ∀ x_ ∈ x.f1, (Lit.int .i64 x_).wf = true)
theorem op_T30 : Opens Tryd.prog k30 Fit_T30 30 := by
  have h := opens_iso (fun x : S30 => (x.f0, x.f1)) (fun v => ⟨v.1, v.2⟩) (fun _ => rfl) (opens_struct Tryd.underlying30 (by kernel_rfl) (opensAt_cons (opensAt_one _ rfl rfl (opens_int Tryd.underlying3 (by kernel_rfl))) (opensAt_one _ rfl rfl (opens_slice (opens_int Tryd.underlying3 (by kernel_rfl)) Tryd.underlying28 (by kernel_rfl)))))
  exact ⟨h.size, fun hx => h.get hx⟩
end Go.Proofs.YtffcaglfcnmhdaaDoor.H
end
section
namespace Go.Proofs.YtffcaglfcnmhdaaDoor.H
open Go.RowKit Go.Proofs.YtffcaglfcnmhdaaDoorW.PrintWords Go.Proofs.YtffcaglfcnmhdaaDoorW.PrintLast Go.Proofs.YtffcaglfcnmhdaaDoorW.PrintMore
set_option linter.unusedVariables false
set_option linter.unusedSimpArgs false
def changeforgetop_TopBuildStepsAreOrdered.Pure : Prop := ∀ (l0 : List (S30)), (l0.length ≤ 9223372036854775807 ∧ ∀ x_ ∈ l0, Fit_T30 x_) → l0.length * 32 ≤ 140737488351232 → ∃ k, changeforgetop_TopBuildStepsAreOrdered.f k l0 = some true
end Go.Proofs.YtffcaglfcnmhdaaDoor.H
end
section
namespace Go.Proofs.YtffcaglfcnmhdaaDoor.H
open Go.RowKit Go.Proofs.YtffcaglfcnmhdaaDoorW.PrintWords Go.Proofs.YtffcaglfcnmhdaaDoorW.PrintLast Go.Proofs.YtffcaglfcnmhdaaDoorW.PrintMore
set_option linter.unusedVariables false
set_option linter.unusedSimpArgs false
open Go.RowKit
/-- From some number of rounds on the answer is v. -/
def Ev {α : Type} (f : Nat → Option α) (v : α) : Prop := ∃ K, ∀ k, K ≤ k → f k = some v
theorem Ev.const {α : Type} (v : α) : Ev (fun _ => some v) v := ⟨0, fun _ _ => rfl⟩
theorem Ev.of_succ {α : Type} {f : Nat → Option α} {v : α} (h : Ev (fun k => f (k + 1)) v) : Ev f v := by
  obtain ⟨K, h⟩ := h
  exact ⟨K + 1, fun k hk => by obtain ⟨m, rfl⟩ : ∃ m, k = m + 1 := ⟨k - 1, by omega⟩; exact h m (by omega)⟩
theorem Ev.bind {α β : Type} {f : Nat → Option α} {g : Nat → α → Option β} {a : α} {b : β} (h : Ev f a) (h2 : Ev (fun k => g k a) b) : Ev (fun k => (f k).bind (g k)) b := by
  obtain ⟨K, h⟩ := h
  obtain ⟨M, h2⟩ := h2
  exact ⟨K + M, fun k hk => by show (f k).bind (g k) = some b; rw [h k (by omega)]; exact h2 k (by omega)⟩
theorem Ev.cast {α : Type} {f : Nat → Option α} {v v' : α} (h : Ev f v) (e : v = v') : Ev f v' := e ▸ h
theorem Ev.run {α : Type} {f : Nat → Option α} {v : α} (h : Ev f v) : ∃ k, f k = some v := by
  obtain ⟨K, h⟩ := h
  exact ⟨K, h K (Nat.le_refl _)⟩
theorem Ev.of_mono {α : Type} {f : Nat → Option α} {v : α} (hm : ∀ k, LeO (f k) (f (k + 1))) {k : Nat} (h : f k = some v) : Ev f v := by
  refine ⟨k, fun m hk => ?_⟩
  induction m with
  | zero => obtain rfl : k = 0 := by omega
            exact h
  | succ m ih =>
    by_cases e : k = m + 1
    · rw [← e]; exact h
    · exact hm m v (ih (by omega))
theorem wrap_lt {x : Int} (h0 : -9223372036854775808 ≤ x) (h1 : x < 9223372036854775808) : wrap64 x = x := by unfold wrap64; omega
theorem wrap_up (i : Nat) (h : i < 9223372036854775807) : wrap64 ((i : Int) + 1) = ((i + 1 : Nat) : Int) := by rw [wrap_lt (by omega) (by omega)]; omega
theorem rd_get (l : List Int) (j : Nat) (h : j < l.length) : rd l (j : Int) = l[j] := by simp [rd, List.getD_eq_getElem?_getD, h]
theorem any_congr' {α : Type} {l : List α} {p q : α → Bool} (h : ∀ x ∈ l, p x = q x) : l.any p = l.any q := by
  induction l with
  | nil => rfl
  | cons a l ih => rw [List.any_cons, List.any_cons, h a (by simp), ih (fun x hx => h x (by simp [hx]))]
/-- A list of N values. -/
def tl {α : Type} (N : Nat) (q : Nat → α) : List α := (List.range N).map q
@[simp] theorem tl_length {α : Type} (N : Nat) (q : Nat → α) : (tl N q).length = N := by simp [tl]
theorem tl_get {α : Type} (d : α) (N : Nat) (q : Nat → α) (i : Nat) (h : i < N) : (tl N q).getD i d = q i := by
  simp [tl, List.getD_eq_getElem?_getD, h]
theorem tl_rd (N : Nat) (q : Nat → Int) (i : Nat) (h : i < N) : rd (tl N q) (i : Int) = q i := tl_get 0 N q i h
theorem tl_rdOf {α : Type} (d : α) (N : Nat) (q : Nat → α) (i : Nat) (h : i < N) : rdOf d (tl N q) (i : Int) = q i := tl_get d N q i h
theorem tl_rd_L1 (N : Nat) (q : Nat → List Int) (i : Nat) (h : i < N) : rd_L1 (tl N q) (i : Int) = q i := tl_get [] N q i h
theorem tl_congr {α : Type} {N : Nat} {p q : Nat → α} (h : ∀ i, i < N → p i = q i) : tl N p = tl N q := List.map_congr_left fun i hi => h i (List.mem_range.1 hi)
theorem tl_set {α : Type} (N : Nat) (q : Nat → α) (i : Nat) (b : α) : (tl N q).set i b = tl N (fun k => if k = i then b else q k) := by
  refine List.ext_getElem? fun j => ?_
  unfold tl
  rw [List.getElem?_set, List.getElem?_map, List.getElem?_map]
  by_cases hj : j < N
  · rw [List.getElem?_range hj]
    by_cases h : i = j
    · subst h; simp [hj]
    · have h' : ¬ j = i := fun h2 => h h2.symm
      simp [h, h']
  · rw [List.getElem?_eq_none (by simpa using hj : (List.range N).length ≤ j)]
    by_cases h : i = j
    · subst h; simp [hj]
    · simp [h]
theorem tl_const {α : Type} (N : Nat) (b : α) : List.replicate N b = tl N (fun _ => b) := by
  unfold tl
  rw [List.map_const']
  simp
theorem tl_snoc {α : Type} (N : Nat) (q : Nat → α) : tl N q ++ [q N] = tl (N + 1) q := by
  unfold tl
  rw [List.range_succ, List.map_append]
  rfl
abbrev adj (g : List (List Int)) (i : Nat) : List Int := rd_L1 g (i : Int)
/-- Nodes of a graph of N, strictly upwards. -/
structure Good (N : Nat) (l : List Int) : Prop where
  rng : ∀ x ∈ l, 0 ≤ x ∧ x < (N : Int)
  inc : l.Pairwise (· < ·)
structure Val (g : List (List Int)) : Prop where
  le : g.length ≤ 24
  ok : ∀ i, i < g.length → Good g.length (adj g i)
/-- An edge. -/
def E (g : List (List Int)) (i j : Nat) : Prop := i < g.length ∧ (j : Int) ∈ adj g i
instance (g : List (List Int)) (i j : Nat) : Decidable (E g i j) := inferInstanceAs (Decidable (_ ∧ _))
theorem E.lt {g : List (List Int)} (h : Val g) {i j : Nat} (e : E g i j) : i < g.length ∧ j < g.length := by
  have := (h.ok i e.1).rng _ e.2
  exact ⟨e.1, by omega⟩
theorem inc_le : ∀ (l : List Int), l.Pairwise (· < ·) → ∀ (a b : Int), (∀ x ∈ l, a ≤ x ∧ x < b) → a ≤ b → (l.length : Int) ≤ b - a
  | [], _, a, b, _, hab => by simp; omega
  | y :: l, hp, a, b, hr, hab => by
    have hy := hr y (by simp)
    rw [List.pairwise_cons] at hp
    have := inc_le l hp.2 (y + 1) b (fun x hx => ⟨by have := hp.1 x hx; omega, (hr x (by simp [hx])).2⟩) (by omega)
    rw [List.length_cons]
    omega
theorem Good.len {N : Nat} {l : List Int} (h : Good N l) : l.length ≤ N := by
  have := inc_le l h.inc 0 N h.rng (by omega)
  omega
/-- A walk of d edges. -/
def Wk (g : List (List Int)) : Nat → Nat → Nat → Prop
  | 0, i, j => i = j
  | d + 1, i, j => ∃ m, E g i m ∧ Wk g d m j
theorem Wk.trans {g : List (List Int)} : ∀ {a b i j k : Nat}, Wk g a i j → Wk g b j k → Wk g (a + b) i k
  | 0, b, i, j, k, h, h2 => by cases h; rw [Nat.zero_add]; exact h2
  | a + 1, b, i, j, k, ⟨m, e, h⟩, h2 => by rw [show a + 1 + b = (a + b) + 1 from by omega]; exact ⟨m, e, h.trans h2⟩
theorem Wk.one {g : List (List Int)} {i j : Nat} (e : E g i j) : Wk g 1 i j := ⟨j, e, rfl⟩
/-- A way of at least one edge. -/
def Rch (g : List (List Int)) (i j : Nat) : Prop := ∃ d, 1 ≤ d ∧ Wk g d i j
theorem Rch.one {g : List (List Int)} {i j : Nat} (e : E g i j) : Rch g i j := ⟨1, Nat.le_refl _, Wk.one e⟩
theorem Rch.trans {g : List (List Int)} {i j k : Nat} (h : Rch g i j) (h2 : Rch g j k) : Rch g i k := by
  obtain ⟨a, ha, h⟩ := h
  obtain ⟨b, hb, h2⟩ := h2
  exact ⟨a + b, by omega, h.trans h2⟩
theorem Rch.fst {g : List (List Int)} {i j : Nat} (h : Rch g i j) : ∃ m, E g i m ∧ (m = j ∨ Rch g m j) := by
  obtain ⟨a, ha, h⟩ := h
  obtain ⟨b, rfl⟩ : ∃ b, a = b + 1 := ⟨a - 1, by omega⟩
  obtain ⟨m, e, h⟩ := h
  refine ⟨m, e, ?_⟩
  by_cases hb : b = 0
  · subst hb; exact .inl h
  · exact .inr ⟨b, by omega, h⟩
theorem Rch.lst {g : List (List Int)} : ∀ {d i j : Nat}, Wk g (d + 1) i j → E g i j ∨ ∃ m, Rch g i m ∧ E g m j
  | 0, i, j, ⟨m, e, h⟩ => by cases h; exact .inl e
  | d + 1, i, j, ⟨m, e, h⟩ => by
    rcases Rch.lst h with h | ⟨q, h, e2⟩
    · exact .inr ⟨m, Rch.one e, h⟩
    · exact .inr ⟨q, (Rch.one e).trans h, e2⟩
theorem Rch.lt {g : List (List Int)} (hv : Val g) {i j : Nat} (h : Rch g i j) : i < g.length ∧ j < g.length := by
  obtain ⟨m, e, _⟩ := h.fst
  obtain ⟨a, ha, h⟩ := h
  obtain ⟨b, rfl⟩ : ∃ b, a = b + 1 := ⟨a - 1, by omega⟩
  rcases Rch.lst h with h | ⟨q, _, e2⟩
  · exact h.lt hv
  · exact ⟨e.1, (e2.lt hv).2⟩
/-- The least d ≥ 1 so that there is a walk of d edges. -/
def Hit (g : List (List Int)) (d i j : Nat) : Prop := 1 ≤ d ∧ Wk g d i j ∧ ∀ e, 1 ≤ e → e < d → ¬ Wk g e i j
theorem Hit.uniq {g : List (List Int)} {d e i j : Nat} (h : Hit g d i j) (h2 : Hit g e i j) : d = e := by
  rcases Nat.lt_trichotomy d e with hlt | heq | hgt
  · exact absurd h.2.1 (h2.2.2 d h.1 hlt)
  · exact heq
  · exact absurd h2.2.1 (h.2.2 e h2.1 hgt)
theorem Hit.rch {g : List (List Int)} {d i j : Nat} (h : Hit g d i j) : Rch g i j := ⟨d, h.1, h.2.1⟩
theorem Hit.next {g : List (List Int)} {d i j : Nat} (h : Hit g (d + 1) i j) (hd : 1 ≤ d) : ∃ m, E g i m ∧ m ≠ j ∧ Hit g d m j := by
  obtain ⟨_, ⟨m, e, hw⟩, hmin⟩ := h
  refine ⟨m, e, ?_, hd, hw, fun f h1 h2 h3 => hmin (f + 1) (by omega) (by omega) ⟨m, e, h3⟩⟩
  rintro rfl
  exact hmin 1 (Nat.le_refl _) (by omega) (Wk.one e)
theorem hole : ∀ (N : Nat) (f : Nat → Nat) (d : Nat), (∀ e, e < d → f e < N) → (∀ a b, a < d → b < d → f a = f b → a = b) → d ≤ N
  | 0, f, d, h, _ => by
    apply Classical.byContradiction
    intro hd
    have := h 0 (by omega)
    omega
  | N + 1, f, d, h, hi => by
    by_cases hc : ∃ e, e < d ∧ f e = N
    · obtain ⟨e, he, hf⟩ := hc
      have := hole N (fun a => f (if a < e then a else a + 1)) (d - 1) (fun a ha => by
        have h1 := h (if a < e then a else a + 1) (by split <;> omega)
        have h2 : f (if a < e then a else a + 1) ≠ N := fun h3 => by
          have := hi _ _ (by split <;> omega) he (h3.trans hf.symm)
          split at this <;> omega
        show f _ < N
        omega) (fun a b ha hb hab => by
        have := hi _ _ (by split <;> omega) (by split <;> omega) hab
        split at this <;> split at this <;> omega)
      omega
    · have := hole N f d (fun e he => by
        have h1 := h e he
        have h2 : f e ≠ N := fun h3 => hc ⟨e, he, h3⟩
        omega) hi
      omega
theorem Hit.down {g : List (List Int)} (hv : Val g) {i j : Nat} : ∀ {d : Nat}, Hit g d i j → ∀ e, 1 ≤ e → e ≤ d → ∃ m, m < g.length ∧ Hit g e m j := by
  intro d
  induction d generalizing i with
  | zero => intro h; exact absurd h.1 (by omega)
  | succ d ih =>
    intro h e h1 h2
    by_cases he : e = d + 1
    · subst he
      exact ⟨i, (h.rch.lt hv).1, h⟩
    · obtain ⟨m, _, _, hm⟩ := h.next (by omega)
      exact ih hm e h1 (by omega)
/-- A shortest way has no more edges than there are nodes. -/
theorem Hit.le {g : List (List Int)} (hv : Val g) {d i j : Nat} (h : Hit g d i j) : d ≤ g.length := by
  have hx : ∀ e, ∃ m, e < d → m < g.length ∧ Hit g (e + 1) m j := fun e => by
    by_cases he : e < d
    · obtain ⟨m, h1, h2⟩ := h.down hv (e + 1) (by omega) (by omega)
      exact ⟨m, fun _ => ⟨h1, h2⟩⟩
    · exact ⟨0, fun h' => absurd h' he⟩
  refine hole g.length (fun e => Classical.choose (hx e)) d (fun e he => (Classical.choose_spec (hx e) he).1) (fun a b ha hb hab => ?_)
  have h1 := (Classical.choose_spec (hx a) ha).2
  have h2 := (Classical.choose_spec (hx b) hb).2
  rw [hab] at h1
  have := h1.uniq h2
  omega
end Go.Proofs.YtffcaglfcnmhdaaDoor.H
end
section
namespace Go.Proofs.YtffcaglfcnmhdaaDoor.H
open Go.RowKit Go.Proofs.YtffcaglfcnmhdaaDoorW.PrintWords Go.Proofs.YtffcaglfcnmhdaaDoorW.PrintLast Go.Proofs.YtffcaglfcnmhdaaDoorW.PrintMore
set_option linter.unusedVariables false
set_option linter.unusedSimpArgs false
open Go.RowKit
theorem Val.adj_get {g : List (List Int)} (h : Val g) {i j : Nat} (hi : i < g.length) (hj : j < (adj g i).length) : ∃ x : Nat, x < g.length ∧ rd (adj g i) (j : Int) = (x : Int) ∧ (adj g i)[j] = (x : Int) ∧ E g i x := by
  have := (h.ok i hi).rng _ (List.getElem_mem hj)
  exact ⟨(adj g i)[j].toNat, by omega, by rw [rd_get _ _ hj]; omega, by omega, hi, by rw [show (((adj g i)[j].toNat : Nat) : Int) = (adj g i)[j] from by omega]; exact List.getElem_mem hj⟩
theorem Val.len {g : List (List Int)} (h : Val g) {i : Nat} (hi : i < g.length) : (adj g i).length ≤ 24 := by
  have := (h.ok i hi).len
  have := h.le
  omega
/-- Unmarked ones below N. -/
def um (N : Nat) (q : Nat → Bool) : Nat := ((List.range N).filter (fun i => !q i)).length
theorem um_set : ∀ (N : Nat) (q : Nat → Bool) (i : Nat), i < N → q i = false → um N q = um N (fun k => if k = i then true else q k) + 1
  | 0, q, i, hi, _ => by omega
  | N + 1, q, i, hi, hq => by
    unfold um
    rw [List.range_succ, List.filter_append, List.filter_append, List.length_append, List.length_append]
    by_cases he : i = N
    · subst he
      have : (List.range i).filter (fun k => !(if k = i then true else q k)) = (List.range i).filter (fun k => !q k) := by
        refine List.filter_congr fun k hk => ?_
        rw [if_neg (by have := List.mem_range.1 hk; omega)]
      rw [this]
      simp [hq]
    · have := um_set N q i (by omega) hq
      unfold um at this
      have hN : List.filter (fun k => !(if k = i then true else q k)) [N] = List.filter (fun k => !q k) [N] := by
        refine List.filter_congr fun k hk => ?_
        rw [if_neg (by have := List.mem_singleton.1 hk; omega)]
      rw [hN, this]
      omega
theorem um_le (N : Nat) (q : Nat → Bool) : um N q ≤ N := by
  unfold um
  exact Nat.le_trans (List.length_filter_le _ _) (by simp)
/-- What reach's loop keeps: all marked and all in the queue can be reached; what is marked or is the start has its neighbours marked or queued. -/
structure Line (g : List (List Int)) (s : Nat) (q : Nat → Bool) (ln : List Int) : Prop where
  mkd : ∀ i, i < g.length → q i = true → Rch g s i
  qu : ∀ x ∈ ln, 0 ≤ x ∧ x < (g.length : Int) ∧ Rch g s x.toNat
  st : ∀ j, E g s j → q j = true ∨ (j : Int) ∈ ln
  cl : ∀ i j, i < g.length → q i = true → E g i j → q j = true ∨ (j : Int) ∈ ln
theorem Wk.snoc {g : List (List Int)} : ∀ {d i j : Nat}, Wk g (d + 1) i j → ∃ m, Wk g d i m ∧ E g m j
  | 0, i, j, ⟨m, e, h⟩ => by cases h; exact ⟨i, rfl, e⟩
  | d + 1, i, j, ⟨m, e, h⟩ => by
    obtain ⟨m', h, e'⟩ := Wk.snoc h
    exact ⟨m', ⟨m, e, h⟩, e'⟩
theorem Line.done {g : List (List Int)} (hv : Val g) {s : Nat} {q : Nat → Bool} (h : Line g s q []) (i : Nat) (hi : i < g.length) : q i = true ↔ Rch g s i := by
  refine ⟨h.mkd i hi, ?_⟩
  rintro ⟨d, hd, hw⟩
  obtain ⟨e, rfl⟩ : ∃ e, d = e + 1 := ⟨d - 1, by omega⟩
  clear hd
  induction e generalizing i with
  | zero =>
    obtain ⟨m, he, hm⟩ := hw
    cases hm
    exact (h.st _ he).resolve_right (by simp)
  | succ e ih =>
    obtain ⟨m, hm, he⟩ := hw.snoc
    have hml := (he.lt hv).1
    exact (h.cl m i hml (ih m hml hm) he).resolve_right (by simp)
theorem Line.skip {g : List (List Int)} {s : Nat} {q : Nat → Bool} {x : Nat} {ln : List Int} (h : Line g s q ((x : Int) :: ln)) (hx : q x = true) : Line g s q ln := by
  refine ⟨h.mkd, fun y hy => h.qu y (by simp [hy]), fun j hj => ?_, fun i j hi hq he => ?_⟩
  · rcases h.st j hj with h1 | h1
    · exact .inl h1
    · rcases List.mem_cons.1 h1 with h2 | h2
      · obtain rfl : j = x := by omega
        exact .inl hx
      · exact .inr h2
  · rcases h.cl i j hi hq he with h1 | h1
    · exact .inl h1
    · rcases List.mem_cons.1 h1 with h2 | h2
      · obtain rfl : j = x := by omega
        exact .inl hx
      · exact .inr h2
theorem Line.take {g : List (List Int)} (hv : Val g) {s : Nat} {q : Nat → Bool} {x : Nat} {ln : List Int} (h : Line g s q ((x : Int) :: ln)) : Line g s (fun k => if k = x then true else q k) (ln ++ adj g x) := by
  have hxr := h.qu x (by simp)
  have hxl : x < g.length := by omega
  have hrx : Rch g s x := by have := hxr.2.2; rwa [Int.toNat_natCast] at this
  refine ⟨fun i hi hq => ?_, fun y hy => ?_, fun j hj => ?_, fun i j hi hq he => ?_⟩
  · by_cases e : i = x
    · rw [e]; exact hrx
    · rw [if_neg e] at hq
      exact h.mkd i hi hq
  · rcases List.mem_append.1 hy with h1 | h1
    · exact h.qu y (by simp [h1])
    · have h2 := (hv.ok x hxl).rng y h1
      refine ⟨h2.1, h2.2, hrx.trans (Rch.one ⟨hxl, ?_⟩)⟩
      rw [show ((y.toNat : Nat) : Int) = y from by omega]
      exact h1
  · rcases h.st j hj with h1 | h1
    · left; split <;> simp_all
    · rcases List.mem_cons.1 h1 with h2 | h2
      · left; rw [if_pos (by omega)]
      · right; simp [h2]
  · by_cases e : i = x
    · right
      rw [e] at he
      exact List.mem_append.2 (.inr he.2)
    · rw [if_neg e] at hq
      rcases h.cl i j hi hq he with h1 | h1
      · left; split <;> simp_all
      · rcases List.mem_cons.1 h1 with h2 | h2
        · left; rw [if_pos (by omega)]
        · right; simp [h2]
theorem reach_loop {g : List (List Int)} (hv : Val g) (s : Nat) : ∀ (n : Nat) (q : Nat → Bool) (ln : List Int), 25 * um g.length q + ln.length = n → n ≤ 1000 → Line g s q ln → ∃ q', Ev (fun k => depgraph_reach.l0 k g (tl g.length q) ln) (tl g.length q') ∧ ∀ i, i < g.length → (q' i = true ↔ Rch g s i) := by
  intro n
  induction n using Nat.strongRecOn with
  | _ n ih =>
  intro q ln hn hb hl
  cases ln with
  | nil =>
    refine ⟨q, Ev.of_succ ?_, hl.done hv⟩
    simp only [depgraph_reach.l0, List.length_nil, show ¬ (((0 : Nat) : Int) > 0) from by omega, ↓reduceIte]
    exact Ev.const _
  | cons y ln =>
    have hy := hl.qu y (by simp)
    obtain ⟨x, rfl⟩ : ∃ x : Nat, y = (x : Int) := ⟨y.toNat, by omega⟩
    have hxl : x < g.length := by omega
    have hum := um_le g.length q
    have hle := hv.le
    by_cases hq : q x = true
    · obtain ⟨q', h1, h2⟩ := ih (25 * um g.length q + ln.length) (by rw [← hn, List.length_cons]; omega) q ln rfl (by rw [List.length_cons] at hn; omega) (hl.skip hq)
      refine ⟨q', Ev.of_succ ?_, h2⟩
      have h0 : rd ((x : Int) :: ln) 0 = (x : Int) := rfl
      simp only [depgraph_reach.l0, List.length_cons, show ((ln.length + 1 : Nat) : Int) > 0 from by omega, show (0 : Int) < ((ln.length + 1 : Nat) : Int) from by omega, show (1 : Int) ≤ ((ln.length + 1 : Nat) : Int) from by omega, Option.bind_some, h0, tl_length, show (0 : Int) ≤ (x : Int) from by omega, show (x : Int) < (g.length : Int) from by omega, tl_rdOf false _ _ _ hxl, hq, ↓reduceIte]
      exact h1
    · have hq' : q x = false := by simpa using hq
      have hu := um_set g.length q x hxl hq'
      have hal := hv.len hxl
      obtain ⟨q', h1, h2⟩ := ih (25 * um g.length (fun k => if k = x then true else q k) + (ln ++ adj g x).length) (by rw [← hn, List.length_cons, List.length_append]; omega) _ _ rfl (by rw [List.length_cons] at hn; rw [List.length_append]; omega) (hl.take hv)
      refine ⟨q', Ev.of_succ ?_, h2⟩
      have h0 : rd ((x : Int) :: ln) 0 = (x : Int) := rfl
      rw [List.length_cons] at hn
      simp only [depgraph_reach.l0, List.length_cons, show ((ln.length + 1 : Nat) : Int) > 0 from by omega, show (0 : Int) < ((ln.length + 1 : Nat) : Int) from by omega, show (1 : Int) ≤ ((ln.length + 1 : Nat) : Int) from by omega, Option.bind_some, h0, tl_length, show (0 : Int) ≤ (x : Int) from by omega, show (x : Int) < (g.length : Int) from by omega, tl_rdOf false _ _ _ hxl, hq', ↓reduceIte, Int.toNat_natCast, tl_set, Bool.false_eq_true]
      have hlen : (List.drop (Int.toNat 1) ((x : Int) :: ln)).length + (rd_L1 g (x : Int)).length < 17592186044416 := by
        show ln.length + (adj g x).length < 17592186044416
        omega
      simp only [hlen, ↓reduceIte]
      exact h1
theorem reach_ev {g : List (List Int)} (hv : Val g) {s : Nat} (hs : s < g.length) : ∃ q, Ev (fun k => depgraph_reach.f k g (s : Int)) (tl g.length q) ∧ ∀ i, i < g.length → (q i = true ↔ Rch g s i) := by
  have hle := hv.le
  have hal := hv.len hs
  obtain ⟨q, h1, h2⟩ := reach_loop hv s _ (fun _ => false) (adj g s) rfl (by have := um_le g.length (fun _ => false); omega)
    ⟨fun i _ h => by simp at h, fun x hx => by have h2 := (hv.ok s hs).rng x hx; exact ⟨h2.1, h2.2, Rch.one ⟨hs, by rw [show ((x.toNat : Nat) : Int) = x from by omega]; exact hx⟩⟩, fun j he => .inr he.2, fun i j _ h => by simp at h⟩
  refine ⟨q, ?_, h2⟩
  simp only [depgraph_reach.f, Int.toNat_natCast, show (0 : Int) ≤ (g.length : Int) from by omega, show g.length ≤ 281474976710656 from by omega, show (0 : Int) ≤ (s : Int) from by omega, show (s : Int) < (g.length : Int) from by omega, slices_Clone_int_int.f, show (rd_L1 g (s : Int)).length < 1000000000 from by show (adj g s).length < _; omega, ↓reduceIte, Option.bind_some, tl_const]
  exact h1
/-- r is the least node on a cycle, or -1. -/
def Fst (g : List (List Int)) (r : Int) : Prop := (r = -1 ∧ ∀ i, i < g.length → ¬ Rch g i i) ∨ ∃ i : Nat, i < g.length ∧ r = (i : Int) ∧ Rch g i i ∧ ∀ j, j < i → ¬ Rch g j j
theorem first_ev {g : List (List Int)} (hv : Val g) : ∃ r, Ev (fun k => depgraph_first.f k g) r ∧ Fst g r := by
  have hle := hv.le
  have loop : ∀ d i, g.length - i = d → i ≤ g.length → (∀ j, j < i → ¬ Rch g j j) → ∃ r, Ev (fun k => depgraph_first.l0 k g (g.length : Int) (i : Int)) r ∧ Fst g r := by
    intro d
    induction d with
    | zero =>
      intro i hd hi hn
      refine ⟨-1, Ev.of_succ ?_, .inl ⟨rfl, fun j hj => hn j (by omega)⟩⟩
      simp only [depgraph_first.l0, show ¬ (i : Int) < (g.length : Int) from by omega, ↓reduceIte]
      exact Ev.const _
    | succ d ih =>
      intro i hd hi hn
      have hil : i < g.length := by omega
      obtain ⟨q, h1, h2⟩ := reach_ev hv hil
      by_cases hq : q i = true
      · refine ⟨(i : Int), Ev.of_succ ?_, .inr ⟨i, hil, rfl, (h2 i hil).1 hq, hn⟩⟩
        simp only [depgraph_first.l0, show (i : Int) < (g.length : Int) from by omega, ↓reduceIte]
        refine Ev.bind h1 ?_
        simp only [show (0 : Int) ≤ (i : Int) from by omega, tl_length, show (i : Int) < (g.length : Int) from by omega, tl_rdOf false _ _ _ hil, hq, ↓reduceIte]
        exact Ev.const _
      · have hq' : q i = false := by simpa using hq
        obtain ⟨r, h3, h4⟩ := ih (i + 1) (by omega) (by omega) (fun j hj => by
          by_cases e : j = i
          · rw [e]; exact fun h => hq ((h2 i hil).2 h)
          · exact hn j (by omega))
        refine ⟨r, Ev.of_succ ?_, h4⟩
        simp only [depgraph_first.l0, show (i : Int) < (g.length : Int) from by omega, ↓reduceIte]
        refine Ev.bind h1 ?_
        simp only [show (0 : Int) ≤ (i : Int) from by omega, tl_length, show (i : Int) < (g.length : Int) from by omega, tl_rdOf false _ _ _ hil, hq', ↓reduceIte, Bool.false_eq_true, wrap_up i (by omega)]
        exact h3
  exact loop _ 0 rfl (by omega) (fun j hj => by omega)
/-- Whether x does not come behind what is ahead. -/
def nx (x : Int) : Option Int → Bool | none => false | some y => decide (x ≤ y)
/-- The code of a list of nodes below N; p: the node ahead. -/
def lc (N : Int) : Option Int → List Int → Int
  | _, [] => 0
  | p, x :: l => if x < 0 ∨ N ≤ x then 3 else if nx x p = true then 5 else lc N (some x) l
/-- The fault of the lists from the i-th on. -/
def gl (N : Int) : Nat → List (List Int) → Int × Int
  | _, [] => (0, 0)
  | i, l :: t => if lc N none l = 0 then gl N (i + 1) t else (lc N none l, (i : Int))
def gf (g : List (List Int)) : Int × Int := if g.length > 24 then (2, -1) else gl g.length 0 g
theorem lc_good (N : Nat) : ∀ (l : List Int) (p : Option Int), lc N p l = 0 → Good N l ∧ ∀ y, p = some y → ∀ x ∈ l, y < x
  | [], p, _ => ⟨⟨by simp, List.Pairwise.nil⟩, by simp⟩
  | x :: l, p, h => by
    unfold lc at h
    by_cases h1 : x < 0 ∨ (N : Int) ≤ x
    · rw [if_pos h1] at h; omega
    rw [if_neg h1] at h
    by_cases h2 : nx x p = true
    · rw [if_pos h2] at h; omega
    rw [if_neg h2] at h
    obtain ⟨hg, hp⟩ := lc_good N l (some x) h
    have hx := hp x rfl
    refine ⟨⟨fun y hy => ?_, List.pairwise_cons.2 ⟨hx, hg.inc⟩⟩, fun y hy z hz => ?_⟩
    · rcases List.mem_cons.1 hy with h | h
      · omega
      · exact hg.rng y h
    · subst hy
      have h2' : ¬ x ≤ y := fun h3 => h2 (decide_eq_true h3)
      rcases List.mem_cons.1 hz with h | h
      · omega
      · have := hx z h
        omega
theorem good_lc (N : Nat) : ∀ (l : List Int) (p : Option Int), Good N l → (∀ y, p = some y → ∀ x ∈ l, y < x) → lc N p l = 0
  | [], p, _, _ => rfl
  | x :: l, p, h, hp => by
    unfold lc
    have hx := h.rng x (by simp)
    rw [if_neg (by omega), if_neg (by
      cases p with
      | none => simp [nx]
      | some y => have := hp y rfl x (by simp); simp [nx]; omega)]
    have hi := List.pairwise_cons.1 h.inc
    exact good_lc N l (some x) ⟨fun y hy => h.rng y (by simp [hy]), hi.2⟩ (fun y hy => by cases hy; exact hi.1)
theorem gl_zero (N : Int) : ∀ (t : List (List Int)) (i : Nat), (gl N i t).1 = 0 → gl N i t = (0, 0) ∧ ∀ l ∈ t, lc N none l = 0
  | [], _, _ => ⟨rfl, by simp⟩
  | l :: t, i, h => by
    unfold gl at h ⊢
    by_cases h1 : lc N none l = 0
    · rw [if_pos h1] at h ⊢
      obtain ⟨h2, h3⟩ := gl_zero N t (i + 1) h
      exact ⟨h2, fun y hy => by rcases List.mem_cons.1 hy with e | e; · rw [e]; exact h1
                                · exact h3 y e⟩
    · rw [if_neg h1] at h
      exact absurd h h1
theorem gf_val {g : List (List Int)} (h : (gf g).1 = 0) : gf g = (0, 0) ∧ Val g := by
  unfold gf at h ⊢
  by_cases h1 : g.length > 24
  · rw [if_pos h1] at h; simp at h
  · rw [if_neg h1] at h ⊢
    obtain ⟨h2, h3⟩ := gl_zero _ _ _ h
    refine ⟨h2, by omega, fun i hi => ?_⟩
    have : adj g i = g[i] := by simp [rd_L1, List.getD_eq_getElem?_getD, hi]
    rw [this]
    exact (lc_good _ _ _ (h3 _ (List.getElem_mem hi))).1
/-- What stands ahead of place j. -/
def pv (l : List Int) (j : Nat) : Option Int := if 0 < j then some (rd l ((j : Int) - 1)) else none
theorem pv_succ (l : List Int) (j : Nat) : pv l (j + 1) = some (rd l (j : Int)) := by
  unfold pv
  rw [if_pos (by omega), show (((j + 1 : Nat) : Int) - 1) = (j : Int) from by omega]
theorem drop_rd (l : List Int) (j : Nat) (h : j < l.length) : l.drop j = rd l (j : Int) :: l.drop (j + 1) := by rw [List.drop_eq_getElem_cons h, rd_get l j h]
theorem list_ev (N : Nat) (l : List Int) (hl : l.length ≤ 9223372036854775807) : Ev (fun k => depgraph_list.f k (N : Int) l) (lc N none l) := by
  have loop : ∀ d j, l.length - j = d → j ≤ l.length → Ev (fun k => depgraph_list.l0 k (N : Int) l l (l.length : Int) (j : Int)) (lc N (pv l j) (l.drop j)) := by
    intro d
    induction d with
    | zero =>
      intro j hd hj
      refine Ev.of_succ ?_
      simp only [depgraph_list.l0, show ¬ (j : Int) < (l.length : Int) from by omega, ↓reduceIte]
      rw [List.drop_eq_nil_of_le (by omega)]
      exact Ev.const _
    | succ d ih =>
      intro j hd hj
      have hjl : j < l.length := by omega
      refine Ev.of_succ ?_
      simp only [depgraph_list.l0, show (j : Int) < (l.length : Int) from by omega, show (0 : Int) ≤ (j : Int) from by omega, ↓reduceIte]
      rw [drop_rd l j hjl]
      unfold lc
      have next : ∀ (b : Bool), b = false → ¬ (rd l (j : Int) < 0 ∨ (N : Int) ≤ rd l (j : Int)) → Ev (fun k => depgraph_list.j1 k (N : Int) l (j : Int) (rd l (j : Int)) l (l.length : Int) (j : Int) b) (if nx (rd l (j : Int)) (pv l j) = true then 5 else lc (N : Int) (some (rd l (j : Int))) (l.drop (j + 1))) := by
        intro b hb hr
        subst hb
        refine Ev.of_succ ?_
        have h2 := ih (j + 1) (by omega) (by omega)
        rw [pv_succ] at h2
        by_cases hj0 : 0 < j
        · have e1 : pv l j = some (rd l ((j : Int) - 1)) := if_pos hj0
          rw [e1]
          by_cases hle : rd l (j : Int) ≤ rd l ((j : Int) - 1)
          · simp only [depgraph_list.j1, Bool.false_eq_true, ↓reduceIte, show (j : Int) > 0 from by omega, wrap_lt (show -9223372036854775808 ≤ (j : Int) - 1 from by omega) (by omega), show (0 : Int) ≤ (j : Int) - 1 from by omega, show (j : Int) - 1 < (l.length : Int) from by omega, hle, nx, decide_true]
            exact Ev.const _
          · simp only [depgraph_list.j1, Bool.false_eq_true, ↓reduceIte, show (j : Int) > 0 from by omega, wrap_lt (show -9223372036854775808 ≤ (j : Int) - 1 from by omega) (by omega), show (0 : Int) ≤ (j : Int) - 1 from by omega, show (j : Int) - 1 < (l.length : Int) from by omega, hle, nx, decide_false, wrap_up j (by omega)]
            exact h2
        · have e1 : pv l j = none := if_neg hj0
          rw [e1]
          simp only [depgraph_list.j1, Bool.false_eq_true, ↓reduceIte, show ¬ (j : Int) > 0 from by omega, nx, wrap_up j (by omega)]
          exact h2
      by_cases h1 : rd l (j : Int) < 0
      · simp only [h1, true_or, ↓reduceIte]
        refine Ev.of_succ ?_
        simp only [depgraph_list.j1, ↓reduceIte]
        exact Ev.const _
      · by_cases h2 : (N : Int) ≤ rd l (j : Int)
        · simp only [h1, h2, or_true, ↓reduceIte, show rd l (j : Int) ≥ (N : Int) from h2, decide_true]
          refine Ev.of_succ ?_
          simp only [depgraph_list.j1, ↓reduceIte]
          exact Ev.const _
        · simp only [h1, h2, or_self, ↓reduceIte]
          exact next _ (by simp) (by omega)
  exact loop _ 0 rfl (by omega)
theorem Validate_ev (g : List (List Int)) (hl : ∀ l ∈ g, l.length ≤ 9223372036854775807) : Ev (fun k => depgraph_Validate.f k g) (gf g) := by
  unfold gf
  by_cases hN : g.length > 24
  · simp only [depgraph_Validate.f, show (g.length : Int) > 24 from by omega, hN, ↓reduceIte]
    exact Ev.const _
  simp only [depgraph_Validate.f, show ¬ (g.length : Int) > 24 from by omega, hN, ↓reduceIte]
  have loop : ∀ d i, g.length - i = d → i ≤ g.length → Ev (fun k => depgraph_Validate.l0 k g g (g.length : Int) (i : Int)) (gl g.length i (g.drop i)) := by
    intro d
    induction d with
    | zero =>
      intro i hd hi
      refine Ev.of_succ ?_
      simp only [depgraph_Validate.l0, show ¬ (i : Int) < (g.length : Int) from by omega, ↓reduceIte]
      rw [List.drop_eq_nil_of_le (by omega)]
      exact Ev.const _
    | succ d ih =>
      intro i hd hi
      have hil : i < g.length := by omega
      refine Ev.of_succ ?_
      have e : rd_L1 g (i : Int) = g[i] := by simp [rd_L1, List.getD_eq_getElem?_getD, hil]
      simp only [depgraph_Validate.l0, show (i : Int) < (g.length : Int) from by omega, show (0 : Int) ≤ (i : Int) from by omega, ↓reduceIte, e]
      rw [List.drop_eq_getElem_cons hil]
      refine Ev.bind (list_ev g.length g[i] (hl _ (List.getElem_mem hil))) ?_
      unfold gl
      by_cases h0 : lc (g.length : Int) none g[i] = 0
      · simp only [h0, ↓reduceIte, wrap_up i (by omega)]
        exact ih (i + 1) (by omega) (by omega)
      · simp only [h0, ↓reduceIte]
        exact Ev.const _
  exact loop _ 0 rfl (by omega)
end Go.Proofs.YtffcaglfcnmhdaaDoor.H
end
section
namespace Go.Proofs.YtffcaglfcnmhdaaDoor.H
open Go.RowKit Go.Proofs.YtffcaglfcnmhdaaDoorW.PrintWords Go.Proofs.YtffcaglfcnmhdaaDoorW.PrintLast Go.Proofs.YtffcaglfcnmhdaaDoorW.PrintMore
set_option linter.unusedVariables false
set_option linter.unusedSimpArgs false
open Go.RowKit
/-- The numbers below N that p holds of. -/
def fl (N : Nat) (p : Nat → Bool) : List Int := ((List.range N).filter p).map (fun i : Nat => (i : Int))
theorem fl_succ (N : Nat) (p : Nat → Bool) : fl (N + 1) p = if p N = true then fl N p ++ [(N : Int)] else fl N p := by
  unfold fl
  rw [List.range_succ, List.filter_append]
  by_cases h : p N = true
  · rw [if_pos h]; simp [h]
  · rw [if_neg h]; simp [h]
theorem fl_len (N : Nat) (p : Nat → Bool) : (fl N p).length ≤ N := by
  unfold fl
  rw [List.length_map]
  exact Nat.le_trans (List.length_filter_le _ _) (by simp)
theorem fl_mem (N : Nat) (p : Nat → Bool) (i : Nat) : (i : Int) ∈ fl N p ↔ i < N ∧ p i = true := by
  unfold fl
  rw [List.mem_map]
  constructor
  · rintro ⟨j, hj, e⟩
    obtain rfl : j = i := by omega
    rw [List.mem_filter, List.mem_range] at hj
    exact hj
  · intro h
    exact ⟨i, List.mem_filter.2 ⟨List.mem_range.2 h.1, h.2⟩, rfl⟩
theorem fl_mem' (N : Nat) (p : Nat → Bool) (x : Int) (h : x ∈ fl N p) : 0 ≤ x ∧ x < (N : Int) := by
  unfold fl at h
  obtain ⟨j, hj, rfl⟩ := List.mem_map.1 h
  rw [List.mem_filter, List.mem_range] at hj
  omega
theorem fl_congr {N : Nat} {p q : Nat → Bool} (h : ∀ i, i < N → p i = q i) : fl N p = fl N q := by
  unfold fl
  rw [List.filter_congr (fun i hi => h i (List.mem_range.1 hi))]
theorem fl_good (N : Nat) (p : Nat → Bool) : Good N (fl N p) := by
  refine ⟨fun x hx => fl_mem' N p x hx, ?_⟩
  induction N with
  | zero => exact List.Pairwise.nil
  | succ N ih =>
    rw [fl_succ]
    split
    · rw [List.pairwise_append]
      exact ⟨ih, List.pairwise_singleton _ _, fun a ha b hb => by rw [List.mem_singleton.1 hb]; exact (fl_mem' N p a ha).2⟩
    · exact ih
end Go.Proofs.YtffcaglfcnmhdaaDoor.H
end
section
namespace Go.Proofs.YtffcaglfcnmhdaaDoor.H
open Go.RowKit Go.Proofs.YtffcaglfcnmhdaaDoorW.PrintWords Go.Proofs.YtffcaglfcnmhdaaDoorW.PrintLast Go.Proofs.YtffcaglfcnmhdaaDoorW.PrintMore
set_option linter.unusedVariables false
set_option linter.unusedSimpArgs false
open Go.RowKit
/-- a and b change places. -/
def sw (a b : Nat) (p : Nat → Int) : Nat → Int := fun k => if k = b then p a else if k = a then p b else p k
theorem tl_sw (n a b : Nat) (p : Nat → Int) : ((tl n p).set a (p b)).set b (p a) = tl n (sw a b p) := by
  rw [tl_set, tl_set]
  rfl
def ts (a b k : Nat) : Nat := if k = b then a else if k = a then b else k
theorem sw_perm {n a b : Nat} (ha : a < n) (hb : b < n) (p : Nat → Int) : (tl n (sw a b p)).Perm (tl n p) := by
  have h1 : tl n (sw a b p) = ((List.range n).map (ts a b)).map p := by
    unfold tl
    rw [List.map_map]
    refine List.map_congr_left fun k _ => ?_
    unfold sw ts
    simp only [Function.comp]
    split
    · rfl
    · split <;> rfl
  rw [h1]
  refine List.Perm.map p ?_
  refine (List.perm_ext_iff_of_nodup ?_ List.nodup_range).2 fun k => ?_
  · rw [List.Nodup, List.pairwise_map]
    refine List.Pairwise.imp ?_ (List.nodup_range (n := n))
    intro x y hxy
    unfold ts
    split <;> split <;> (try split) <;> (try split) <;> omega
  · rw [List.mem_map, List.mem_range]
    constructor
    · rintro ⟨x, hx, rfl⟩
      have := List.mem_range.1 hx
      unfold ts
      split
      · exact ha
      · split
        · exact hb
        · exact this
    · intro hk
      refine ⟨ts a b k, List.mem_range.2 ?_, ?_⟩
      · unfold ts
        split
        · exact ha
        · split
          · exact hb
          · exact hk
      · unfold ts
        split <;> (try split) <;> (try split) <;> (try split) <;> omega
/-- A heap of n. -/
def Hp (n : Nat) (p : Nat → Int) : Prop := ∀ c, 1 ≤ c → c < n → p ((c - 1) / 2) ≤ p c
theorem Hp.least {n : Nat} {p : Nat → Int} (h : Hp n p) : ∀ c, c < n → p 0 ≤ p c := by
  intro c
  induction c using Nat.strongRecOn with
  | _ c ih =>
    intro hc
    by_cases h0 : c = 0
    · rw [h0]; omega
    · have := h c (by omega) hc
      have := ih ((c - 1) / 2) (by omega) (by omega)
      omega
/-- All but j's place is right. -/
def Upw (n : Nat) (p : Nat → Int) (j : Nat) : Prop := (∀ c, 1 ≤ c → c < n → c ≠ j → p ((c - 1) / 2) ≤ p c) ∧ (∀ c, 1 ≤ c → c < n → (c - 1) / 2 = j → 1 ≤ j → p ((j - 1) / 2) ≤ p c)
theorem up_ev (n : Nat) : ∀ (j : Nat) (p : Nat → Int), j < n → Upw n p j → ∃ p', Ev (fun k => upF k (tl n p) (j : Int)) (tl n p') ∧ Hp n p' ∧ (tl n p').Perm (tl n p) := by
  intro j
  induction j using Nat.strongRecOn with
  | _ j ih =>
    intro p hj h
    by_cases h0 : j = 0
    · subst h0
      refine ⟨p, Ev.of_succ ?_, fun c h1 h2 => h.1 c h1 h2 (by omega), List.Perm.refl _⟩
      simp only [upF, tl_length, show (0 : Int) ≤ ((0 : Nat) : Int) ∧ ((0 : Nat) : Int) < (n : Int) from by omega, and_self, show (((0 : Nat) : Int) = 0) = True from by simp, ↓reduceIte]
      exact Ev.const _
    · have e : ((j : Int) - 1) / 2 = (((j - 1) / 2 : Nat) : Int) := by omega
      have hil : (j - 1) / 2 < n := by omega
      by_cases hc : p j < p ((j - 1) / 2)
      · obtain ⟨p', h1, h2, h3⟩ := ih ((j - 1) / 2) (by omega) (sw ((j - 1) / 2) j p) hil ⟨fun c hc1 hc2 hc3 => by
          unfold sw
          by_cases ej : c = j
          · subst ej
            rw [if_neg (by omega), if_pos rfl, if_pos rfl]
            omega
          · rw [if_neg ej, if_neg hc3]
            by_cases e1 : (c - 1) / 2 = j
            · rw [if_pos e1]
              exact h.2 c hc1 hc2 e1 (by omega)
            · rw [if_neg e1]
              by_cases e2 : (c - 1) / 2 = (j - 1) / 2
              · rw [if_pos e2]
                have := h.1 c hc1 hc2 ej
                rw [e2] at this
                omega
              · rw [if_neg e2]
                exact h.1 c hc1 hc2 ej, fun c hc1 hc2 hc3 hi => by
          unfold sw
          have hgi := h.1 ((j - 1) / 2) hi hil (by omega)
          rw [if_neg (by omega), if_neg (by omega)]
          by_cases ej : c = j
          · rw [if_pos ej]
            exact hgi
          · rw [if_neg ej, if_neg (by omega)]
            have := h.1 c hc1 hc2 ej
            rw [hc3] at this
            omega⟩
        refine ⟨p', Ev.of_succ ?_, h2, h3.trans (sw_perm hil hj p)⟩
        simp only [upF, tl_length, show (0 : Int) ≤ (j : Int) ∧ (j : Int) < (n : Int) from by omega, and_self, show ((j : Int) = 0) = False from eq_false (by omega), ↓reduceIte, e, tl_rd _ _ j hj, tl_rd _ _ _ hil, hc, Int.toNat_natCast, tl_sw]
        exact h1
      · refine ⟨p, Ev.of_succ ?_, fun c h1 h2 => ?_, List.Perm.refl _⟩
        · simp only [upF, tl_length, show (0 : Int) ≤ (j : Int) ∧ (j : Int) < (n : Int) from by omega, and_self, show ((j : Int) = 0) = False from eq_false (by omega), ↓reduceIte, e, tl_rd _ _ j hj, tl_rd _ _ _ hil, hc]
          exact Ev.const _
        · by_cases ej : c = j
          · subst ej; omega
          · exact h.1 c h1 h2 ej
theorem hpush_ev (n : Nat) (hn : n ≤ 1000) (p : Nat → Int) (x : Int) (h : Hp n p) : ∃ p', Ev (fun k => hpushF k (tl n p) x) (tl (n + 1) p') ∧ Hp (n + 1) p' ∧ (tl (n + 1) p').Perm (x :: tl n p) := by
  have e : tl n p ++ [x] = tl (n + 1) (fun k => if k = n then x else p k) := by
    rw [← tl_snoc]
    rw [if_pos rfl]
    congr 1
    exact tl_congr fun i hi => by rw [if_neg (by omega)]
  obtain ⟨p', h1, h2, h3⟩ := up_ev (n + 1) n (fun k => if k = n then x else p k) (by omega) ⟨fun c h1 h2 h3 => by
    dsimp only
    rw [if_neg (by omega), if_neg h3]
    exact h c h1 (by omega), fun c h1 h2 h3 h4 => by omega⟩
  refine ⟨p', ?_, h2, ?_⟩
  · simp only [hpushF, tl_length, show n ≤ 100000 from by omega, ↓reduceIte, e]
    exact h1
  · rw [← e] at h3
    exact h3.trans (List.perm_append_comm)
/-- All but i's children's places are right. -/
def Dnw (n : Nat) (p : Nat → Int) (i : Nat) : Prop := (∀ c, 1 ≤ c → c < n → (c - 1) / 2 ≠ i → p ((c - 1) / 2) ≤ p c) ∧ (∀ c, 1 ≤ c → c < n → (c - 1) / 2 = i → 1 ≤ i → p ((i - 1) / 2) ≤ p c)
theorem down_ev (N n : Nat) (hN : n ≤ N) : ∀ (d i : Nat) (p : Nat → Int), N - i = d → i < N → Dnw n p i → ∃ p', Ev (fun k => downF k (tl N p) (i : Int) (n : Int)) (tl N p') ∧ Hp n p' ∧ (tl N p').Perm (tl N p) ∧ ∀ c, n ≤ c → p' c = p c := by
  intro d
  induction d using Nat.strongRecOn with
  | _ d ih =>
    intro i p hd hi h
    by_cases h0 : n ≤ 2 * i + 1
    · refine ⟨p, Ev.of_succ ?_, fun c h1 h2 => h.1 c h1 h2 (by omega), List.Perm.refl _, fun _ _ => rfl⟩
      simp only [downF, tl_length, show (0 : Int) ≤ (i : Int) ∧ (i : Int) < (N : Int) ∧ (n : Int) ≤ (N : Int) from by omega, and_self, show (n : Int) ≤ 2 * (i : Int) + 1 from by omega, ↓reduceIte]
      exact Ev.const _
    · obtain ⟨m, hm1, hm2, hm3⟩ : ∃ m : Nat, kid (tl N p) (i : Int) (n : Int) = (m : Int) ∧ (m < n ∧ 1 ≤ m ∧ (m - 1) / 2 = i) ∧ ∀ c, 1 ≤ c → c < n → (c - 1) / 2 = i → p m ≤ p c := by
        have ha : rd (tl N p) (2 * (i : Int) + 1) = p (2 * i + 1) := by rw [show 2 * (i : Int) + 1 = ((2 * i + 1 : Nat) : Int) from by omega]; exact tl_rd _ _ _ (by omega)
        unfold kid
        by_cases h2 : 2 * (i : Int) + 2 < (n : Int)
        · have hb : rd (tl N p) (2 * (i : Int) + 2) = p (2 * i + 2) := by rw [show 2 * (i : Int) + 2 = ((2 * i + 2 : Nat) : Int) from by omega]; exact tl_rd _ _ _ (by omega)
          rw [if_pos h2, ha, hb]
          by_cases h3 : p (2 * i + 2) < p (2 * i + 1)
          · rw [if_pos h3]
            refine ⟨2 * i + 2, by omega, ⟨by omega, by omega, by omega⟩, fun c c1 c2 c3 => ?_⟩
            have : c = 2 * i + 1 ∨ c = 2 * i + 2 := by omega
            rcases this with rfl | rfl <;> omega
          · rw [if_neg h3]
            refine ⟨2 * i + 1, by omega, ⟨by omega, by omega, by omega⟩, fun c c1 c2 c3 => ?_⟩
            have : c = 2 * i + 1 ∨ c = 2 * i + 2 := by omega
            rcases this with rfl | rfl <;> omega
        · rw [if_neg h2]
          refine ⟨2 * i + 1, by omega, ⟨by omega, by omega, by omega⟩, fun c c1 c2 c3 => ?_⟩
          obtain rfl : c = 2 * i + 1 := by omega
          omega
      by_cases hc : p m < p i
      · obtain ⟨p', h1, h2, h3, h4⟩ := ih (N - m) (by omega) m (sw i m p) rfl (by omega) ⟨fun c hc1 hc2 hc3 => by
          unfold sw
          rw [if_neg hc3]
          by_cases e1 : (c - 1) / 2 = i
          · rw [if_pos e1]
            by_cases e2 : c = m
            · rw [if_pos e2]; omega
            · rw [if_neg e2, if_neg (by omega)]
              exact hm3 c hc1 hc2 e1
          · rw [if_neg e1]
            by_cases e2 : c = m
            · omega
            · rw [if_neg e2]
              by_cases e3 : c = i
              · rw [if_pos e3]
                have := h.2 m hm2.2.1 hm2.1 hm2.2.2 (by omega)
                rw [e3]
                exact this
              · rw [if_neg e3]
                exact h.1 c hc1 hc2 e1, fun c hc1 hc2 hc3 hm' => by
          unfold sw
          rw [hm2.2.2, if_neg (by omega), if_pos rfl, if_neg (by omega), if_neg (by omega)]
          have := h.1 c hc1 hc2 (by omega)
          rw [hc3] at this
          exact this⟩
        refine ⟨p', Ev.of_succ ?_, h2, h3.trans (sw_perm hi (by omega) p), fun c hcn => ?_⟩
        · simp only [downF, tl_length, show (0 : Int) ≤ (i : Int) ∧ (i : Int) < (N : Int) ∧ (n : Int) ≤ (N : Int) from by omega, and_self, show ¬ (n : Int) ≤ 2 * (i : Int) + 1 from by omega, ↓reduceIte, hm1, tl_rd _ _ i hi, tl_rd N p m (by omega), hc, Int.toNat_natCast, tl_sw]
          exact h1
        · rw [h4 c hcn]
          unfold sw
          rw [if_neg (by omega), if_neg (by omega)]
      · refine ⟨p, Ev.of_succ ?_, fun c h1 h2 => ?_, List.Perm.refl _, fun _ _ => rfl⟩
        · simp only [downF, tl_length, show (0 : Int) ≤ (i : Int) ∧ (i : Int) < (N : Int) ∧ (n : Int) ≤ (N : Int) from by omega, and_self, show ¬ (n : Int) ≤ 2 * (i : Int) + 1 from by omega, ↓reduceIte, hm1, tl_rd _ _ i hi, tl_rd N p m (by omega), hc]
          exact Ev.const _
        · by_cases e1 : (c - 1) / 2 = i
          · rw [e1]
            have := hm3 c h1 h2 e1
            omega
          · exact h.1 c h1 h2 e1
theorem hpop_ev (n : Nat) (hn : n ≤ 1000) (p : Nat → Int) (h : Hp (n + 1) p) : ∃ p', Ev (fun k => hpopF k (tl (n + 1) p)) (p 0, tl n p') ∧ Hp n p' ∧ (p 0 :: tl n p').Perm (tl (n + 1) p) := by
  obtain ⟨p', h1, h2, h3, h4⟩ := down_ev (n + 1) n (by omega) _ 0 (sw 0 n p) rfl (by omega) ⟨fun c c1 c2 c3 => by
    unfold sw
    rw [if_neg (by omega), if_neg c3, if_neg (by omega), if_neg (by omega)]
    exact h c c1 (by omega), fun c _ _ _ h => by omega⟩
  have hlast : p' n = p 0 := by rw [h4 n (Nat.le_refl _)]; unfold sw; rw [if_pos rfl]
  refine ⟨p', ?_, h2, ?_⟩
  · simp only [hpopF, tl_length, show 0 < n + 1 ∧ n + 1 ≤ 100000 from by omega, and_self, ↓reduceIte, show ((n + 1 : Nat) : Int) - 1 = (n : Int) from by omega, tl_rd (n + 1) p n (by omega), Nat.add_sub_cancel]
    have e0 : rd (tl (n + 1) p) 0 = p 0 := tl_rd (n + 1) p 0 (by omega)
    rw [e0, tl_sw]
    refine Ev.bind h1 ?_
    simp only [tl_length, ↓reduceIte, tl_rd (n + 1) p' n (by omega), hlast]
    refine (Ev.const _).cast ?_
    rw [← tl_snoc, List.take_append_of_le_length (by simp), List.take_of_length_le (by simp)]
  · have h5 : (tl (n + 1) p').Perm (tl (n + 1) p) := h3.trans (sw_perm (by omega) (by omega) p)
    rw [← tl_snoc, hlast] at h5
    exact (List.perm_append_comm (l₁ := [p 0])).trans h5
end Go.Proofs.YtffcaglfcnmhdaaDoor.H
end
section
namespace Go.Proofs.YtffcaglfcnmhdaaDoor.H
open Go.RowKit Go.Proofs.YtffcaglfcnmhdaaDoorW.PrintWords Go.Proofs.YtffcaglfcnmhdaaDoorW.PrintLast Go.Proofs.YtffcaglfcnmhdaaDoorW.PrintMore
set_option linter.unusedVariables false
set_option linter.unusedSimpArgs false
open Go.RowKit
/-- All that a depends on is done. -/
def Av (g : List (List Int)) (D : Nat → Bool) (a : Nat) : Prop := D a = false ∧ ∀ m, E g a m → D m = true
/-- Those of the list O. -/
def dn (O : List Int) (a : Nat) : Bool := decide ((a : Int) ∈ O)
/-- x comes next behind O: the least available one. -/
def Nx (g : List (List Int)) (O : List Int) (x : Nat) : Prop := x < g.length ∧ Av g (dn O) x ∧ ∀ y, y < g.length → Av g (dn O) y → x ≤ y
/-- The greedy order, from its end. -/
inductive Grd (g : List (List Int)) : List Int → Prop
  | nil : Grd g []
  | snoc {O : List Int} {x : Nat} (h : Grd g O) (hx : Nx g O x) : Grd g (O ++ [(x : Int)])
theorem Nx.uniq {g : List (List Int)} {O : List Int} {x y : Nat} (h : Nx g O x) (h2 : Nx g O y) : x = y := by
  have := h.2.2 y h2.1 h2.2.1
  have := h2.2.2 x h.1 h.2.1
  omega
theorem Grd.uniq {g : List (List Int)} : ∀ {O P : List Int}, Grd g O → Grd g P → O.length = P.length → O = P := by
  intro O P h
  induction h generalizing P with
  | nil => intro _ hl; exact (List.length_eq_zero_iff.1 hl.symm).symm
  | snoc h hx ih =>
    intro h2 hl
    cases h2 with
    | nil => simp at hl
    | snoc h3 hy =>
      have := ih h3 (by simpa using hl)
      subst this
      rw [hx.uniq hy]
theorem Grd.rng {g : List (List Int)} {O : List Int} (h : Grd g O) : ∀ x ∈ O, 0 ≤ x ∧ x < (g.length : Int) := by
  induction h with
  | nil => simp
  | snoc h hx ih =>
    intro y hy
    rcases List.mem_append.1 hy with h1 | h1
    · exact ih y h1
    · have := List.mem_singleton.1 h1
      have := hx.1
      omega
theorem Grd.nodup {g : List (List Int)} {O : List Int} (h : Grd g O) : O.Nodup := by
  induction h with
  | nil => exact List.Pairwise.nil
  | @snoc O x h hx ih =>
    rw [List.Nodup, List.pairwise_append]
    refine ⟨ih, List.pairwise_singleton _ _, fun a ha b hb => ?_⟩
    rw [List.mem_singleton.1 hb]
    rintro rfl
    have := hx.2.1.1
    unfold dn at this
    rw [decide_eq_false_iff_not] at this
    exact this ha
/-- Dependencies come first. -/
theorem Grd.deps {g : List (List Int)} {O : List Int} (h : Grd g O) : ∀ a m : Nat, (a : Int) ∈ O → E g a m → (m : Int) ∈ O := by
  induction h with
  | nil => intro a m h; simp at h
  | @snoc O x h hx ih =>
    intro a m ha he
    rcases List.mem_append.1 ha with h1 | h1
    · exact List.mem_append.2 (.inl (ih a m h1 he))
    · have e := List.mem_singleton.1 h1
      obtain rfl : a = x := by omega
      exact List.mem_append.2 (.inl (of_decide_eq_true (hx.2.1.2 m he)))
theorem nodup_le : ∀ (N : Nat) (O : List Int), O.Nodup → (∀ x ∈ O, 0 ≤ x ∧ x < (N : Int)) → O.length ≤ N := by
  intro N O hn hr
  refine hole N (fun e => (rd O (e : Int)).toNat) O.length (fun e he => ?_) (fun a b ha hb hab => ?_)
  · have := hr _ (List.getElem_mem he)
    rw [← rd_get O e he] at this
    omega
  · have h1 := hr _ (List.getElem_mem ha)
    have h2 := hr _ (List.getElem_mem hb)
    have e1 := rd_get O a ha
    have e2 := rd_get O b hb
    rw [e1, e2] at hab
    have e3 : O[a] = O[b] := by omega
    have hp := List.pairwise_iff_getElem.1 hn
    rcases Nat.lt_trichotomy a b with h | h | h
    · exact absurd e3 (hp a b ha hb h)
    · exact h
    · exact absurd e3.symm (hp b a hb ha h)
/-- In a graph without cycles something is available as long as not all is done. -/
theorem av_ex {g : List (List Int)} (hv : Val g) (hac : ∀ i, i < g.length → ¬ Rch g i i) {D : Nat → Bool} {a : Nat} (ha : a < g.length) (hD : D a = false) : ∃ x, x < g.length ∧ Av g D x := by
  apply Classical.byContradiction
  intro hn
  have hstep : ∀ b, b < g.length ∧ D b = false → ∃ m, E g b m ∧ (m < g.length ∧ D m = false) := fun b hb => by
    apply Classical.byContradiction
    intro h
    refine hn ⟨b, hb.1, hb.2, fun m he => ?_⟩
    apply Classical.byContradiction
    intro hm
    exact h ⟨m, he, (he.lt hv).2, by simpa using hm⟩
  -- an endless walk
  have hw : ∀ n, ∃ f : Nat → Nat, f 0 = a ∧ (∀ k, k < n → E g (f k) (f (k + 1))) ∧ (f n < g.length ∧ D (f n) = false) := by
    intro n
    induction n with
    | zero => exact ⟨fun _ => a, rfl, fun k hk => by omega, ha, hD⟩
    | succ n ih =>
      obtain ⟨f, h1, h2, h3⟩ := ih
      obtain ⟨m, he, hm⟩ := hstep _ h3
      refine ⟨fun k => if k = n + 1 then m else f k, by simp [h1], fun k hk => ?_, by simpa using hm⟩
      by_cases e : k = n
      · subst e; simpa using he
      · have := h2 k (by omega)
        simpa [show ¬ k = n + 1 from by omega, show ¬ k = n from e] using this
  obtain ⟨f, h1, h2, h3⟩ := hw g.length
  have hr : ∀ d k, k + d ≤ g.length → 1 ≤ d → Rch g (f k) (f (k + d)) := by
    intro d
    induction d with
    | zero => intro k _ h; omega
    | succ d ih =>
      intro k hk _
      by_cases e : d = 0
      · subst e; exact Rch.one (h2 k (by omega))
      · exact (ih k (by omega) (by omega)).trans (Rch.one (h2 (k + d) (by omega)))
  have := hole g.length f (g.length + 1) (fun e he => by
    by_cases h4 : e = g.length
    · rw [h4]; exact h3.1
    · exact (h2 e (by omega)).1) (fun x y hx hy hxy => by
    rcases Nat.lt_trichotomy x y with h | h | h
    · have := hr (y - x) x (by omega) (by omega)
      rw [show x + (y - x) = y from by omega, ← hxy] at this
      exact absurd this (hac _ (by
        by_cases h4 : x = g.length
        · omega
        · exact (h2 x (by omega)).1))
    · exact h
    · have := hr (x - y) y (by omega) (by omega)
      rw [show y + (x - y) = x from by omega, hxy] at this
      exact absurd this (hac _ (by
        by_cases h4 : y = g.length
        · omega
        · exact (h2 y (by omega)).1)))
  omega
/-- A greedy order that is full holds every node. -/
theorem full_mem {g : List (List Int)} {O : List Int} (hn : O.Nodup) (hr : ∀ x ∈ O, 0 ≤ x ∧ x < (g.length : Int)) (hl : O.length = g.length) {a : Nat} (ha : a < g.length) : (a : Int) ∈ O := by
  apply Classical.byContradiction
  intro h
  have := nodup_le g.length ((a : Int) :: O) (List.nodup_cons.2 ⟨h, hn⟩) (fun x hx => by
    rcases List.mem_cons.1 hx with e | e
    · omega
    · exact hr x e)
  rw [List.length_cons] at this
  omega
theorem not_full {g : List (List Int)} {O : List Int} (hl : O.length < g.length) : ∃ a, a < g.length ∧ ¬ (a : Int) ∈ O := by
  apply Classical.byContradiction
  intro h
  have hm : ∀ a : Nat, a < g.length → (a : Int) ∈ O := fun a ha => by
    apply Classical.byContradiction
    exact fun h2 => h ⟨a, ha, h2⟩
  have hx : ∀ a, ∃ j, a < g.length → j < O.length ∧ rd O (j : Int) = (a : Int) := fun a => by
    by_cases ha : a < g.length
    · obtain ⟨j, hj, e⟩ := List.mem_iff_getElem.1 (hm a ha)
      exact ⟨j, fun _ => ⟨hj, by rw [rd_get O j hj]; exact e⟩⟩
    · exact ⟨0, fun h => absurd h ha⟩
  have := hole O.length (fun a => Classical.choose (hx a)) g.length (fun a ha => (Classical.choose_spec (hx a) ha).1) (fun a b ha hb hab => by
    have h1 := (Classical.choose_spec (hx a) ha).2
    have h2 := (Classical.choose_spec (hx b) hb).2
    rw [hab] at h1
    omega)
  omega
end Go.Proofs.YtffcaglfcnmhdaaDoor.H
end
section
namespace Go.Proofs.YtffcaglfcnmhdaaDoor.H
open Go.RowKit Go.Proofs.YtffcaglfcnmhdaaDoorW.PrintWords Go.Proofs.YtffcaglfcnmhdaaDoorW.PrintLast Go.Proofs.YtffcaglfcnmhdaaDoorW.PrintMore
set_option linter.unusedVariables false
set_option linter.unusedSimpArgs false
open Go.RowKit
theorem av_all {g : List (List Int)} (hv : Val g) {O : List Int} {i : Nat} (hi : i < g.length) : (!decide ((i : Int) ∈ O) && (adj g i).all (fun x => decide (x ∈ O))) = true ↔ Av g (dn O) i := by
  unfold Av dn
  rw [Bool.and_eq_true, Bool.not_eq_true', List.all_eq_true]
  refine and_congr Iff.rfl ⟨fun h m he => h _ he.2, fun h x hx => ?_⟩
  have := (hv.ok i hi).rng x hx
  obtain ⟨m, rfl⟩ : ∃ m : Nat, x = (m : Int) := ⟨x.toNat, by omega⟩
  exact h m ⟨hi, hx⟩
theorem nx_ex {g : List (List Int)} {O : List Int} (h : ∃ x, x < g.length ∧ Av g (dn O) x) : ∃ x, Nx g O x := by
  have : ∀ n x, n = x → x < g.length → Av g (dn O) x → ∃ x, Nx g O x := by
    intro n
    induction n using Nat.strongRecOn with
    | _ n ih =>
      intro x hn hx ha
      by_cases hc : ∃ y, y < x ∧ Av g (dn O) y
      · obtain ⟨y, h1, h2⟩ := hc
        exact ih y (by omega) y rfl (by omega) h2
      · refine ⟨x, hx, ha, fun y _ h2 => ?_⟩
        apply Classical.byContradiction
        exact fun h3 => hc ⟨y, by omega, h2⟩
  obtain ⟨x, hx, ha⟩ := h
  exact this x x rfl hx ha
theorem full_ex {g : List (List Int)} (hv : Val g) (hac : ∀ i, i < g.length → ¬ Rch g i i) : ∃ O, Grd g O ∧ O.length = g.length ∧ True := by
  have loop : ∀ (d : Nat) (O : List Int), g.length - O.length = d → O.length ≤ g.length → Grd g O → ∃ P, Grd g P ∧ P.length = g.length ∧ True := by
    intro d
    induction d with
    | zero => intro O hd hO h; exact ⟨O, h, by omega, trivial⟩
    | succ d ih =>
      intro O hd hO h
      obtain ⟨a, ha, hna⟩ := not_full (g := g) (O := O) (by omega)
      obtain ⟨x, hx⟩ := nx_ex (av_ex hv hac ha (show dn O a = false from by unfold dn; exact decide_eq_false hna))
      exact ih (O ++ [(x : Int)]) (by rw [List.length_append]; simp; omega) (by rw [List.length_append]; simp; omega) (.snoc h hx)
  exact loop _ [] rfl (by simp) .nil
end Go.Proofs.YtffcaglfcnmhdaaDoor.H
end
section
namespace Go.Proofs.YtffcaglfcnmhdaaDoor.H
open Go.RowKit Go.Proofs.YtffcaglfcnmhdaaDoorW.PrintWords Go.Proofs.YtffcaglfcnmhdaaDoorW.PrintLast Go.Proofs.YtffcaglfcnmhdaaDoorW.PrintMore
set_option linter.unusedVariables false
set_option linter.unusedSimpArgs false
open Go.RowKit
/-- The users of c among the first i nodes. -/
def us (g : List (List Int)) (i c : Nat) : List Int := fl i (fun a => decide ((c : Int) ∈ adj g a))
/-- The first counts of what is missing. -/
def ms (g : List (List Int)) (i a : Nat) : Int := if a < i then ((adj g a).length : Int) else 0
/-- Nodes that depend on nothing. -/
def zr (g : List (List Int)) (a : Nat) : Bool := decide ((adj g a).length = 0)
theorem take_mem {l : List Int} (h : l.Pairwise (· < ·)) {j : Nat} (hj : j < l.length) (x : Int) : x ∈ l.take (j + 1) ↔ x ∈ l.take j ∨ x = l[j] := by
  rw [← List.take_append_getElem hj, List.mem_append, List.mem_singleton]
theorem take_not {l : List Int} (h : l.Pairwise (· < ·)) {j : Nat} (hj : j < l.length) : ¬ l[j] ∈ l.take j := by
  intro hm
  obtain ⟨i, hi, e⟩ := List.mem_take_iff_getElem.1 hm
  have := List.pairwise_iff_getElem.1 h i j (by omega) hj (by omega)
  omega
theorem ord_l1 {g : List (List Int)} (hv : Val g) {i : Nat} (hi : i < g.length) (m h : List Int) (T : List Int × Int × Int)
    (hT : Ev (fun k => if ((adj g i).length : Int) = 0 then (hpushF k h (i : Int)).bind fun y => depgraph_Order.l0 k g m (tl g.length (us g (i + 1))) y ((i + 1 : Nat) : Int) else depgraph_Order.l0 k g m (tl g.length (us g (i + 1))) h ((i + 1 : Nat) : Int)) T) :
    ∀ (d j : Nat), (adj g i).length - j = d → j ≤ (adj g i).length → Ev (fun k => depgraph_Order.l1 k g m (tl g.length fun c => us g i c ++ if (c : Int) ∈ (adj g i).take j then [(i : Int)] else []) h (i : Int) (j : Int)) T := by
  have hal := hv.len hi
  have hle := hv.le
  have hg := hv.ok i hi
  intro d
  induction d with
  | zero =>
    intro j hd hj
    have e : (tl g.length fun c => us g i c ++ if (c : Int) ∈ (adj g i).take j then [(i : Int)] else []) = tl g.length (us g (i + 1)) := by
      refine tl_congr fun c _ => ?_
      rw [List.take_of_length_le (by omega)]
      show _ = fl (i + 1) _
      rw [fl_succ]
      by_cases hc : (c : Int) ∈ adj g i
      · rw [if_pos hc, if_pos (decide_eq_true hc)]; rfl
      · rw [if_neg hc, if_neg (by simp [hc]), List.append_nil]; rfl
    rw [e]
    refine Ev.of_succ ?_
    have hnl : ¬ (j : Int) < ((rd_L1 g (i : Int)).length : Int) := by show ¬ (j : Int) < ((adj g i).length : Int); omega
    simp only [depgraph_Order.l1, hnl, ↓reduceIte, wrap_up i (by omega)]
    exact hT
  | succ d ih =>
    intro j hd hj
    have hjl : j < (adj g i).length := by omega
    obtain ⟨x, hx1, hx2, hx3, hx4⟩ := hv.adj_get hi hjl
    have hlt : (j : Int) < ((rd_L1 g (i : Int)).length : Int) := by show (j : Int) < ((adj g i).length : Int); omega
    have hnot : ¬ (x : Int) ∈ (adj g i).take j := by rw [← hx3]; exact take_not hg.inc hjl
    have h2 := ih (j + 1) (by omega) (by omega)
    have e : (tl g.length fun c => us g i c ++ if (c : Int) ∈ (adj g i).take (j + 1) then [(i : Int)] else []) = (tl g.length fun c => us g i c ++ if (c : Int) ∈ (adj g i).take j then [(i : Int)] else []).set x (us g i x ++ [(i : Int)]) := by
      rw [tl_set]
      refine tl_congr fun c _ => ?_
      by_cases ec : c = x
      · subst ec
        rw [if_pos rfl, if_pos ((take_mem hg.inc hjl _).2 (.inr hx3.symm))]
      · rw [if_neg ec]
        have : (c : Int) ∈ (adj g i).take (j + 1) ↔ (c : Int) ∈ (adj g i).take j := by
          rw [take_mem hg.inc hjl, hx3]
          exact ⟨fun h => h.resolve_right (by omega), .inl⟩
        simp only [this]
    rw [e] at h2
    refine Ev.of_succ ?_
    have hu : rd_L1 (tl g.length fun c => us g i c ++ if (c : Int) ∈ (adj g i).take j then [(i : Int)] else []) (x : Int) = us g i x := by
      rw [tl_rd_L1 _ _ x hx1, if_neg hnot, List.append_nil]
    have hul : (us g i x).length ≤ i := fl_len _ _
    simp only [depgraph_Order.l1, hlt, ↓reduceIte, show (0 : Int) ≤ (j : Int) from by omega, hx2, show (0 : Int) ≤ (x : Int) from by omega, tl_length, show (x : Int) < (g.length : Int) from by omega, hu, show (us g i x).length < 17592186044416 from by omega, Int.toNat_natCast, wrap_up j (by omega)]
    exact h2
/-- What the first loop leaves. -/
theorem ord_l0 {g : List (List Int)} (hv : Val g) (T : List Int × Int × Int)
    (hT : ∀ (n : Nat) (p : Nat → Int), n ≤ g.length → Hp n p → (tl n p).Perm (fl g.length (zr g)) → Ev (fun k => depgraph_Order.l2 k (tl g.length (ms g g.length)) (tl g.length (us g g.length)) (tl n p) []) T) :
    ∀ (d i n : Nat) (p : Nat → Int), g.length - i = d → i ≤ g.length → n ≤ i → Hp n p → (tl n p).Perm (fl i (zr g)) → Ev (fun k => depgraph_Order.l0 k g (tl g.length (ms g i)) (tl g.length (us g i)) (tl n p) (i : Int)) T := by
  have hle := hv.le
  intro d
  induction d with
  | zero =>
    intro i n p hd hi hn hp hpm
    obtain rfl : i = g.length := by omega
    refine Ev.of_succ ?_
    simp only [depgraph_Order.l0, show ¬ (g.length : Int) < (g.length : Int) from by omega, ↓reduceIte]
    exact hT n p hn hp hpm
  | succ d ih =>
    intro i n p hd hi hn hp hpm
    have hil : i < g.length := by omega
    refine Ev.of_succ ?_
    have em : (tl g.length (ms g i)).set i ((adj g i).length : Int) = tl g.length (ms g (i + 1)) := by
      rw [tl_set]
      refine tl_congr fun a _ => ?_
      unfold ms
      by_cases e : a = i
      · subst e; rw [if_pos rfl, if_pos (by omega)]
      · rw [if_neg e]
        by_cases h2 : a < i
        · rw [if_pos h2, if_pos (by omega)]
        · rw [if_neg h2, if_neg (by omega)]
    simp only [depgraph_Order.l0, show (i : Int) < (g.length : Int) from by omega, show (0 : Int) ≤ (i : Int) from by omega, tl_length, ↓reduceIte, Int.toNat_natCast, em]
    have hstart := ord_l1 hv hil (tl g.length (ms g (i + 1))) (tl n p) T (by
      by_cases hz : (adj g i).length = 0
      · obtain ⟨p', h1, h2, h3⟩ := hpush_ev n (by omega) p (i : Int) hp
        simp only [show (((adj g i).length : Int) = 0) = True from eq_true (by omega), ↓reduceIte]
        refine Ev.bind h1 (ih (i + 1) (n + 1) p' (by omega) (by omega) (by omega) h2 ?_)
        rw [fl_succ, if_pos (show zr g i = true from decide_eq_true hz)]
        exact h3.trans ((hpm.cons _).trans (List.perm_append_comm (l₁ := [(i : Int)])))
      · simp only [show (((adj g i).length : Int) = 0) = False from eq_false (by omega), ↓reduceIte]
        refine ih (i + 1) n p (by omega) (by omega) (by omega) hp ?_
        rw [fl_succ, if_neg (show ¬ zr g i = true from by unfold zr; simp [hz])]
        exact hpm) _ 0 rfl (by omega)
    have e0 : (tl g.length fun c => us g i c ++ if (c : Int) ∈ (adj g i).take 0 then [(i : Int)] else []) = tl g.length (us g i) := tl_congr fun c _ => by simp
    rw [e0] at hstart
    exact hstart
end Go.Proofs.YtffcaglfcnmhdaaDoor.H
end
section
namespace Go.Proofs.YtffcaglfcnmhdaaDoor.H
open Go.RowKit Go.Proofs.YtffcaglfcnmhdaaDoorW.PrintWords Go.Proofs.YtffcaglfcnmhdaaDoorW.PrintLast Go.Proofs.YtffcaglfcnmhdaaDoorW.PrintMore
set_option linter.unusedVariables false
set_option linter.unusedSimpArgs false
open Go.RowKit
/-- How many of a's dependencies are not in O. -/
def cnt (g : List (List Int)) (O : List Int) (a : Nat) : Nat := ((adj g a).filter (fun x => !decide (x ∈ O))).length
theorem filt_same (O : List Int) (x : Int) : ∀ (l : List Int), ¬ x ∈ l → l.filter (fun y => !decide (y ∈ O ++ [x])) = l.filter (fun y => !decide (y ∈ O)) := by
  intro l hx
  refine List.filter_congr fun y hy => ?_
  have : y ≠ x := fun e => hx (e ▸ hy)
  simp [this]
theorem filt_less (O : List Int) (x : Int) (hO : ¬ x ∈ O) : ∀ (l : List Int), l.Pairwise (· < ·) → x ∈ l → (l.filter (fun y => !decide (y ∈ O))).length = (l.filter (fun y => !decide (y ∈ O ++ [x]))).length + 1
  | [], _, h => by simp at h
  | y :: l, hp, h => by
    rw [List.pairwise_cons] at hp
    by_cases e : y = x
    · subst e
      have hn : ¬ y ∈ l := fun h => by have := hp.1 y h; omega
      rw [List.filter_cons, if_pos (by simp [hO]), List.filter_cons, if_neg (by simp), filt_same O y l hn]
      simp
    · have hl : x ∈ l := (List.mem_cons.1 h).resolve_left (Ne.symm e)
      have ih := filt_less O x hO l hp.2 hl
      rw [List.filter_cons, List.filter_cons]
      by_cases hy : y ∈ O
      · rw [if_neg (by simp [hy]), if_neg (by simp [hy])]; exact ih
      · rw [if_pos (by simp [hy]), if_pos (by simp [hy, e])]
        simp only [List.length_cons]
        omega
/-- Available: not in O, nothing missing. -/
def rdy (g : List (List Int)) (O : List Int) (a : Nat) : Bool := !decide ((a : Int) ∈ O) && decide (cnt g O a = 0)
theorem rdy_av {g : List (List Int)} (hv : Val g) {O : List Int} {a : Nat} (ha : a < g.length) : rdy g O a = true ↔ Av g (dn O) a := by
  rw [← av_all hv ha]
  unfold rdy cnt
  rw [Bool.and_eq_true, Bool.and_eq_true, decide_eq_true_iff, List.length_eq_zero_iff, List.filter_eq_nil_iff, List.all_eq_true]
  refine and_congr Iff.rfl ⟨fun h x hx => ?_, fun h x hx => ?_⟩
  · have := h x hx
    simpa using this
  · have := h x hx
    simpa using this
theorem us_mem {g : List (List Int)} {x a : Nat} : (a : Int) ∈ us g g.length x ↔ E g a x := by
  unfold us E
  rw [fl_mem, decide_eq_true_iff]
theorem ord_l3 {g : List (List Int)} (hv : Val g) {O : List Int} {x : Nat} (hxO : ¬ (x : Int) ∈ O) (base : List Int) (hb : base.length ≤ 100) (T : List Int × Int × Int) (hx : x < g.length)
    (hT : ∀ (n : Nat) (p : Nat → Int), n ≤ 200 → Hp n p → (tl n p).Perm (base ++ (us g g.length x).filter (fun y => decide (cnt g (O ++ [(x : Int)]) y.toNat = 0))) → Ev (fun k => depgraph_Order.l2 k (tl g.length fun a => (cnt g (O ++ [(x : Int)]) a : Int)) (tl g.length (us g g.length)) (tl n p) (O ++ [(x : Int)])) T) :
    ∀ (d j n : Nat) (p : Nat → Int), (us g g.length x).length - j = d → j ≤ (us g g.length x).length → Hp n p → (tl n p).Perm (base ++ ((us g g.length x).take j).filter (fun y => decide (cnt g (O ++ [(x : Int)]) y.toNat = 0))) →
      Ev (fun k => depgraph_Order.l3 k (tl g.length fun a => if (a : Int) ∈ (us g g.length x).take j then (cnt g (O ++ [(x : Int)]) a : Int) else (cnt g O a : Int)) (tl g.length (us g g.length)) (tl n p) (O ++ [(x : Int)]) (x : Int) (j : Int)) T := by
  have hle := hv.le
  have hul : (us g g.length x).length ≤ g.length := fl_len _ _
  have hgood : Good g.length (us g g.length x) := fl_good _ _
  have hrow : rd_L1 (tl g.length (us g g.length)) (x : Int) = us g g.length x := tl_rd_L1 _ _ x hx
  have hnb : ∀ n p j, (tl n p).Perm (base ++ ((us g g.length x).take j).filter (fun y => decide (cnt g (O ++ [(x : Int)]) y.toNat = 0))) → n ≤ 130 := fun n p j h => by
    have h1 := h.length_eq
    rw [tl_length, List.length_append] at h1
    have h2 := List.length_filter_le (fun y => decide (cnt g (O ++ [(x : Int)]) y.toNat = 0)) ((us g g.length x).take j)
    have h3 := List.length_take_le j (us g g.length x)
    have h4 : ((us g g.length x).take j).length ≤ (us g g.length x).length := by rw [List.length_take]; omega
    omega
  intro d
  induction d with
  | zero =>
    intro j n p hd hj hp hpm
    have e : (tl g.length fun a => if (a : Int) ∈ (us g g.length x).take j then (cnt g (O ++ [(x : Int)]) a : Int) else (cnt g O a : Int)) = tl g.length fun a => (cnt g (O ++ [(x : Int)]) a : Int) := by
      refine tl_congr fun a ha => ?_
      rw [List.take_of_length_le (by omega)]
      by_cases h : (a : Int) ∈ us g g.length x
      · rw [if_pos h]
      · rw [if_neg h]
        have hn : ¬ (x : Int) ∈ adj g a := fun h2 => h (us_mem.2 ⟨ha, h2⟩)
        unfold cnt
        rw [filt_same O x _ hn]
    rw [e]
    have hpm' := hpm
    rw [List.take_of_length_le (by omega)] at hpm'
    have hnl : ¬ (j : Int) < ((us g g.length x).length : Int) := by omega
    refine Ev.of_succ ?_
    simp only [depgraph_Order.l3, hrow, hnl, ↓reduceIte]
    exact hT n p (by have := hnb n p j hpm; omega) hp hpm'
  | succ d ih =>
    intro j n p hd hj hp hpm
    have hn := hnb n p j hpm
    have hjl : j < (us g g.length x).length := by omega
    have hr := hgood.rng _ (List.getElem_mem hjl)
    obtain ⟨a, ha⟩ : ∃ a : Nat, (us g g.length x)[j] = (a : Int) := ⟨((us g g.length x)[j]).toNat, by omega⟩
    rw [ha] at hr
    have hal : a < g.length := by omega
    have hrd : rd (us g g.length x) (j : Int) = (a : Int) := by rw [rd_get _ j hjl]; exact ha
    have hE : E g a x := us_mem.1 (ha ▸ List.getElem_mem hjl)
    have hnot : ¬ (a : Int) ∈ (us g g.length x).take j := by rw [← ha]; exact take_not hgood.inc hjl
    have hc : cnt g O a = cnt g (O ++ [(x : Int)]) a + 1 := filt_less O x hxO _ (hv.ok a hal).inc hE.2
    have hcl : cnt g O a ≤ 24 := Nat.le_trans (List.length_filter_le _ _) (hv.len hal)
    have hset : (tl g.length fun b => if (b : Int) ∈ (us g g.length x).take j then (cnt g (O ++ [(x : Int)]) b : Int) else (cnt g O b : Int)).set a (cnt g (O ++ [(x : Int)]) a : Int) = tl g.length fun b => if (b : Int) ∈ (us g g.length x).take (j + 1) then (cnt g (O ++ [(x : Int)]) b : Int) else (cnt g O b : Int) := by
      rw [tl_set]
      refine tl_congr fun b _ => ?_
      by_cases e : b = a
      · subst e
        rw [if_pos rfl, if_pos ((take_mem hgood.inc hjl _).2 (.inr ha.symm))]
      · rw [if_neg e]
        have : (b : Int) ∈ (us g g.length x).take (j + 1) ↔ (b : Int) ∈ (us g g.length x).take j := by
          rw [take_mem hgood.inc hjl, ha]
          exact ⟨fun h => h.resolve_right (by omega), .inl⟩
        simp only [this]
    have hm : rd (tl g.length fun b => if (b : Int) ∈ (us g g.length x).take j then (cnt g (O ++ [(x : Int)]) b : Int) else (cnt g O b : Int)) (a : Int) = (cnt g O a : Int) := by
      rw [tl_rd _ _ a hal, if_neg hnot]
    have hw : wrap64 ((cnt g O a : Int) - 1) = (cnt g (O ++ [(x : Int)]) a : Int) := by rw [wrap_lt (by omega) (by omega)]; omega
    have hm2 : rd (tl g.length fun b => if (b : Int) ∈ (us g g.length x).take (j + 1) then (cnt g (O ++ [(x : Int)]) b : Int) else (cnt g O b : Int)) (a : Int) = (cnt g (O ++ [(x : Int)]) a : Int) := by
      rw [tl_rd _ _ a hal, if_pos ((take_mem hgood.inc hjl _).2 (.inr ha.symm))]
    have htk : ((us g g.length x).take (j + 1)).filter (fun y => decide (cnt g (O ++ [(x : Int)]) y.toNat = 0)) = ((us g g.length x).take j).filter (fun y => decide (cnt g (O ++ [(x : Int)]) y.toNat = 0)) ++ if cnt g (O ++ [(x : Int)]) a = 0 then [(a : Int)] else [] := by
      rw [← List.take_append_getElem hjl, List.filter_append, ha]
      congr 1
      by_cases h : cnt g (O ++ [(x : Int)]) a = 0
      · simp [h]
      · simp [h]
    refine Ev.of_succ ?_
    simp only [depgraph_Order.l3, hrow, show (j : Int) < ((us g g.length x).length : Int) from by omega, show (0 : Int) ≤ (j : Int) from by omega, hrd, show (0 : Int) ≤ (a : Int) from by omega, tl_length, show (a : Int) < (g.length : Int) from by omega, hm, hw, Int.toNat_natCast, hset, hm2, ↓reduceIte, wrap_up j (by omega)]
    by_cases h : cnt g (O ++ [(x : Int)]) a = 0
    · simp only [show ((cnt g (O ++ [(x : Int)]) a : Int) = 0) = True from eq_true (by omega), ↓reduceIte]
      obtain ⟨p', h1, h2, h3⟩ := hpush_ev n (by omega) p (a : Int) hp
      refine Ev.bind h1 (ih (j + 1) (n + 1) p' (by omega) (by omega) h2 ?_)
      rw [htk, if_pos h, ← List.append_assoc]
      exact h3.trans ((hpm.cons _).trans (List.perm_append_comm (l₁ := [(a : Int)])))
    · simp only [show ((cnt g (O ++ [(x : Int)]) a : Int) = 0) = False from eq_false (by omega), ↓reduceIte]
      refine ih (j + 1) n p (by omega) (by omega) hp ?_
      rw [htk, if_neg h, List.append_nil]
      exact hpm
theorem fl_nodup (N : Nat) (p : Nat → Bool) : (fl N p).Nodup := List.Pairwise.imp (fun h => Int.ne_of_lt h) (fl_good N p).inc
theorem ord_l2 {g : List (List Int)} (hv : Val g) (hac : ∀ i, i < g.length → ¬ Rch g i i) : ∀ (d : Nat) (O : List Int) (n : Nat) (p : Nat → Int), g.length - O.length = d → Grd g O → n ≤ 200 → Hp n p → (tl n p).Perm (fl g.length (rdy g O)) →
    ∃ P, Grd g P ∧ P.length = g.length ∧ Ev (fun k => depgraph_Order.l2 k (tl g.length fun a => (cnt g O a : Int)) (tl g.length (us g g.length)) (tl n p) O) (P, 0, 0) := by
  have hle := hv.le
  intro d
  induction d using Nat.strongRecOn with
  | _ d ih =>
    intro O n p hd hO hn hp hpm
    have hOl := nodup_le g.length O hO.nodup hO.rng
    cases n with
    | zero =>
      have hfull : O.length = g.length := by
        apply Classical.byContradiction
        intro hne
        obtain ⟨a, ha, hna⟩ := not_full (g := g) (O := O) (by omega)
        obtain ⟨x, hx, hav⟩ := av_ex hv hac ha (show dn O a = false from by unfold dn; exact decide_eq_false hna)
        have hm : (x : Int) ∈ fl g.length (rdy g O) := (fl_mem _ _ _).2 ⟨hx, (rdy_av hv hx).2 hav⟩
        have := hpm.mem_iff.2 hm
        simp [tl] at this
      refine ⟨O, hO, hfull, Ev.of_succ ?_⟩
      simp only [depgraph_Order.l2, tl_length, show ¬ (0 : Int) < ((0 : Nat) : Int) from by omega, ↓reduceIte]
      exact Ev.const _
    | succ n =>
      obtain ⟨p', h1, h2, h3⟩ := hpop_ev n (by omega) p hp
      have hmem : p 0 ∈ fl g.length (rdy g O) := (h3.trans hpm).mem_iff.1 (by simp)
      have hr := fl_mem' _ _ _ hmem
      obtain ⟨x, hx⟩ : ∃ x : Nat, p 0 = (x : Int) := ⟨(p 0).toNat, by omega⟩
      rw [hx] at hmem hr h3 h1
      have hxl : x < g.length := by omega
      have hxr := ((fl_mem _ _ _).1 hmem).2
      have hav := (rdy_av hv hxl).1 hxr
      have hxO : ¬ (x : Int) ∈ O := of_decide_eq_false hav.1
      have hnx : Nx g O x := ⟨hxl, hav, fun y hy hya => by
        have hm : (y : Int) ∈ fl g.length (rdy g O) := (fl_mem _ _ _).2 ⟨hy, (rdy_av hv hy).2 hya⟩
        have h4 := hpm.mem_iff.2 hm
        unfold tl at h4
        obtain ⟨c, hc, e⟩ := List.mem_map.1 h4
        have := hp.least c (List.mem_range.1 hc)
        omega⟩
      have hperm := h3.trans hpm
      have hnd : ((x : Int) :: tl n p').Nodup := hperm.nodup_iff.2 (fl_nodup _ _)
      have hnd' := List.nodup_cons.1 hnd
      have hbm : ∀ y : Int, y ∈ tl n p' ↔ y ∈ fl g.length (rdy g O) ∧ y ≠ x := fun y => by
        rw [← hperm.mem_iff]
        constructor
        · intro h
          exact ⟨by simp [h], fun e => hnd'.1 (e ▸ h)⟩
        · rintro ⟨h, hne⟩
          exact (List.mem_cons.1 h).resolve_left hne
      have hO' : Grd g (O ++ [(x : Int)]) := .snoc hO hnx
      have key : ∀ (m : Nat) (q : Nat → Int), (tl m q).Perm (tl n p' ++ (us g g.length x).filter (fun y => decide (cnt g (O ++ [(x : Int)]) y.toNat = 0))) → (tl m q).Perm (fl g.length (rdy g (O ++ [(x : Int)]))) := fun m q h => by
        refine h.trans ((List.perm_ext_iff_of_nodup ?_ (fl_nodup _ _)).2 fun y => ?_)
        · rw [List.Nodup, List.pairwise_append]
          refine ⟨hnd'.2, List.Pairwise.filter _ (fl_nodup _ _), fun a ha b hb hab => ?_⟩
          subst hab
          have h5 := ((hbm a).1 ha).1
          have hra := fl_mem' _ _ _ h5
          obtain ⟨z, rfl⟩ : ∃ z : Nat, a = (z : Int) := ⟨a.toNat, by omega⟩
          have h6 := (rdy_av hv (by omega)).1 ((fl_mem _ _ _).1 h5).2
          have h7 := us_mem.1 (List.mem_filter.1 hb).1
          exact hxO (of_decide_eq_true (h6.2 x h7))
        · rw [List.mem_append, hbm, List.mem_filter]
          constructor
          · rintro (⟨h5, hne⟩ | ⟨h5, h6⟩)
            · have hra := fl_mem' _ _ _ h5
              obtain ⟨z, rfl⟩ : ∃ z : Nat, y = (z : Int) := ⟨y.toNat, by omega⟩
              refine (fl_mem _ _ _).2 ⟨by omega, (rdy_av hv (by omega)).2 ?_⟩
              have h8 := (rdy_av hv (by omega)).1 ((fl_mem _ _ _).1 h5).2
              refine ⟨?_, fun m he => ?_⟩
              · unfold dn
                refine decide_eq_false fun h9 => ?_
                rcases List.mem_append.1 h9 with h9 | h9
                · exact of_decide_eq_false h8.1 h9
                · exact hne (List.mem_singleton.1 h9)
              · have := of_decide_eq_true (h8.2 m he)
                unfold dn
                exact decide_eq_true (List.mem_append.2 (.inl this))
            · have hra := fl_mem' _ _ _ h5
              obtain ⟨z, rfl⟩ : ∃ z : Nat, y = (z : Int) := ⟨y.toNat, by omega⟩
              have hE := us_mem.1 h5
              rw [decide_eq_true_iff, Int.toNat_natCast] at h6
              refine (fl_mem _ _ _).2 ⟨by omega, ?_⟩
              unfold rdy
              rw [Bool.and_eq_true, decide_eq_true_iff]
              refine ⟨?_, h6⟩
              rw [Bool.not_eq_true', decide_eq_false_iff_not]
              intro h9
              rcases List.mem_append.1 h9 with h9 | h9
              · exact hxO (hO.deps z x h9 hE)
              · have := List.mem_singleton.1 h9
                obtain rfl : z = x := by omega
                exact hac _ hxl (Rch.one hE)
          · intro h5
            have hra := fl_mem' _ _ _ h5
            obtain ⟨z, rfl⟩ : ∃ z : Nat, y = (z : Int) := ⟨y.toNat, by omega⟩
            have h6 := ((fl_mem _ _ _).1 h5).2
            unfold rdy at h6
            rw [Bool.and_eq_true, decide_eq_true_iff, Bool.not_eq_true', decide_eq_false_iff_not] at h6
            by_cases hE : (x : Int) ∈ adj g z
            · right
              exact ⟨us_mem.2 ⟨by omega, hE⟩, by rw [decide_eq_true_iff, Int.toNat_natCast]; exact h6.2⟩
            · left
              refine ⟨(fl_mem _ _ _).2 ⟨by omega, ?_⟩, fun e => h6.1 (by rw [e]; simp)⟩
              unfold rdy
              rw [Bool.and_eq_true, decide_eq_true_iff, Bool.not_eq_true', decide_eq_false_iff_not]
              refine ⟨fun h9 => h6.1 (by simp [h9]), ?_⟩
              have h10 := h6.2
              unfold cnt at h10 ⊢
              rw [filt_same O x _ hE] at h10
              exact h10
      have hnb : n ≤ 24 := by
        have h5 := hperm.length_eq
        have h6 := fl_len g.length (rdy g O)
        rw [List.length_cons, tl_length] at h5
        omega
      have hOl' := nodup_le g.length _ hO'.nodup hO'.rng
      rw [List.length_append, List.length_singleton] at hOl'
      have hP : ∃ P, Grd g P ∧ P.length = g.length ∧ ∀ (m : Nat) (q : Nat → Int), m ≤ 200 → Hp m q → (tl m q).Perm (tl n p' ++ (us g g.length x).filter (fun y => decide (cnt g (O ++ [(x : Int)]) y.toNat = 0))) → Ev (fun k => depgraph_Order.l2 k (tl g.length fun a => (cnt g (O ++ [(x : Int)]) a : Int)) (tl g.length (us g g.length)) (tl m q) (O ++ [(x : Int)])) (P, 0, 0) := by
        obtain ⟨P, t1, t2, _⟩ := full_ex hv hac
        refine ⟨P, t1, t2, fun m q hm hq hpq => ?_⟩
        obtain ⟨P', u1, u2, u3⟩ := ih (g.length - (O ++ [(x : Int)]).length) (by rw [List.length_append, List.length_singleton]; omega) (O ++ [(x : Int)]) m q rfl hO' hm hq (key m q hpq)
        rw [t1.uniq u1 (by omega)]
        exact u3
      obtain ⟨P, t1, t2, t3⟩ := hP
      refine ⟨P, t1, t2, Ev.of_succ ?_⟩
      simp only [depgraph_Order.l2, tl_length, show (0 : Int) < ((n + 1 : Nat) : Int) from by omega, ↓reduceIte]
      refine Ev.bind h1 ?_
      simp only [show O.length < 17592186044416 from by omega, show (0 : Int) ≤ (x : Int) from by omega, tl_length, show (x : Int) < (g.length : Int) from by omega, ↓reduceIte]
      have h6 := ord_l3 hv hxO (tl n p') (by rw [tl_length]; omega) (P, 0, 0) hxl t3 _ 0 n p' rfl (by omega) h2 (by simp)
      simpa using h6
theorem acyclic_ev {g : List (List Int)} (hl : ∀ l ∈ g, l.length ≤ 9223372036854775807) : ((gf g).1 ≠ 0 ∧ Ev (fun k => depgraph_acyclic.f k g) (gf g)) ∨ ((gf g).1 = 0 ∧ ∃ r, Fst g r ∧ Ev (fun k => depgraph_acyclic.f k g) (if r ≥ 0 then (20, r) else (0, 0))) := by
  by_cases h0 : (gf g).1 = 0
  · right
    obtain ⟨h1, hv⟩ := gf_val h0
    obtain ⟨r, hr, hf⟩ := first_ev hv
    refine ⟨h0, r, hf, ?_⟩
    simp only [depgraph_acyclic.f]
    refine Ev.bind (Validate_ev g hl) ?_
    rw [h1]
    simp only [beq_self_eq_true, Bool.not_true, Bool.or_self, Bool.false_eq_true, ↓reduceIte]
    refine Ev.bind hr ?_
    by_cases h2 : r ≥ 0
    · simp only [h2, ↓reduceIte]
      exact Ev.const _
    · simp only [h2, ↓reduceIte]
      exact Ev.const _
  · left
    refine ⟨h0, ?_⟩
    simp only [depgraph_acyclic.f]
    refine Ev.bind (Validate_ev g hl) ?_
    simp only [show (!((gf g).1 == 0) || !((gf g).2 == 0)) = true from by simp [h0], ↓reduceIte]
    exact Ev.const _
/-- What Order comes to: a fault, a cycle's least node, or the full greedy order. -/
theorem Order_ev {g : List (List Int)} (hl : ∀ l ∈ g, l.length ≤ 9223372036854775807) : ((gf g).1 ≠ 0 ∧ Ev (fun k => depgraph_Order.f k g) ([], (gf g).1, (gf g).2)) ∨ ((gf g).1 = 0 ∧ ∃ s : Nat, Fst g (s : Int) ∧ Ev (fun k => depgraph_Order.f k g) ([], 20, (s : Int))) ∨ ((gf g).1 = 0 ∧ Fst g (-1) ∧ ∃ P, Grd g P ∧ P.length = g.length ∧ Ev (fun k => depgraph_Order.f k g) (P, 0, 0)) := by
  rcases acyclic_ev hl with ⟨h0, ha⟩ | ⟨h0, r, hf, ha⟩
  · refine .inl ⟨h0, ?_⟩
    simp only [depgraph_Order.f]
    refine Ev.bind ha ?_
    simp only [show (!((gf g).1 == 0) || !((gf g).2 == 0)) = true from by simp [h0], ↓reduceIte]
    exact Ev.const _
  · right
    obtain ⟨h1, hv⟩ := gf_val h0
    have hle := hv.le
    by_cases hr : r ≥ 0
    · rw [if_pos hr] at ha
      obtain ⟨s, rfl⟩ : ∃ s : Nat, r = (s : Int) := ⟨r.toNat, by omega⟩
      refine .inl ⟨h0, s, hf, ?_⟩
      simp only [depgraph_Order.f]
      refine Ev.bind ha ?_
      simp only [show (!((20 : Int) == 0) || !((s : Int) == 0)) = true from by simp, ↓reduceIte]
      exact Ev.const _
    · rw [if_neg hr] at ha
      have hf1 : r = -1 := by
        rcases hf with ⟨h, _⟩ | ⟨i, _, h, _⟩
        · exact h
        · omega
      subst hf1
      have hac : ∀ i, i < g.length → ¬ Rch g i i := by
        rcases hf with ⟨_, h⟩ | ⟨i, _, h, _⟩
        · exact h
        · omega
      refine .inr ⟨h0, hf, ?_⟩
      obtain ⟨P, t1, t2, _⟩ := full_ex hv hac
      refine ⟨P, t1, t2, ?_⟩
      simp only [depgraph_Order.f]
      refine Ev.bind ha ?_
      simp only [beq_self_eq_true, Bool.not_true, Bool.or_self, Bool.false_eq_true, ↓reduceIte, show g.length ≤ 1000000 from by omega]
      have hz : ∀ a, a < g.length → zr g a = rdy g [] a := fun a ha => by
        unfold zr rdy cnt
        rw [Bool.eq_iff_iff, Bool.and_eq_true]
        simp only [List.not_mem_nil, decide_false, Bool.not_false, true_and, decide_eq_true_iff]
        rw [List.filter_eq_self.2 (by simp)]
      have hst := ord_l0 hv (P, 0, 0) (fun n p hn hp hpm => by
        rw [fl_congr hz] at hpm
        obtain ⟨P', u1, u2, u3⟩ := ord_l2 hv hac _ [] n p rfl .nil (by omega) hp hpm
        rw [t1.uniq u1 (by omega)]
        have em : tl g.length (ms g g.length) = tl g.length fun a => (cnt g [] a : Int) := tl_congr fun a ha => by
          unfold ms cnt
          rw [if_pos ha]
          congr 1
          rw [List.filter_eq_self.2 (by simp)]
        rw [em]
        exact u3) _ 0 0 (fun _ => 0) rfl (by omega) (by omega) (fun c _ h => by omega) (by simp [tl, fl])
      have e1 : List.replicate g.length (0 : Int) = tl g.length (ms g 0) := by
        rw [tl_const]
        exact tl_congr fun a _ => by simp [ms]
      have e2 : List.replicate g.length ([] : List Int) = tl g.length (us g 0) := by
        rw [tl_const]
        exact tl_congr fun a _ => by simp [us, fl]
      rw [e1, e2]
      exact hst
end Go.Proofs.YtffcaglfcnmhdaaDoor.H
end
section
namespace Go.Proofs.YtffcaglfcnmhdaaDoor.H
open Go.RowKit Go.Proofs.YtffcaglfcnmhdaaDoorW.PrintWords Go.Proofs.YtffcaglfcnmhdaaDoorW.PrintLast Go.Proofs.YtffcaglfcnmhdaaDoorW.PrintMore
set_option linter.unusedVariables false
set_option linter.unusedSimpArgs false
open Go.RowKit
/-- The levels: every node above all on which it depends, and just above one of these, or at the bottom. -/
structure Lev (g : List (List Int)) (q : Nat → Nat) : Prop where
  up : ∀ i m, E g i m → q m + 1 ≤ q i
  here : ∀ i, i < g.length → q i = 0 ∨ ∃ m, E g i m ∧ q i = q m + 1
  le : ∀ i, q i ≤ g.length
/-- Of a beginning of the order. -/
structure LevO (g : List (List Int)) (O : List Int) (q : Nat → Nat) : Prop where
  up : ∀ i m : Nat, (i : Int) ∈ O → E g i m → q m + 1 ≤ q i
  here : ∀ i : Nat, (i : Int) ∈ O → q i = 0 ∨ ∃ m, E g i m ∧ q i = q m + 1
  le : ∀ i, q i ≤ O.length
  out : ∀ i : Nat, ¬ (i : Int) ∈ O → q i = 0
theorem lev_l1 {g : List (List Int)} (hv : Val g) {x : Nat} (hx : x < g.length) (hxx : ¬ E g x x) (q : Nat → Nat) {B : Nat} (hB : B < 1000) (hq : ∀ a, q a ≤ B) (P : List Int) (c : Int) (R : (Nat → Nat) → Prop)
    (hT : ∀ q' : Nat → Nat, (∀ a, a ≠ x → q' a = q a) → (∀ m, E g x m → q m + 1 ≤ q' x) → (q' x = 0 ∨ ∃ m, E g x m ∧ q' x = q m + 1) → ∃ L, R L ∧ Ev (fun k => depgraph_Levels.l0 k g (tl g.length fun a => (q' a : Int)) P (P.length : Int) (wrap64 (c + 1))) (tl g.length (fun a => (L a : Int)), 0, 0)) :
    ∀ (d j : Nat) (q' : Nat → Nat), (adj g x).length - j = d → j ≤ (adj g x).length → (∀ a, a ≠ x → q' a = q a) → (∀ m : Nat, (m : Int) ∈ (adj g x).take j → q m + 1 ≤ q' x) → (q' x = 0 ∨ ∃ m, E g x m ∧ q' x = q m + 1) →
    ∃ L, R L ∧ Ev (fun k => depgraph_Levels.l1 k g (tl g.length fun a => (q' a : Int)) (x : Int) P (P.length : Int) c (adj g x) ((adj g x).length : Int) (j : Int)) (tl g.length (fun a => (L a : Int)), 0, 0) := by
  have hal := hv.len hx
  have hle := hv.le
  intro d
  induction d with
  | zero =>
    intro j q' hd hj h1 h2 h3
    obtain ⟨L, hR, he⟩ := hT q' h1 (fun m e => h2 m (by rw [List.take_of_length_le (by omega)]; exact e.2)) h3
    refine ⟨L, hR, Ev.of_succ ?_⟩
    simp only [depgraph_Levels.l1, show ¬ (j : Int) < ((adj g x).length : Int) from by omega, ↓reduceIte]
    exact he
  | succ d ih =>
    intro j q' hd hj h1 h2 h3
    have hjl : j < (adj g x).length := by omega
    obtain ⟨y, hy, hr, hg, he⟩ := hv.adj_get hx hjl
    have hyx : y ≠ x := fun e => hxx (e ▸ he)
    have hqy := hq y
    have e1 := h1 y hyx
    have hqx : q' x ≤ B + 1 := by
      rcases h3 with e | ⟨m, _, e⟩
      · omega
      · have := hq m; omega
    have e2 : (adj g x).length - (j + 1) = d := by clear h3; omega
    have e3 : j + 1 ≤ (adj g x).length := by clear h3; omega
    obtain ⟨L, hR, hE⟩ := ih (j + 1) (fun a => if a = x then (if q' x < q y + 1 then q y + 1 else q' x) else q' a) e2 e3 (fun a ha => by simp only [ha, ↓reduceIte]; exact h1 a ha) (fun m hm => by
        rw [take_mem (hv.ok x hx).inc hjl, hg] at hm
        simp only [↓reduceIte]
        clear h3
        rcases hm with hm | hm
        · have := h2 m hm
          split <;> omega
        · obtain rfl : m = y := by omega
          split <;> omega) (by
        simp only [↓reduceIte]
        split
        · exact .inr ⟨y, he, rfl⟩
        · exact h3)
    clear h3
    refine ⟨L, hR, Ev.of_succ ?_⟩
    simp only [depgraph_Levels.l1, show (j : Int) < ((adj g x).length : Int) from by omega, show (0 : Int) ≤ (j : Int) from by omega, show (0 : Int) ≤ (x : Int) from by omega, tl_length, show (x : Int) < (g.length : Int) from by omega, hr, show (0 : Int) ≤ (y : Int) from by omega, show (y : Int) < (g.length : Int) from by omega, ↓reduceIte, tl_rd _ _ _ hx, tl_rd _ _ _ hy, e1, wrap_up (q y) (by omega), wrap_up j (by omega), Int.toNat_natCast, tl_set]
    rw [tl_congr (q := fun a => (((if a = x then (if q' x < q y + 1 then q y + 1 else q' x) else q' a : Nat)) : Int)) (fun i _ => by
      by_cases e : i = x
      · subst e
        simp only [↓reduceIte, mx]
        split <;> split <;> first | rfl | omega
      · simp only [e, ↓reduceIte])]
    exact hE

theorem Grd.take {g : List (List Int)} {O : List Int} (h : Grd g O) : ∀ c, Grd g (O.take c) := by
  induction h with
  | nil => intro c; rw [List.take_nil]; exact .nil
  | @snoc O x h hx ih =>
    intro c
    by_cases hc : c ≤ O.length
    · rw [List.take_append_of_le_length hc]; exact ih c
    · rw [List.take_of_length_le (by rw [List.length_append, List.length_singleton]; omega)]; exact .snoc h hx
theorem nodup_take {l : List Int} (h : l.Nodup) {j : Nat} (hj : j < l.length) : ¬ l[j] ∈ l.take j := by
  intro hm
  obtain ⟨i, hi, e⟩ := List.mem_take_iff_getElem.1 hm
  have := List.pairwise_iff_getElem.1 h i j (by omega) hj (by omega)
  exact this e
theorem Levels_ok {g : List (List Int)} (hv : Val g) (hac : ∀ i, i < g.length → ¬ Rch g i i) {P : List Int} (hP : Grd g P) (hPl : P.length = g.length) : ∃ L, Lev g L ∧ Ev (fun k => depgraph_Levels.l0 k g (List.replicate g.length 0) P (P.length : Int) 0) (tl g.length (fun a => (L a : Int)), 0, 0) := by
  have hle := hv.le
  have loop : ∀ (d c : Nat) (q : Nat → Nat), P.length - c = d → c ≤ P.length → LevO g (P.take c) q → ∃ L, Lev g L ∧ Ev (fun k => depgraph_Levels.l0 k g (tl g.length fun a => (q a : Int)) P (P.length : Int) (c : Int)) (tl g.length (fun a => (L a : Int)), 0, 0) := by
    intro d
    induction d with
    | zero =>
      intro c q hd hc h
      rw [List.take_of_length_le (by omega)] at h
      refine ⟨q, ⟨fun i m e => h.up i m (full_mem hP.nodup hP.rng hPl e.1) e, fun i hi => h.here i (full_mem hP.nodup hP.rng hPl hi), fun i => hPl ▸ h.le i⟩, Ev.of_succ ?_⟩
      simp only [depgraph_Levels.l0, show ¬ (c : Int) < (P.length : Int) from by omega, ↓reduceIte]
      exact Ev.const _
    | succ d ih =>
      intro c q hd hc h
      have hcl : c < P.length := by omega
      have hr := hP.rng _ (List.getElem_mem hcl)
      obtain ⟨x, hx⟩ : ∃ x : Nat, P[c] = (x : Int) := ⟨P[c].toNat, by omega⟩
      have hxN : x < g.length := by omega
      have hrd : rd P (c : Int) = (x : Int) := by rw [rd_get P c hcl, hx]
      have hxO : ¬ (x : Int) ∈ P.take c := hx ▸ nodup_take hP.nodup hcl
      have htk : P.take (c + 1) = P.take c ++ [(x : Int)] := by rw [List.take_succ_eq_append_getElem hcl, hx]
      have hxm : (x : Int) ∈ P.take (c + 1) := by rw [htk]; exact List.mem_append.2 (.inr (List.mem_singleton.2 rfl))
      have hdep : ∀ m, E g x m → (m : Int) ∈ P.take c := fun m he => by
        have h1 := (hP.take (c + 1)).deps x m hxm he
        rw [htk] at h1
        rcases List.mem_append.1 h1 with h2 | h2
        · exact h2
        · have := List.mem_singleton.1 h2
          obtain rfl : m = x := by omega
          exact absurd (Rch.one he) (hac _ hxN)
      have hq : ∀ a, q a ≤ P.length := fun a => by have := h.le a; rw [List.length_take] at this; omega
      have e2 : P.length - (c + 1) = d := by omega
      obtain ⟨L, hL, hE⟩ := lev_l1 hv hxN (fun e => hac x hxN (Rch.one e)) q (B := P.length) (by omega) hq P (c : Int) (Lev g) (fun q' h1 h2 h3 => by
        obtain ⟨L, hL, hE⟩ := ih (c + 1) q' e2 hcl (by
          have hsame : ∀ m : Nat, (m : Int) ∈ P.take c → q' m = q m := fun m hm => h1 m (fun e => hxO (e ▸ hm))
          rw [htk]
          refine ⟨fun i m hi he => ?_, fun i hi => ?_, fun i => ?_, fun i hi => ?_⟩
          · rcases List.mem_append.1 hi with hi | hi
            · rw [hsame i hi, hsame m ((hP.take c).deps i m hi he)]; exact h.up i m hi he
            · have := List.mem_singleton.1 hi
              obtain rfl : i = x := by omega
              rw [hsame m (hdep m he)]; exact h2 m he
          · rcases List.mem_append.1 hi with hi | hi
            · rw [hsame i hi]
              rcases h.here i hi with e | ⟨m, he, e⟩
              · exact .inl e
              · exact .inr ⟨m, he, by rw [hsame m ((hP.take c).deps i m hi he)]; exact e⟩
            · have := List.mem_singleton.1 hi
              obtain rfl : i = x := by omega
              rcases h3 with e | ⟨m, he, e⟩
              · exact .inl e
              · exact .inr ⟨m, he, by rw [hsame m (hdep m he)]; exact e⟩
          · rw [List.length_append, List.length_singleton]
            by_cases e : i = x
            · subst e
              rcases h3 with e | ⟨m, he, e⟩
              · omega
              · have := h.le m; omega
            · rw [h1 i e]; have := h.le i; omega
          · rw [List.mem_append, List.mem_singleton] at hi
            have e : i ≠ x := fun e => hi (.inr (by rw [e]))
            rw [h1 i e]
            exact h.out i (fun h2 => hi (.inl h2)))
        refine ⟨L, hL, ?_⟩
        rw [wrap_up c (by omega)]
        exact hE) _ 0 q rfl (by omega) (fun _ _ => rfl) (fun m hm => by simp at hm) (.inl (h.out x hxO))
      refine ⟨L, hL, Ev.of_succ ?_⟩
      simp only [depgraph_Levels.l0, show (c : Int) < (P.length : Int) from by omega, show (0 : Int) ≤ (c : Int) from by omega, hrd, show (0 : Int) ≤ (x : Int) from by omega, show (x : Int) < (g.length : Int) from by omega, ↓reduceIte]
      exact hE
  obtain ⟨L, hL, hE⟩ := loop _ 0 (fun _ => 0) rfl (by omega) ⟨fun i m hi => by simp at hi, fun i hi => by simp at hi, fun i => by omega, fun i _ => rfl⟩
  refine ⟨L, hL, ?_⟩
  rw [tl_const]
  exact hE
/-- The program's levels: the same fault, or the levels. -/
theorem Levels_ev {g : List (List Int)} (hl : ∀ l ∈ g, l.length ≤ 9223372036854775807) : ((gf g).1 ≠ 0 ∧ Ev (fun k => depgraph_Order.f k g) ([], (gf g).1, (gf g).2) ∧ Ev (fun k => depgraph_Levels.f k g) ([], (gf g).1, (gf g).2)) ∨
    ((gf g).1 = 0 ∧ ∃ s : Nat, Fst g (s : Int) ∧ Ev (fun k => depgraph_Order.f k g) ([], 20, (s : Int)) ∧ Ev (fun k => depgraph_Levels.f k g) ([], 20, (s : Int))) ∨
    ((gf g).1 = 0 ∧ Fst g (-1) ∧ ∃ P L, Grd g P ∧ P.length = g.length ∧ Lev g L ∧ Ev (fun k => depgraph_Order.f k g) (P, 0, 0) ∧ Ev (fun k => depgraph_Levels.f k g) (tl g.length (fun a => (L a : Int)), 0, 0)) := by
  rcases Order_ev hl with ⟨h0, ho⟩ | ⟨h0, s, hf, ho⟩ | ⟨h0, hf, P, hP, hPl, ho⟩
  · refine .inl ⟨h0, ho, ?_⟩
    simp only [depgraph_Levels.f]
    refine Ev.bind ho ?_
    simp only [show (!((gf g).1 == 0)) = true from by simp [h0], Bool.true_or, ↓reduceIte]
    exact Ev.const _
  · refine .inr (.inl ⟨h0, s, hf, ho, ?_⟩)
    simp only [depgraph_Levels.f]
    refine Ev.bind ho ?_
    simp only [show (!((20 : Int) == 0)) = true from rfl, Bool.true_or, ↓reduceIte]
    exact Ev.const _
  · obtain ⟨_, hv⟩ := gf_val h0
    have hle := hv.le
    have hac : ∀ i, i < g.length → ¬ Rch g i i := by
      intro i hi hr
      rcases hf with ⟨_, h⟩ | ⟨s, _, e, _⟩
      · exact h i hi hr
      · omega
    obtain ⟨L, hL, hE⟩ := Levels_ok hv hac hP hPl
    refine .inr (.inr ⟨h0, hf, P, L, hP, hPl, hL, ho, ?_⟩)
    simp only [depgraph_Levels.f]
    refine Ev.bind ho ?_
    simp only [beq_self_eq_true, Bool.not_true, Bool.or_self, Bool.false_eq_true, ↓reduceIte, show (0 : Int) ≤ (g.length : Int) from by omega, Int.toNat_natCast, show g.length ≤ 35184372088832 from by omega]
    exact hE
end Go.Proofs.YtffcaglfcnmhdaaDoor.H
end
section
namespace Go.Proofs.YtffcaglfcnmhdaaDoor.H
open Go.RowKit Go.Proofs.YtffcaglfcnmhdaaDoorW.PrintWords Go.Proofs.YtffcaglfcnmhdaaDoorW.PrintLast Go.Proofs.YtffcaglfcnmhdaaDoorW.PrintMore
set_option linter.unusedVariables false
set_option linter.unusedSimpArgs false
open Go.RowKit
theorem Ints_ev {a : List Int} (ha : a.length ≤ 9223372036854775807) : Ev (fun k => changeforgeref5_Ints.f k a a) true := by
  have loop : ∀ d j, a.length - j = d → j ≤ a.length → Ev (fun k => changeforgeref5_Ints.l0 k a a (j : Int)) true := by
    intro d
    induction d with
    | zero =>
      intro j hd hj
      refine Ev.of_succ ?_
      simp only [changeforgeref5_Ints.l0, show ¬ (j : Int) < (a.length : Int) from by omega, ↓reduceIte]
      exact Ev.const _
    | succ d ih =>
      intro j hd hj
      refine Ev.of_succ ?_
      simp only [changeforgeref5_Ints.l0, show (j : Int) < (a.length : Int) from by omega, show (0 : Int) ≤ (j : Int) from by omega, ↓reduceIte, wrap_up j (by omega)]
      exact ih (j + 1) (by omega) (by omega)
  simp only [changeforgeref5_Ints.f, ↓reduceIte]
  exact loop _ 0 rfl (by omega)
end Go.Proofs.YtffcaglfcnmhdaaDoor.H
end
section
namespace Go.Proofs.YtffcaglfcnmhdaaDoor.H
open Go.RowKit Go.Proofs.YtffcaglfcnmhdaaDoorW.PrintWords Go.Proofs.YtffcaglfcnmhdaaDoorW.PrintLast Go.Proofs.YtffcaglfcnmhdaaDoorW.PrintMore
set_option linter.unusedVariables false
set_option linter.unusedSimpArgs false
namespace Bu
open Go.RowKit
/-- From some number of rounds on the answer is v. -/
def Ev {α : Type} (f : Nat → Option α) (v : α) : Prop := ∃ K, ∀ k, K ≤ k → f k = some v
theorem Ev.const {α : Type} (v : α) : Ev (fun _ => some v) v := ⟨0, fun _ _ => rfl⟩
theorem Ev.of_succ {α : Type} {f : Nat → Option α} {v : α} (h : Ev (fun k => f (k + 1)) v) : Ev f v := by
  obtain ⟨K, h⟩ := h
  exact ⟨K + 1, fun k hk => by obtain ⟨m, rfl⟩ : ∃ m, k = m + 1 := ⟨k - 1, by omega⟩; exact h m (by omega)⟩
theorem Ev.bind {α β : Type} {f : Nat → Option α} {g : Nat → α → Option β} {a : α} {b : β} (h : Ev f a) (h2 : Ev (fun k => g k a) b) : Ev (fun k => (f k).bind (g k)) b := by
  obtain ⟨K, h⟩ := h
  obtain ⟨M, h2⟩ := h2
  exact ⟨K + M, fun k hk => by show (f k).bind (g k) = some b; rw [h k (by omega)]; exact h2 k (by omega)⟩
theorem Ev.cast {α : Type} {f : Nat → Option α} {v v' : α} (h : Ev f v) (e : v = v') : Ev f v' := e ▸ h
theorem Ev.run {α : Type} {f : Nat → Option α} {v : α} (h : Ev f v) : ∃ k, f k = some v := by
  obtain ⟨K, h⟩ := h
  exact ⟨K, h K (Nat.le_refl _)⟩
theorem wrap_lt {x : Int} (h0 : -9223372036854775808 ≤ x) (h1 : x < 9223372036854775808) : wrap64 x = x := by unfold wrap64; omega
theorem wrap_up (i : Nat) (h : i < 9223372036854775807) : wrap64 ((i : Int) + 1) = ((i + 1 : Nat) : Int) := by rw [wrap_lt (by omega) (by omega)]; omega
abbrev BR := S30
abbrev kdR (L : List BR) (i : Nat) : Int := (rd_T30 L (i : Int)).f0
abbrev inp (L : List BR) (i : Nat) : List Int := (rd_T30 L (i : Int)).f1
/-- Every rule below m has earlier rules as inputs. -/
structure Ins (L : List BR) (m : Nat) : Prop where
  len : ∀ i, i < m → (inp L i).length ≤ 8
  lt : ∀ i, i < m → ∀ x ∈ inp L i, 0 ≤ x ∧ x < (i : Int)
theorem Ins.mono {L : List BR} {m n : Nat} (h : Ins L m) (hn : n ≤ m) : Ins L n := ⟨fun i hi => h.len i (by omega), fun i hi => h.lt i (by omega)⟩
/-- Whether k is a leaf of rule i, looked for n deep. -/
def st (L : List BR) : Nat → Nat → Nat → Bool
  | 0, _, _ => false
  | n + 1, i, k => if kdR L i = 6 then (inp L i).any (fun x => st L n x.toNat k) else k == i
def leaf (L : List BR) (i k : Nat) : Bool := st L (i + 1) i k
theorem any_congr' {α : Type} {l : List α} {p q : α → Bool} (h : ∀ x ∈ l, p x = q x) : l.any p = l.any q := by
  induction l with
  | nil => rfl
  | cons a l ih => rw [List.any_cons, List.any_cons, h a (by simp), ih (fun x hx => h x (by simp [hx]))]
theorem st_fuel {L : List BR} {m : Nat} (h : Ins L m) (k : Nat) : ∀ n n' i, i < m → i < n → i < n' → st L n i k = st L n' i k := by
  intro n
  induction n with
  | zero => intro n' i _ hi; omega
  | succ n ih =>
    intro n' i hm hi hn
    obtain ⟨n', rfl⟩ : ∃ a, n' = a + 1 := ⟨n' - 1, by omega⟩
    unfold st
    split
    · refine any_congr' fun x hx => ?_
      have := h.lt i hm x hx
      exact ih n' x.toNat (by omega) (by omega) (by omega)
    · rfl
theorem leaf_group {L : List BR} {m i : Nat} (h : Ins L m) (hi : i < m) (hk : kdR L i = 6) (k : Nat) : leaf L i k = (inp L i).any fun x => leaf L x.toNat k := by
  unfold leaf
  rw [st, if_pos hk]
  refine any_congr' fun x hx => ?_
  have := h.lt i hi x hx
  exact st_fuel h k _ _ _ (by omega) (by omega) (by omega)
theorem leaf_one {L : List BR} {i : Nat} (hk : kdR L i ≠ 6) (k : Nat) : leaf L i k = (k == i) := by unfold leaf; rw [st, if_neg hk]
theorem leaf_kd {L : List BR} {m : Nat} (h : Ins L m) (k : Nat) : ∀ i, i < m → leaf L i k = true → kdR L k ≠ 6 ∧ k ≤ i := by
  intro i
  induction i using Nat.strongRecOn with
  | _ i ih =>
  intro hi hl
  by_cases hk : kdR L i = 6
  · rw [leaf_group h hi hk] at hl
    obtain ⟨x, hx, hl⟩ := List.any_eq_true.1 hl
    have := h.lt i hi x hx
    have h2 := ih x.toNat (by omega) (by omega) hl
    exact ⟨h2.1, by omega⟩
  · rw [leaf_one hk] at hl
    have : k = i := by simpa using hl
    subst this
    exact ⟨hk, Nat.le_refl _⟩
/-- A list of N marks. -/
def bl (N : Nat) (q : Nat → Bool) : List Bool := (List.range N).map q
@[simp] theorem bl_length (N : Nat) (q : Nat → Bool) : (bl N q).length = N := by simp [bl]
theorem bl_get (N : Nat) (q : Nat → Bool) (i : Nat) (h : i < N) : rdOf false (bl N q) (i : Int) = q i := by
  simp [rdOf, bl, List.getD_eq_getElem?_getD, h]
theorem bl_congr {N : Nat} {p q : Nat → Bool} (h : ∀ i, i < N → p i = q i) : bl N p = bl N q := List.map_congr_left fun i hi => h i (List.mem_range.1 hi)
theorem bl_set (N : Nat) (q : Nat → Bool) (i : Nat) (b : Bool) : (bl N q).set i b = bl N (fun k => if k = i then b else q k) := by
  refine List.ext_getElem? fun j => ?_
  unfold bl
  rw [List.getElem?_set, List.getElem?_map, List.getElem?_map]
  by_cases hj : j < N
  · rw [List.getElem?_range hj]
    by_cases h : i = j
    · subst h; simp [hj]
    · have h' : ¬ j = i := fun h2 => h h2.symm
      simp [h, h']
  · rw [List.getElem?_eq_none (by simpa using hj : (List.range N).length ≤ j)]
    by_cases h : i = j
    · subst h; simp [hj]
    · simp [h]
theorem bl_false (N : Nat) : List.replicate N false = bl N (fun _ => false) := by
  unfold bl
  rw [List.map_const']
  simp
theorem rd_get (l : List Int) (j : Nat) (h : j < l.length) : rd l (j : Int) = l[j] := by simp [rd, List.getD_eq_getElem?_getD, h]
theorem inp_rd {L : List BR} {m i j : Nat} (h : Ins L m) (hi : i < m) (hj : j < (inp L i).length) : ∃ x : Nat, x < i ∧ rd (inp L i) (j : Int) = (x : Int) ∧ (inp L i)[j] = (x : Int) := by
  have := h.lt i hi _ (List.getElem_mem hj)
  exact ⟨(inp L i)[j].toNat, by omega, by rw [rd_get _ _ hj]; omega, by omega⟩
theorem leaves_ev (L : List BR) (hN : L.length ≤ 30) {m : Nat} (hm : m ≤ L.length) (h : Ins L m) : ∀ i, i < m → ∀ q : Nat → Bool, Ev (fun k => rules_leaves.f k L i (bl L.length q)) (bl L.length fun k => q k || leaf L i k) := by
  intro i
  induction i using Nat.strongRecOn with
  | _ i ih =>
  intro hi q
  refine Ev.of_succ ?_
  have a0 : (0 : Int) ≤ (i : Int) := by omega
  have a1 : (i : Int) < (L.length : Int) := by omega
  by_cases hk : kdR L i = 6
  · simp only [rules_leaves.f, a0, a1, hk, bl_length, ↓reduceIte]
    have loop : ∀ d j (q : Nat → Bool), (inp L i).length - j = d → j ≤ (inp L i).length →
        Ev (fun k => rules_leaves.l0 k L (bl L.length q) (inp L i) ((inp L i).length : Int) j) (bl L.length fun k => q k || ((inp L i).drop j).any fun x => leaf L x.toNat k) := by
      intro d
      induction d with
      | zero =>
        intro j q hd hj
        refine Ev.of_succ ?_
        simp only [rules_leaves.l0, show ¬ (j : Int) < ((inp L i).length : Int) from by omega, ↓reduceIte]
        rw [List.drop_eq_nil_of_le (by omega)]
        simp only [List.any_nil, Bool.or_false]
        exact Ev.const _
      | succ d ihd =>
        intro j q hd hj
        refine Ev.of_succ ?_
        have hjl : j < (inp L i).length := by omega
        obtain ⟨x, hx, hr, he⟩ := inp_rd h hi hjl
        simp only [rules_leaves.l0, show (j : Int) < ((inp L i).length : Int) from by omega, show (0 : Int) ≤ (j : Int) from by omega, hr, ↓reduceIte]
        refine Ev.bind (ih x hx (by omega) q) ?_
        have h8 := h.len i hi
        rw [wrap_up j (by omega)]
        have := ihd (j + 1) (fun k => q k || leaf L x k) (by omega) (by omega)
        rw [List.drop_eq_getElem_cons hjl, he]
        simp only [List.any_cons, Int.toNat_natCast]
        simp only [Bool.or_assoc] at this
        exact this
    have := loop _ 0 q rfl (Nat.zero_le _)
    rw [List.drop_zero] at this
    simp only [leaf_group h hi hk]
    exact this
  · simp only [rules_leaves.f, a0, a1, hk, bl_length, ↓reduceIte, Int.toNat_natCast, bl_set]
    rw [bl_congr (q := fun k => q k || leaf L i k) (fun k _ => by
      rw [leaf_one hk]
      by_cases h : k = i
      · subst h; simp
      · simp [h])]
    exact Ev.const _
/-- The marked ones among 0 .. n - 1. -/
def fl (n : Nat) (q : Nat → Bool) : List Int := ((List.range n).filter q).map fun (k : Nat) => (k : Int)
theorem fl_zero (q : Nat → Bool) : fl 0 q = [] := rfl
theorem fl_succ (n : Nat) (q : Nat → Bool) : fl (n + 1) q = if q n then fl n q ++ [(n : Int)] else fl n q := by
  unfold fl
  rw [List.range_succ, List.filter_append, List.map_append]
  by_cases h : q n <;> simp [h]
theorem fl_length (n : Nat) (q : Nat → Bool) : (fl n q).length ≤ n := by
  unfold fl
  rw [List.length_map]
  exact Nat.le_trans (List.length_filter_le _ _) (by simp)
theorem fl_congr {n : Nat} {p q : Nat → Bool} (h : ∀ i, i < n → p i = q i) : fl n p = fl n q := by
  unfold fl
  rw [List.filter_congr fun i hi => h i (List.mem_range.1 hi)]
theorem mem_fl {n : Nat} {q : Nat → Bool} {x : Int} : x ∈ fl n q ↔ ∃ k : Nat, k < n ∧ q k = true ∧ x = (k : Int) := by
  unfold fl
  simp only [List.mem_map, List.mem_filter, List.mem_range]
  constructor
  · rintro ⟨k, ⟨h1, h2⟩, rfl⟩; exact ⟨k, h1, h2, rfl⟩
  · rintro ⟨k, h1, h2, rfl⟩; exact ⟨k, ⟨h1, h2⟩, rfl⟩
/-- Whether k is a leaf of an input of rule i. -/
def under (L : List BR) (i k : Nat) : Bool := (inp L i).any fun x => leaf L x.toNat k
theorem inputs_ev (L : List BR) (hN : L.length ≤ 30) {m : Nat} (hm : m ≤ L.length) (h : Ins L m) (i : Nat) (hi : i < m) : Ev (fun k => rules_inputs.f k L i) (fl L.length (under L i)) := by
  have a0 : (0 : Int) ≤ (i : Int) := by omega
  have a1 : (i : Int) < (L.length : Int) := by omega
  have h8 := h.len i hi
  have l1 : ∀ (q : Nat → Bool) d j, L.length - j = d → j ≤ L.length → Ev (fun k => rules_inputs.l1 k (fl j q) (bl L.length q) (L.length : Int) j) (fl L.length q) := by
    intro q d
    induction d with
    | zero =>
      intro j hd hj
      refine Ev.of_succ ?_
      obtain rfl : j = L.length := by omega
      simp only [rules_inputs.l1, Int.lt_irrefl, ↓reduceIte]
      exact Ev.const _
    | succ d ih =>
      intro j hd hj
      refine Ev.of_succ ?_
      have hjl : j < L.length := by omega
      have hlen := fl_length j q
      simp only [rules_inputs.l1, show (j : Int) < (L.length : Int) from by omega, show (0 : Int) ≤ (j : Int) from by omega, bl_length, bl_get _ _ _ hjl, show (fl j q).length < 17592186044416 from by omega, ↓reduceIte]
      rw [wrap_up j (by omega)]
      have := ih (j + 1) (by omega) (by omega)
      rw [fl_succ] at this
      by_cases hq : q j = true
      · simp only [hq, ↓reduceIte] at this ⊢
        exact this
      · simp only [hq, ↓reduceIte, Bool.false_eq_true] at this ⊢
        exact this
  have loop : ∀ d j (q : Nat → Bool), (inp L i).length - j = d → j ≤ (inp L i).length →
      Ev (fun k => rules_inputs.l0 k L (bl L.length q) (inp L i) ((inp L i).length : Int) j) (fl L.length fun k => q k || ((inp L i).drop j).any fun x => leaf L x.toNat k) := by
    intro d
    induction d with
    | zero =>
      intro j q hd hj
      refine Ev.of_succ ?_
      simp only [rules_inputs.l0, show ¬ (j : Int) < ((inp L i).length : Int) from by omega, ↓reduceIte, bl_length]
      rw [List.drop_eq_nil_of_le (by omega)]
      simp only [List.any_nil, Bool.or_false]
      exact l1 q _ 0 rfl (Nat.zero_le _)
    | succ d ihd =>
      intro j q hd hj
      refine Ev.of_succ ?_
      have hjl : j < (inp L i).length := by omega
      obtain ⟨x, hx, hr, he⟩ := inp_rd h hi hjl
      simp only [rules_inputs.l0, show (j : Int) < ((inp L i).length : Int) from by omega, show (0 : Int) ≤ (j : Int) from by omega, hr, ↓reduceIte]
      refine Ev.bind (leaves_ev L hN hm h x (by omega) q) ?_
      rw [wrap_up j (by omega)]
      have := ihd (j + 1) (fun k => q k || leaf L x k) (by omega) (by omega)
      rw [List.drop_eq_getElem_cons hjl, he]
      simp only [List.any_cons, Int.toNat_natCast]
      simp only [Bool.or_assoc] at this
      exact this
  unfold rules_inputs.f
  simp only [show (0 : Int) ≤ (L.length : Int) from by omega, show L.length ≤ 281474976710656 from by omega, a0, a1, ↓reduceIte, Int.toNat_natCast, bl_false]
  have := loop _ 0 (fun _ => false) rfl (Nat.zero_le _)
  simp only [List.drop_zero, Bool.false_or] at this
  exact this
end Bu
end Go.Proofs.YtffcaglfcnmhdaaDoor.H
end
section
namespace Go.Proofs.YtffcaglfcnmhdaaDoor.H
open Go.RowKit Go.Proofs.YtffcaglfcnmhdaaDoorW.PrintWords Go.Proofs.YtffcaglfcnmhdaaDoorW.PrintLast Go.Proofs.YtffcaglfcnmhdaaDoorW.PrintMore
set_option linter.unusedVariables false
set_option linter.unusedSimpArgs false
namespace Bu
/-- The error code of the inputs of rule i as a list of numbers, from place j on. -/
def inC (i : Int) (l : List Int) : Nat → Nat → Int
  | 0, _ => 0
  | d + 1, j => if ¬ (0 ≤ rd l (j : Int) ∧ rd l (j : Int) < i) then 3 else if 0 < j ∧ rd l (j : Int) ≤ rd l ((j - 1 : Nat) : Int) then 5 else inC i l d (j + 1)
theorem inC_ok {i : Int} {l : List Int} : ∀ d j, inC i l d j = 0 → (∀ a : Nat, j ≤ a → a < j + d → 0 ≤ rd l (a : Int) ∧ rd l (a : Int) < i) ∧ (∀ a : Nat, j ≤ a → a < j + d → 0 < a → rd l ((a - 1 : Nat) : Int) < rd l (a : Int))
  | 0, j, _ => ⟨fun a h1 h2 => by omega, fun a h1 h2 => by omega⟩
  | d + 1, j, h => by
    unfold inC at h
    by_cases h1 : ¬ (0 ≤ rd l (j : Int) ∧ rd l (j : Int) < i)
    · rw [if_pos h1] at h; omega
    rw [if_neg h1] at h
    by_cases h2 : 0 < j ∧ rd l (j : Int) ≤ rd l ((j - 1 : Nat) : Int)
    · rw [if_pos h2] at h; omega
    rw [if_neg h2] at h
    obtain ⟨h3, h4⟩ := inC_ok d (j + 1) h
    refine ⟨fun a ha hb => ?_, fun a ha hb hc => ?_⟩
    · by_cases e : a = j
      · subst e; exact Decidable.not_not.1 h1
      · exact h3 a (by omega) (by omega)
    · by_cases e : a = j
      · subst e; omega
      · exact h4 a (by omega) (by omega) hc
def perm (K a : Int) : Bool := if K = 2 then a == 1 || a == 3 else if K = 3 then a == 2 else if K = 4 then a == 2 || a == 3 else if K = 5 then a == 4 else false
def req (K : Int) : Int := if K = 2 then 1 else if K = 3 then 2 else if K = 4 then 2 else if K = 5 then 4 else 0
/-- The error code of the kinds of a rule's leaves. -/
def tyC (K : Int) (ks : List Int) : Int := if ks.all (perm K) then (if (K ≠ 1 ∧ ks.any (fun a => a == req K) = false) ∨ (K = 5 ∧ ks.length ≠ 1) then 9 else 0) else 8
def ksOf (L : List BR) (l : List Int) : List Int := l.map fun x => (rd_T30 L x).f0
def tcode (L : List BR) (i : Nat) : Int := if kdR L i = 6 then (if (inp L i).length = 0 then 9 else 0) else tyC (kdR L i) (ksOf L (fl L.length (under L i)))
def formC (L : List BR) (i : Nat) : Int := if ¬ (1 ≤ kdR L i ∧ kdR L i ≤ 6) then 4 else if 8 < (inp L i).length then 2 else inC i (inp L i) (inp L i).length 0
def code (L : List BR) (i : Nat) : Int := if formC L i ≠ 0 then formC L i else tcode L i
theorem form_ev (L : List BR) (hN : L.length ≤ 30) (i : Nat) (hi : i < L.length) : Ev (fun k => rules_form.f k L i) (formC L i) := by
  have loop : ∀ K, (inp L i).length ≤ 8 → ∀ d j, (inp L i).length - j = d → j ≤ (inp L i).length → Ev (fun k => rules_form.l0 k i (inp L i) ((inp L i).length : Int) j K (inp L i)) (inC i (inp L i) d j) := by
    intro K h8 d
    induction d with
    | zero =>
      intro j hd hj
      refine Ev.of_succ ?_
      simp only [rules_form.l0, show ¬ (j : Int) < ((inp L i).length : Int) from by omega, ↓reduceIte]
      exact Ev.const _
    | succ d ih =>
      intro j hd hj
      refine Ev.of_succ ?_
      simp only [rules_form.l0, show (j : Int) < ((inp L i).length : Int) from by omega, show (0 : Int) ≤ (j : Int) from by omega, ↓reduceIte]
      unfold inC
      by_cases c1 : rd (inp L i) j < 0
      · simp only [c1, ↓reduceIte]
        rw [if_pos (by omega)]
        refine Ev.of_succ ?_
        simp only [rules_form.j2, ↓reduceIte]
        exact Ev.const _
      · simp only [c1, ↓reduceIte]
        refine Ev.of_succ ?_
        by_cases c2 : rd (inp L i) j ≥ i
        · simp only [rules_form.j2, c2, decide_true, ↓reduceIte]
          rw [if_pos (by omega)]
          exact Ev.const _
        · simp only [rules_form.j2, c2, decide_false, ↓reduceIte, Bool.false_eq_true]
          rw [if_neg (by omega)]
          have hn := ih (j + 1) (by omega) (by omega)
          rw [wrap_up j (by omega)]
          by_cases c3 : (j : Int) > 0
          · have e : wrap64 ((j : Int) - 1) = ((j - 1 : Nat) : Int) := by rw [wrap_lt (by omega) (by omega)]; omega
            simp only [c3, e, show (0 : Int) ≤ ((j - 1 : Nat) : Int) from by omega, show ((j - 1 : Nat) : Int) < ((inp L i).length : Int) from by omega, ↓reduceIte]
            by_cases c4 : rd (inp L i) j ≤ rd (inp L i) ((j - 1 : Nat) : Int)
            · simp only [c4, ↓reduceIte]
              rw [if_pos ⟨by omega, trivial⟩]
              exact Ev.const _
            · simp only [c4, ↓reduceIte]
              rw [if_neg (by simp)]
              exact hn
          · simp only [c3, ↓reduceIte]
            rw [if_neg (by omega)]
            exact hn
  unfold rules_form.f formC
  simp only [show (0 : Int) ≤ (i : Int) from by omega, show (i : Int) < (L.length : Int) from by omega, ↓reduceIte]
  by_cases c1 : kdR L i < 1
  · simp only [c1, ↓reduceIte]
    rw [if_pos (by omega)]
    refine Ev.of_succ ?_
    simp only [rules_form.j0, ↓reduceIte]
    exact Ev.const _
  · simp only [c1, ↓reduceIte]
    refine Ev.of_succ ?_
    by_cases c2 : kdR L i > 6
    · simp only [rules_form.j0, c2, decide_true, ↓reduceIte]
      rw [if_pos (by omega)]
      exact Ev.const _
    · simp only [rules_form.j0, c2, decide_false, ↓reduceIte, Bool.false_eq_true]
      rw [if_neg (by omega)]
      by_cases c3 : ((inp L i).length : Int) > 8
      · simp only [c3, ↓reduceIte]
        rw [if_pos (by omega)]
        exact Ev.const _
      · simp only [c3, ↓reduceIte]
        rw [if_neg (by omega)]
        exact loop _ (by omega) _ 0 rfl (Nat.zero_le _)
theorem index_ev (l : List Int) (a : Int) (hl : l.length ≤ 100) : Ev (fun k => slices_Contains_int_int.f k l a) (decide (a ∈ l)) := by
  have loop : ∀ d j, l.length - j = d → j ≤ l.length → ∃ r, Ev (fun k => slices_Index_int_int.l0 k l a (l.length : Int) j) r ∧ (decide (r ≥ 0) = decide (a ∈ l.drop j)) := by
    intro d
    induction d with
    | zero =>
      intro j hd hj
      refine ⟨-1, Ev.of_succ ?_, ?_⟩
      · simp only [slices_Index_int_int.l0, show ¬ (j : Int) < (l.length : Int) from by omega, ↓reduceIte]
        exact Ev.const _
      · rw [List.drop_eq_nil_of_le (by omega)]; simp
    | succ d ih =>
      intro j hd hj
      have hjl : j < l.length := by omega
      obtain ⟨r, h1, h2⟩ := ih (j + 1) (by omega) (by omega)
      by_cases c : a = rd l j
      · refine ⟨j, Ev.of_succ ?_, ?_⟩
        · simp only [slices_Index_int_int.l0, show (j : Int) < (l.length : Int) from by omega, show (0 : Int) ≤ (j : Int) from by omega, ↓reduceIte]
          rw [← c]
          simp only [↓reduceIte]
          exact Ev.const _
        · rw [List.drop_eq_getElem_cons hjl, ← rd_get _ _ hjl, ← c]
          simp
      · refine ⟨r, Ev.of_succ ?_, ?_⟩
        · simp only [slices_Index_int_int.l0, show (j : Int) < (l.length : Int) from by omega, show (0 : Int) ≤ (j : Int) from by omega, c, ↓reduceIte]
          rw [wrap_up j (by omega)]
          exact h1
        · rw [h2, List.drop_eq_getElem_cons hjl, ← rd_get _ _ hjl]
          simp [c]
  obtain ⟨r, h1, h2⟩ := loop _ 0 rfl (Nat.zero_le _)
  unfold slices_Contains_int_int.f slices_Index_int_int.f
  refine Ev.bind h1 ?_
  rw [h2]
  exact Ev.const _
end Bu
end Go.Proofs.YtffcaglfcnmhdaaDoor.H
end
section
namespace Go.Proofs.YtffcaglfcnmhdaaDoor.H
open Go.RowKit Go.Proofs.YtffcaglfcnmhdaaDoorW.PrintWords Go.Proofs.YtffcaglfcnmhdaaDoorW.PrintLast Go.Proofs.YtffcaglfcnmhdaaDoorW.PrintMore
set_option linter.unusedVariables false
set_option linter.unusedSimpArgs false
namespace Bu
theorem rd_ext {l : List Int} {x : Int} (hx : x ∈ l) : ∃ j : Nat, j < l.length ∧ rd l (j : Int) = x := by
  obtain ⟨j, hj, e⟩ := List.mem_iff_getElem.1 hx
  exact ⟨j, hj, by rw [rd_get _ _ hj, e]⟩
theorem ty_loop (L : List BR) (hN : L.length ≤ 30) (l may : List Int) (must : Int) (one : Bool) (hl : l.length ≤ 30) (hr : ∀ x ∈ l, 0 ≤ x ∧ x < L.length) (hmay : may.length ≤ 100) :
    ∀ d j (found : Bool), l.length - j = d → j ≤ l.length → Ev (fun k => rules_typed.l0 k L l found l (l.length : Int) j may must one)
      (if (ksOf L (l.drop j)).all (fun a => decide (a ∈ may)) then (if (found || (ksOf L (l.drop j)).any (· == must)) = false ∨ (one = true ∧ l.length ≠ 1) then 9 else 0) else 8) := by
  intro d
  induction d with
  | zero =>
    intro j found hd hj
    refine Ev.of_succ ?_
    rw [List.drop_eq_nil_of_le (by omega)]
    simp only [rules_typed.l0, show ¬ (j : Int) < (l.length : Int) from by omega, ↓reduceIte, ksOf, List.map_nil, List.all_nil, List.any_nil, Bool.or_false]
    by_cases h1 : found = true
    · by_cases h2 : one = true
      · by_cases h3 : l.length = 1
        · simp only [h1, h2, h3, ↓reduceIte, show ((1 : Nat) : Int) = 1 from rfl, ne_eq, not_true_eq_false, and_false, Bool.true_eq_false, or_self]
          exact Ev.const _
        · have h4 : ¬ (l.length : Int) = 1 := by omega
          simp only [h1, h2, h3, h4, ↓reduceIte, ne_eq, not_false_eq_true, and_self, or_true]
          exact Ev.const _
      · simp only [h1, h2, ↓reduceIte, Bool.false_eq_true, false_and, Bool.true_eq_false, or_self]
        exact Ev.const _
    · simp only [h1, ↓reduceIte, Bool.false_eq_true]
      rw [if_pos (.inl trivial)]
      exact Ev.const _
  | succ d ih =>
    intro j found hd hj
    refine Ev.of_succ ?_
    have hjl : j < l.length := by omega
    have hm := hr _ (List.getElem_mem hjl)
    rw [← rd_get _ _ hjl] at hm
    have ek : ksOf L (l.drop j) = (rd_T30 L (rd l (j : Int))).f0 :: ksOf L (l.drop (j + 1)) := by
      rw [List.drop_eq_getElem_cons hjl, ← rd_get _ _ hjl]; rfl
    rw [ek, List.all_cons, List.any_cons]
    simp only [rules_typed.l0, show (j : Int) < (l.length : Int) from by omega, show (0 : Int) ≤ (j : Int) from by omega, hm.1, hm.2, ↓reduceIte]
    refine Ev.bind (index_ev may _ hmay) ?_
    by_cases c : (rd_T30 L (rd l (j : Int))).f0 ∈ may
    · simp only [decide_eq_true c, Bool.true_and, ↓reduceIte]
      rw [wrap_up j (by omega)]
      by_cases hf : found = true
      · simp only [hf, ↓reduceIte, Bool.true_or]
        have := ih (j + 1) true (by omega) (by omega)
        simp only [Bool.true_or] at this
        exact this
      · have hf' : found = false := by simpa using hf
        simp only [hf', ↓reduceIte, Bool.false_or, Bool.false_eq_true]
        exact ih (j + 1) _ (by omega) (by omega)
    · simp only [decide_eq_false c, Bool.false_and, ↓reduceIte, Bool.false_eq_true]
      exact Ev.const _
theorem fl_range (L : List BR) (q : Nat → Bool) : ∀ x ∈ fl L.length q, 0 ≤ x ∧ x < L.length := fun x hx => by
  obtain ⟨k, h1, _, rfl⟩ := mem_fl.1 hx
  omega
theorem ksOf_len (L : List BR) (l : List Int) : (ksOf L l).length = l.length := by simp [ksOf]
theorem all_congr' {α : Type} {l : List α} {p q : α → Bool} (h : ∀ x ∈ l, p x = q x) : l.all p = l.all q := by
  induction l with
  | nil => rfl
  | cons a l ih => rw [List.all_cons, List.all_cons, h a (by simp), ih (fun x hx => h x (by simp [hx]))]
theorem typed_ev (L : List BR) (hN : L.length ≤ 30) (i : Nat) (hi : i < L.length) (h : Ins L (i + 1)) (k1 : 1 ≤ kdR L i) (k6 : kdR L i ≤ 6) : Ev (fun k => rules_typed.f k L i) (tcode L i) := by
  unfold rules_typed.f tcode
  simp only [show (0 : Int) ≤ (i : Int) from by omega, show (i : Int) < (L.length : Int) from by omega, ↓reduceIte]
  by_cases h6 : kdR L i = 6
  · simp only [h6, ↓reduceIte]
    by_cases h0 : (inp L i).length = 0
    · simp only [h0, ↓reduceIte, show ((0 : Nat) : Int) = 0 from rfl]
      exact Ev.const _
    · have : ¬ ((inp L i).length : Int) = 0 := by omega
      simp only [h0, this, ↓reduceIte]
      exact Ev.const _
  · simp only [h6, show (0 : Int) ≤ kdR L i from by omega, show kdR L i < 7 from by omega, ↓reduceIte]
    refine Ev.bind (inputs_ev L hN (by omega : i + 1 ≤ L.length) h i (by omega)) ?_
    have hl := fl_length L.length (under L i)
    have hr := fl_range L (under L i)
    generalize fl L.length (under L i) = l at *
    have main : ∀ (may : List Int) (must : Int) (one : Bool) (K : Int), may.length ≤ 100 → (∀ a, perm K a = decide (a ∈ may)) → req K = must → (must = 0 ↔ K = 1) → (one = true ↔ K = 5) →
        Ev (fun k => rules_typed.l0 k L l (must == 0) l (l.length : Int) 0 may must one) (tyC K (ksOf L l)) := fun may must one K hm e1 e2 e3 e4 => by
      have := ty_loop L hN l may must one (by omega) hr hm _ 0 (must == 0) rfl (Nat.zero_le _)
      rw [List.drop_zero] at this
      refine Ev.cast this ?_
      unfold tyC
      rw [e2, ksOf_len, all_congr' (fun a _ => (e1 a).symm)]
      have e5 : ((must == 0 || (ksOf L l).any (· == must)) = false ∨ (one = true ∧ l.length ≠ 1)) ↔ ((K ≠ 1 ∧ (ksOf L l).any (fun a => a == must) = false) ∨ (K = 5 ∧ l.length ≠ 1)) := by
        rw [e4, Bool.or_eq_false_iff, beq_eq_false_iff_ne, ne_eq, e3]
      by_cases c : (ksOf L l).all (perm K) = true
      · rw [if_pos c, if_pos c]
        by_cases c2 : (K ≠ 1 ∧ (ksOf L l).any (fun a => a == must) = false) ∨ (K = 5 ∧ l.length ≠ 1)
        · rw [if_pos c2, if_pos (e5.2 c2)]
        · rw [if_neg c2, if_neg (fun h => c2 (e5.1 h))]
      · rw [if_neg c, if_neg c]
    have hK : kdR L i = 1 ∨ kdR L i = 2 ∨ kdR L i = 3 ∨ kdR L i = 4 ∨ kdR L i = 5 := by omega
    rcases hK with e | e | e | e | e
    · simp only [kdR] at e ⊢
      rw [e]
      exact main [] 0 false 1 (by decide) (fun a => by rw [Bool.eq_iff_iff]; simp [perm]) rfl (by decide) (by decide)
    · simp only [kdR] at e ⊢
      rw [e]
      exact main [1, 3] 1 false 2 (by decide) (fun a => by rw [Bool.eq_iff_iff]; simp [perm]) rfl (by decide) (by decide)
    · simp only [kdR] at e ⊢
      rw [e]
      exact main [2] 2 false 3 (by decide) (fun a => by rw [Bool.eq_iff_iff]; simp [perm]) rfl (by decide) (by decide)
    · simp only [kdR] at e ⊢
      rw [e]
      exact main [2, 3] 2 false 4 (by decide) (fun a => by rw [Bool.eq_iff_iff]; simp [perm]) rfl (by decide) (by decide)
    · simp only [kdR] at e ⊢
      rw [e]
      exact main [4] 4 true 5 (by decide) (fun a => by rw [Bool.eq_iff_iff]; simp [perm]) rfl (by decide) (by decide)
theorem rd_take (L : List BR) (n j : Nat) (h : j < n) : rd_T30 (L.take n) (j : Int) = rd_T30 L (j : Int) := by
  unfold rd_T30
  rw [List.getD_eq_getElem?_getD, List.getD_eq_getElem?_getD, List.getElem?_take, if_pos (by omega)]
theorem Ins.take {L : List BR} {n m : Nat} (h : Ins L m) (hm : m ≤ n) : Ins (L.take n) m := by
  refine ⟨fun i hi => ?_, fun i hi => ?_⟩
  · unfold inp; rw [rd_take L n i (by omega)]; exact h.len i hi
  · unfold inp; rw [rd_take L n i (by omega)]; exact h.lt i hi
theorem under_lt {L : List BR} {m i k : Nat} (h : Ins L m) (hi : i < m) (hk : under L i k = true) : k < i ∧ kdR L k ≠ 6 := by
  obtain ⟨x, hx, hl⟩ := List.any_eq_true.1 hk
  have := h.lt i hi x hx
  have := leaf_kd h k _ (by omega) hl
  exact ⟨by omega, this.1⟩
theorem formC_ok {L : List BR} {i : Nat} (h : formC L i = 0) : 1 ≤ kdR L i ∧ kdR L i ≤ 6 ∧ (inp L i).length ≤ 8 ∧ (∀ x ∈ inp L i, 0 ≤ x ∧ x < (i : Int)) ∧ (∀ a : Nat, 0 < a → a < (inp L i).length → rd (inp L i) ((a - 1 : Nat) : Int) < rd (inp L i) (a : Int)) := by
  unfold formC at h
  by_cases c1 : ¬ (1 ≤ kdR L i ∧ kdR L i ≤ 6)
  · rw [if_pos c1] at h; omega
  rw [if_neg c1] at h
  by_cases c2 : 8 < (inp L i).length
  · rw [if_pos c2] at h; omega
  rw [if_neg c2] at h
  obtain ⟨h1, h2⟩ := inC_ok _ _ h
  refine ⟨by omega, by omega, by omega, fun x hx => ?_, fun a ha hb => h2 a (by omega) (by omega) ha⟩
  obtain ⟨j, hj, rfl⟩ := rd_ext hx
  exact h1 j (by omega) (by omega)
theorem Ins.next {L : List BR} {i : Nat} (h : Ins L i) (hf : formC L i = 0) : Ins L (i + 1) := by
  obtain ⟨_, _, h8, hx, _⟩ := formC_ok hf
  refine ⟨fun j hj => ?_, fun j hj => ?_⟩
  · by_cases e : j = i
    · subst e; exact h8
    · exact h.len j (by omega)
  · by_cases e : j = i
    · subst e; exact hx
    · exact h.lt j (by omega)
/-- The codes from rule i on. -/
def vFrom (L : List BR) : Nat → Nat → Int × Int
  | 0, _ => (0, 0)
  | d + 1, i => if code L i = 0 then vFrom L d (i + 1) else (code L i, i)
def vf (L : List BR) : Int × Int := if 30 < L.length then (2, -1) else vFrom L L.length 0
theorem code_form {L : List BR} {i : Nat} (h : code L i = 0) : formC L i = 0 ∧ tcode L i = 0 := by
  unfold code at h
  by_cases c : formC L i ≠ 0
  · rw [if_pos c] at h; exact absurd h c
  · rw [if_neg c] at h; exact ⟨Decidable.not_not.1 c, h⟩
theorem Validate_ev (L : List BR) : Ev (fun k => rules_Validate.f k L) (vf L) := by
  unfold rules_Validate.f vf
  by_cases h30 : (L.length : Int) > 30
  · rw [if_pos (by omega)]
    simp only [h30, ↓reduceIte]
    exact Ev.const _
  rw [if_neg (by omega)]
  simp only [h30, ↓reduceIte]
  have loop : ∀ d i, L.length - i = d → i ≤ L.length → Ins L i → Ev (fun k => rules_Validate.l0 k L (L.length : Int) i) (vFrom L d i) := by
    intro d
    induction d with
    | zero =>
      intro i hd hi _
      refine Ev.of_succ ?_
      simp only [rules_Validate.l0, show ¬ (i : Int) < (L.length : Int) from by omega, ↓reduceIte]
      exact Ev.const _
    | succ d ih =>
      intro i hd hi hI
      refine Ev.of_succ ?_
      simp only [rules_Validate.l0, show (i : Int) < (L.length : Int) from by omega, ↓reduceIte]
      refine Ev.bind (form_ev L (by omega) i (by omega)) ?_
      unfold vFrom
      by_cases hf : formC L i = 0
      · simp only [hf, ↓reduceIte]
        have hI' := hI.next hf
        obtain ⟨k1, k6, _⟩ := formC_ok hf
        refine Ev.bind (typed_ev L (by omega) i (by omega) hI' k1 k6) ?_
        have hc : code L i = tcode L i := by unfold code; rw [if_neg (not_not_intro hf)]
        rw [hc]
        by_cases ht : tcode L i = 0
        · simp only [ht, ↓reduceIte]
          rw [wrap_up i (by omega)]
          exact ih (i + 1) (by omega) (by omega) hI'
        · simp only [ht, ↓reduceIte]
          exact Ev.const _
      · simp only [hf, ↓reduceIte]
        have hc : code L i = formC L i := by unfold code; rw [if_pos hf]
        rw [hc, if_neg hf]
        exact Ev.const _
  exact loop _ 0 rfl (Nat.zero_le _) ⟨fun i hi => by omega, fun i hi => by omega⟩
end Bu
end Go.Proofs.YtffcaglfcnmhdaaDoor.H
end
section
namespace Go.Proofs.YtffcaglfcnmhdaaDoor.H
open Go.RowKit Go.Proofs.YtffcaglfcnmhdaaDoorW.PrintWords Go.Proofs.YtffcaglfcnmhdaaDoorW.PrintLast Go.Proofs.YtffcaglfcnmhdaaDoorW.PrintMore
set_option linter.unusedVariables false
set_option linter.unusedSimpArgs false
namespace Bu
/-- A valid list of rules. -/
structure Ok (L : List BR) : Prop where
  len : L.length ≤ 30
  code : ∀ i, i < L.length → code L i = 0
theorem Ok.form {L : List BR} (h : Ok L) {i : Nat} (hi : i < L.length) : formC L i = 0 := (code_form (h.code i hi)).1
theorem Ok.ins {L : List BR} (h : Ok L) : Ins L L.length := by
  refine ⟨fun i hi => (formC_ok (h.form hi)).2.2.1, fun i hi => (formC_ok (h.form hi)).2.2.2.1⟩
theorem vFrom_ok (L : List BR) : ∀ d i, L.length - i = d → i ≤ L.length → (vFrom L d i).1 = 0 → vFrom L d i = (0, 0) ∧ ∀ j, i ≤ j → j < L.length → code L j = 0
  | 0, i, hd, hi, _ => ⟨rfl, fun j h1 h2 => by omega⟩
  | d + 1, i, hd, hi, h => by
    unfold vFrom at h ⊢
    by_cases hc : code L i = 0
    · rw [if_pos hc] at h ⊢
      obtain ⟨h1, h2⟩ := vFrom_ok L d (i + 1) (by omega) (by omega) h
      refine ⟨h1, fun j ha hb => ?_⟩
      by_cases e : j = i
      · subst e; exact hc
      · exact h2 j (by omega) hb
    · rw [if_neg hc] at h; exact absurd h hc
theorem vf_ok {L : List BR} (h : (vf L).1 = 0) : vf L = (0, 0) ∧ Ok L := by
  unfold vf at h ⊢
  by_cases h30 : 30 < L.length
  · rw [if_pos h30] at h; simp at h
  rw [if_neg h30] at h ⊢
  obtain ⟨h1, h2⟩ := vFrom_ok L _ 0 rfl (Nat.zero_le _) h
  exact ⟨h1, ⟨by omega, fun i hi => h2 i (Nat.zero_le _) hi⟩⟩
theorem vFrom_zero (L : List BR) : ∀ d i, (∀ j, i ≤ j → j < i + d → code L j = 0) → vFrom L d i = (0, 0)
  | 0, i, _ => rfl
  | d + 1, i, h => by
    unfold vFrom
    rw [if_pos (h i (by omega) (by omega))]
    exact vFrom_zero L d (i + 1) (fun j ha hb => h j (by omega) (by omega))
theorem Ok.vf {L : List BR} (h : Ok L) : vf L = (0, 0) := by
  unfold Go.Proofs.YtffcaglfcnmhdaaDoor.H.Bu.vf
  rw [if_neg (by have := h.len; omega)]
  exact vFrom_zero L _ 0 (fun j _ hj => h.code j (by omega))
/-- No group. -/
abbrev ng (L : List BR) (k : Nat) : Bool := kdR L k != 6
def pos (L : List BR) (i : Nat) : Nat := (fl i (ng L)).length
theorem pos_succ (L : List BR) (i : Nat) : pos L (i + 1) = pos L i + if ng L i then 1 else 0 := by
  unfold pos
  rw [fl_succ]
  by_cases h : ng L i = true
  · rw [if_pos h, if_pos h, List.length_append]; rfl
  · rw [if_neg h, if_neg h]; rfl
theorem pos_le (L : List BR) (i : Nat) : pos L i ≤ i := fl_length i _
abbrev BS := S36
def stepI (L : List BR) (l : List Int) : List Int := l.map fun x => (pos L x.toNat : Int)
def exS (L : List BR) (i : Nat) : BS := ⟨(i : Int), kdR L i, stepI L (fl L.length (under L i))⟩
/-- The steps of the rules below n. -/
def expF (L : List BR) (n : Nat) : List BS := ((List.range n).filter (ng L)).map (exS L)
theorem expF_succ (L : List BR) (n : Nat) : expF L (n + 1) = if ng L n then expF L n ++ [exS L n] else expF L n := by
  unfold expF
  rw [List.range_succ, List.filter_append, List.map_append]
  by_cases h : ng L n <;> simp [h]
theorem expF_length (L : List BR) (n : Nat) : (expF L n).length = pos L n := by unfold expF pos fl; rw [List.length_map, List.length_map]
theorem rd_set (l : List Int) (i j : Nat) (x : Int) (h : i < l.length) : rd (l.set i x) j = if i = j then x else rd l j := by
  simp only [rd, Int.toNat_natCast, List.getD_eq_getElem?_getD, List.getElem?_set]
  by_cases h1 : i = j
  · subst h1; simp [h]
  · simp [h1]
theorem Expand_ev (L : List BR) : Ev (fun k => rules_Expand.f k L) (if (vf L).1 ≠ 0 then ([], vf L) else (expF L L.length, 0, 0)) := by
  unfold rules_Expand.f
  refine Ev.bind (Validate_ev L) ?_
  by_cases hc : (vf L).1 = 0
  · obtain ⟨hv, hok⟩ := vf_ok hc
    have hN := hok.len
    rw [hv]
    simp only [beq_self_eq_true, Bool.not_true, Bool.or_self, Bool.false_eq_true, ↓reduceIte, ne_eq, not_true_eq_false, show (0 : Int) ≤ (L.length : Int) from by omega, Int.toNat_natCast, show L.length ≤ 35184372088832 from by omega]
    have l1 : ∀ (x5 : List BS) (A : List Int) (i : Nat) (K : Int) (l : List Int), x5.length ≤ 30 → l.length ≤ 30 → (∀ x ∈ l, 0 ≤ x ∧ x < A.length ∧ rd A x = (pos L x.toNat : Int)) → i < 100 → ∀ d j (acc : List Int), l.length - j = d → j ≤ l.length → acc.length ≤ j → ∀ v,
        Ev (fun k => rules_Expand.l0 k L (x5 ++ [⟨i, K, acc ++ stepI L (l.drop j)⟩]) A L (L.length : Int) ((i + 1 : Nat) : Int)) v → Ev (fun k => rules_Expand.l1 k L x5 A L (L.length : Int) i l (l.length : Int) j i K acc) v := by
      intro x5 A i K l h5 hl hA hi d
      induction d with
      | zero =>
        intro j acc hd hj hacc v hv
        refine Ev.of_succ ?_
        simp only [rules_Expand.l1, show ¬ (j : Int) < (l.length : Int) from by omega, show x5.length < 3518437208883 from by omega, ↓reduceIte]
        rw [wrap_up i (by omega)]
        rw [List.drop_eq_nil_of_le (by omega)] at hv
        simp only [stepI, List.map_nil, List.append_nil] at hv
        exact hv
      | succ d ih =>
        intro j acc hd hj hacc v hv
        refine Ev.of_succ ?_
        have hjl : j < l.length := by omega
        have hm := hA _ (List.getElem_mem hjl)
        rw [← rd_get _ _ hjl] at hm
        simp only [rules_Expand.l1, show (j : Int) < (l.length : Int) from by omega, show (0 : Int) ≤ (j : Int) from by omega, hm.1, hm.2.1, hm.2.2, show acc.length < 17592186044416 from by omega, ↓reduceIte]
        rw [wrap_up j (by omega)]
        refine ih (j + 1) _ (by omega) (by omega) (by rw [List.length_append, List.length_singleton]; omega) v ?_
        rw [List.append_assoc]
        have e : stepI L (l.drop j) = (pos L (rd l (j : Int)).toNat : Int) :: stepI L (l.drop (j + 1)) := by
          rw [List.drop_eq_getElem_cons hjl, ← rd_get _ _ hjl]; rfl
        rw [e] at hv
        exact hv
    have loop : ∀ d i (A : List Int), L.length - i = d → i ≤ L.length → A.length = L.length → (∀ k : Nat, k < i → kdR L k ≠ 6 → rd A (k : Int) = (pos L k : Int)) → Ev (fun k => rules_Expand.l0 k L (expF L i) A L (L.length : Int) i) (expF L L.length, 0, 0) := by
      intro d
      induction d with
      | zero =>
        intro i A hd hi _ _
        obtain rfl : i = L.length := by omega
        refine Ev.of_succ ?_
        simp only [rules_Expand.l0, Int.lt_irrefl, ↓reduceIte]
        exact Ev.const _
      | succ d ih =>
        intro i A hd hi hAl hA
        refine Ev.of_succ ?_
        simp only [rules_Expand.l0, show (i : Int) < (L.length : Int) from by omega, show (0 : Int) ≤ (i : Int) from by omega, ↓reduceIte]
        by_cases h6 : kdR L i = 6
        · simp only [h6, ↓reduceIte]
          rw [wrap_up i (by omega)]
          have := ih (i + 1) A (by omega) (by omega) hAl (fun k hk hk6 => by
            by_cases e : k = i
            · subst e; exact absurd h6 hk6
            · exact hA k (by omega) hk6)
          rw [expF_succ, if_neg (by simp [ng, h6])] at this
          exact this
        · simp only [h6, hAl, show (i : Int) < (L.length : Int) from by omega, ↓reduceIte, Int.toNat_natCast]
          refine Ev.bind (inputs_ev L hN (Nat.le_refl _) hok.ins i (by omega)) ?_
          have hle := fl_length L.length (under L i)
          have hpl := pos_le L i
          have hset : ∀ k : Nat, k < i + 1 → kdR L k ≠ 6 → rd (A.set i ((expF L i).length : Int)) (k : Int) = (pos L k : Int) := fun k hk hk6 => by
            rw [rd_set _ _ _ _ (by omega)]
            by_cases e : i = k
            · rw [if_pos e, expF_length, e]
            · rw [if_neg e]; exact hA k (by omega) hk6
          refine l1 (expF L i) _ i (kdR L i) _ (by rw [expF_length]; omega) (by omega) (fun x hx => ?_) (by omega) _ 0 [] rfl (Nat.zero_le _) (Nat.le_refl _) _ ?_
          · obtain ⟨k, h1, h2, rfl⟩ := mem_fl.1 hx
            obtain ⟨h3, h4⟩ := under_lt hok.ins (by omega) h2
            refine ⟨by omega, by rw [List.length_set]; omega, ?_⟩
            rw [hset k (by omega) h4, Int.toNat_natCast]
          · have := ih (i + 1) (A.set i ((expF L i).length : Int)) (by omega) (by omega) (by rw [List.length_set]; exact hAl) hset
            rw [expF_succ, if_pos (by simp [ng, h6])] at this
            exact this
    exact loop _ 0 _ rfl (Nat.zero_le _) (by simp) (fun k hk => by omega)
  · rw [if_pos hc]
    simp only [show ((vf L).1 == 0) = false from beq_eq_false_iff_ne.2 hc, Bool.not_false, Bool.true_or, ↓reduceIte]
    exact Ev.const _
end Bu
end Go.Proofs.YtffcaglfcnmhdaaDoor.H
end
section
namespace Go.Proofs.YtffcaglfcnmhdaaDoor.H
open Go.RowKit Go.Proofs.YtffcaglfcnmhdaaDoorW.PrintWords Go.Proofs.YtffcaglfcnmhdaaDoorW.PrintLast Go.Proofs.YtffcaglfcnmhdaaDoorW.PrintMore
set_option linter.unusedVariables false
set_option linter.unusedSimpArgs false
namespace Bu
theorem pos_mono (L : List BR) {a b : Nat} (h : a ≤ b) : pos L a ≤ pos L b := by
  induction h with
  | refl => exact Nat.le_refl _
  | step _ ih => exact Nat.le_trans ih (by rw [pos_succ]; omega)
theorem pos_lt (L : List BR) {a b : Nat} (h : a < b) (ha : ng L a = true) : pos L a < pos L b := by
  have := pos_mono L (show a + 1 ≤ b from h)
  rw [pos_succ, if_pos ha] at this
  omega
theorem expF_at (L : List BR) (m : Nat) (hm : ng L m = true) : ∀ n, m < n → (expF L n)[pos L m]? = some (exS L m)
  | 0, h => by omega
  | n + 1, h => by
    rw [expF_succ]
    by_cases e : m = n
    · subst e
      rw [if_pos hm, ← expF_length L m, List.getElem?_append_right (Nat.le_refl _)]
      simp
    · have ih := expF_at L m hm n (by omega)
      by_cases hn : ng L n = true
      · rw [if_pos hn, List.getElem?_append_left (by rw [expF_length]; exact pos_lt L (by omega) hm)]
        exact ih
      · rw [if_neg hn]; exact ih
theorem expF_of (L : List BR) : ∀ n i, i < pos L n → ∃ r, r < n ∧ ng L r = true ∧ pos L r = i
  | 0, i, h => by simp [pos, fl_zero] at h
  | n + 1, i, h => by
    rw [pos_succ] at h
    by_cases hi : i < pos L n
    · obtain ⟨r, h1, h2, h3⟩ := expF_of L n i hi
      exact ⟨r, by omega, h2, h3⟩
    · by_cases hn : ng L n = true
      · rw [if_pos hn] at h
        exact ⟨n, by omega, hn, by omega⟩
      · rw [if_neg hn] at h; omega
theorem rd_step (X : List BS) (i : Nat) {s : BS} (h : X[i]? = some s) : rd_T36 X (i : Int) = s := by
  simp [rd_T36, List.getD_eq_getElem?_getD, h]
theorem fl_sorted (n : Nat) (q : Nat → Bool) : (fl n q).Pairwise (· < ·) := by
  unfold fl
  rw [List.pairwise_map]
  refine List.Pairwise.imp (fun h => ?_) (List.Pairwise.filter q List.pairwise_lt_range)
  exact Int.ofNat_lt.2 h
/-- The list of the inputs of the step of rule r. -/
abbrev ins (L : List BR) (r : Nat) : List Int := stepI L (fl L.length (under L r))
theorem ins_sorted {L : List BR} (hok : Ok L) {r : Nat} (hr : r < L.length) : (ins L r).Pairwise (· < ·) := by
  unfold ins stepI
  rw [List.pairwise_map]
  have := fl_sorted L.length (under L r)
  refine List.Pairwise.imp_of_mem (fun ha hb h => ?_) this
  obtain ⟨a, _, h2, rfl⟩ := mem_fl.1 ha
  obtain ⟨b, _, h4, rfl⟩ := mem_fl.1 hb
  rw [Int.toNat_natCast, Int.toNat_natCast]
  exact Int.ofNat_lt.2 (pos_lt L (by omega) (bne_iff_ne.2 (under_lt hok.ins hr h2).2))
theorem ins_mem {L : List BR} (hok : Ok L) {r : Nat} (hr : r < L.length) {x : Int} (hx : x ∈ ins L r) : ∃ m : Nat, m < r ∧ ng L m = true ∧ under L r m = true ∧ x = (pos L m : Int) := by
  unfold ins stepI at hx
  obtain ⟨y, hy, rfl⟩ := List.mem_map.1 hx
  obtain ⟨m, h1, h2, rfl⟩ := mem_fl.1 hy
  obtain ⟨h3, h4⟩ := under_lt hok.ins hr h2
  exact ⟨m, h3, bne_iff_ne.2 h4, h2, by rw [Int.toNat_natCast]⟩
theorem ins_len (L : List BR) (r : Nat) : (ins L r).length = (fl L.length (under L r)).length := by unfold ins stepI; rw [List.length_map]
/-- What the validity of rule r says of its leaves. -/
theorem typed_of {L : List BR} (hok : Ok L) {r : Nat} (hr : r < L.length) (h6 : kdR L r ≠ 6) :
    (1 ≤ kdR L r ∧ kdR L r ≤ 5) ∧ (∀ m : Nat, m < L.length → under L r m = true → perm (kdR L r) (kdR L m) = true) ∧ (kdR L r ≠ 1 → 0 < (ins L r).length) ∧ (kdR L r = 5 → (ins L r).length = 1) ∧ (kdR L r = 1 → (ins L r).length = 0) := by
  obtain ⟨hf, ht⟩ := code_form (hok.code r hr)
  obtain ⟨k1, k6, _⟩ := formC_ok hf
  unfold tcode at ht
  rw [if_neg h6] at ht
  unfold tyC at ht
  by_cases ha : (ksOf L (fl L.length (under L r))).all (perm (kdR L r)) = true
  · rw [if_pos ha] at ht
    have hp : ∀ m : Nat, m < L.length → under L r m = true → perm (kdR L r) (kdR L m) = true := fun m hm hu => by
      rw [List.all_eq_true] at ha
      exact ha _ (List.mem_map.2 ⟨(m : Int), mem_fl.2 ⟨m, hm, hu, rfl⟩, rfl⟩)
    by_cases hc : (kdR L r ≠ 1 ∧ (ksOf L (fl L.length (under L r))).any (fun a => a == req (kdR L r)) = false) ∨ (kdR L r = 5 ∧ (ksOf L (fl L.length (under L r))).length ≠ 1)
    · rw [if_pos hc] at ht; omega
    · rw [ksOf_len] at hc
      refine ⟨by omega, hp, fun h1 => ?_, fun h5 => ?_, fun h1 => ?_⟩
      · rw [ins_len]
        rcases Nat.eq_zero_or_pos (fl L.length (under L r)).length with h | h
        · refine absurd (.inl ⟨h1, ?_⟩) hc
          rw [List.eq_nil_of_length_eq_zero h]
          rfl
        · exact h
      · rw [ins_len]
        exact Decidable.not_not.1 fun h => hc (.inr ⟨h5, h⟩)
      · rw [ins_len]
        rcases Nat.eq_zero_or_pos (fl L.length (under L r)).length with h | h
        · exact h
        · obtain ⟨m, hm, hu, _⟩ := mem_fl.1 (List.getElem_mem h)
          have := hp m hm hu
          rw [h1] at this
          simp [perm] at this
  · rw [if_neg ha] at ht; omega
end Bu
end Go.Proofs.YtffcaglfcnmhdaaDoor.H
end
section
namespace Go.Proofs.YtffcaglfcnmhdaaDoor.H
open Go.RowKit Go.Proofs.YtffcaglfcnmhdaaDoorW.PrintWords Go.Proofs.YtffcaglfcnmhdaaDoorW.PrintLast Go.Proofs.YtffcaglfcnmhdaaDoorW.PrintMore
set_option linter.unusedVariables false
set_option linter.unusedSimpArgs false
open Go.RowKit
theorem gl_all (N : Nat) : ∀ (t : List (List Int)) (i : Nat), (∀ l ∈ t, lc N none l = 0) → gl N i t = (0, 0)
  | [], _, _ => rfl
  | l :: t, i, h => by
    unfold gl
    rw [if_pos (h l (by simp))]
    exact gl_all N t (i + 1) (fun x hx => h x (by simp [hx]))
theorem adj_mem {g : List (List Int)} {l : List Int} (h : l ∈ g) : ∃ i, i < g.length ∧ adj g i = l := by
  obtain ⟨i, hi, e⟩ := List.mem_iff_getElem.1 h
  exact ⟨i, hi, by rw [← e]; simp [rd_L1, List.getD_eq_getElem?_getD, hi]⟩
theorem val_gf {g : List (List Int)} (h : Val g) : gf g = (0, 0) := by
  unfold gf
  rw [if_neg (by have := h.le; omega)]
  refine gl_all _ _ _ fun l hl => ?_
  obtain ⟨i, hi, e⟩ := adj_mem hl
  exact good_lc _ _ _ (e ▸ h.ok i hi) (fun y hy => by cases hy)
/-- A graph whose edges lead to earlier nodes alone. -/
theorem down_rch {g : List (List Int)} (hd : ∀ i j, E g i j → j < i) : ∀ (d i j : Nat), Wk g (d + 1) i j → j < i
  | 0, i, j, ⟨m, e, h⟩ => by cases h; exact hd _ _ e
  | d + 1, i, j, ⟨m, e, h⟩ => by have := hd _ _ e; have := down_rch hd d m j h; omega
theorem grd_id {g : List (List Int)} (hd : ∀ i j, E g i j → j < i) : ∀ n, n ≤ g.length → Grd g (tl n fun i => (i : Int))
  | 0, _ => .nil
  | n + 1, h => by
    have hm : ∀ k n : Nat, (k : Int) ∈ (tl n fun i => (i : Int)) ↔ k < n := fun k n => by
      unfold tl
      rw [List.mem_map]
      exact ⟨fun ⟨a, h1, h2⟩ => by have := List.mem_range.1 h1; omega, fun h => ⟨k, List.mem_range.2 h, rfl⟩⟩
    rw [← tl_snoc]
    refine .snoc (grd_id hd n (by omega)) ⟨by omega, ⟨decide_eq_false (fun h => by have := (hm n n).1 h; omega), fun m e => decide_eq_true ((hm m n).2 (hd n m e))⟩, fun y _ ha => ?_⟩
    have h1 := of_decide_eq_false ha.1
    rw [hm] at h1
    omega
theorem ev_one : Ev (fun k => rules_Expand.f k (([(⟨1, ([] : List Int)⟩ : S30)] : List (S30)))) ([(⟨0, 1, []⟩ : S36)], 0, 0) := Ev.of_mono (fun k => rules_Expand.mono _ k) (k := 40) (by kernel_rfl)
theorem ev_ord : Ev (fun k => depgraph_Order.f k (([[]] : List (List Int)))) ([0], 0, 0) := Ev.of_mono (fun k => depgraph_Order.mono _ k) (k := 40) (by kernel_rfl)
/-- A graph of the steps. -/
theorem tb_loop {L : List Bu.BR} (hok : Bu.Ok L) (X : List (S36)) (hXl : X.length = Bu.pos L L.length) (hX24 : X.length ≤ 24) (at_ : ∀ r, r < L.length → Bu.ng L r = true → rd_T36 X (Bu.pos L r : Int) = Bu.exS L r) :
    Ev (fun k => changeforgetop_TopBuildStepsAreOrdered.l0 k X [] [] 0) true := by
  have hat : ∀ i, i < X.length → ∃ r, r < L.length ∧ Bu.ng L r = true ∧ Bu.pos L r = i ∧ rd_T36 X (i : Int) = Bu.exS L r := fun i hi => by
    obtain ⟨r, hr, hg, e⟩ := Bu.expF_of L L.length i (by omega)
    exact ⟨r, hr, hg, e, by rw [← e]; exact at_ r hr hg⟩
  -- the graph
  have hG : ∃ G : List (List Int), G = tl X.length (fun i => (rd_T36 X (i : Int)).f2) := ⟨_, rfl⟩
  obtain ⟨G, hG⟩ := hG
  have hGl : G.length = X.length := by rw [hG, tl_length]
  have hadj : ∀ i, i < X.length → adj G i = (rd_T36 X (i : Int)).f2 := fun i hi => by rw [hG]; exact tl_rd_L1 _ _ _ hi
  have hmem : ∀ i, i < X.length → ∀ x ∈ adj G i, 0 ≤ x ∧ x < (i : Int) := fun i hi x hx => by
    obtain ⟨r, hr, hg, e, ea⟩ := hat i hi
    rw [hadj i hi, ea] at hx
    obtain ⟨m, h1, h2, _, h4⟩ := Bu.ins_mem hok hr (x := x) hx
    have := Bu.pos_lt L h1 h2
    omega
  have hv : Val G := ⟨by omega, fun i hi => ⟨fun x hx => by have := hmem i (by omega) x hx; omega, by
    obtain ⟨r, hr, hg, e, ea⟩ := hat i (by omega)
    rw [hadj i (by omega), ea]
    exact Bu.ins_sorted hok hr⟩⟩
  have hd : ∀ i j, E G i j → j < i := fun i j h => by have := hmem i (by have := h.1; omega) _ h.2; omega
  have hac : ∀ i, i < G.length → ¬ Rch G i i := fun i _ ⟨d, h1, h2⟩ => by
    obtain ⟨d, rfl⟩ : ∃ e, d = e + 1 := ⟨d - 1, by omega⟩
    have := down_rch hd d i i h2
    omega
  have hgl : ∀ x ∈ G, x.length ≤ 9223372036854775807 := fun x hx => by
    obtain ⟨i, hi, rfl⟩ := adj_mem hx
    have := hv.len hi
    omega
  have hgf := val_gf hv
  -- the way from the order on
  have fin : Ev (fun k => changeforgetop_TopBuildStepsAreOrdered.l0 k X G (tl X.length fun i => (i : Int)) (X.length : Int)) true := by
    refine Ev.of_succ ?_
    simp only [changeforgetop_TopBuildStepsAreOrdered.l0, show ¬ (X.length : Int) < (X.length : Int) from by omega, ↓reduceIte]
    rcases Levels_ev hgl with ⟨h0, _⟩ | ⟨_, s, hf, _⟩ | ⟨h0, hf, P, Lv, hP, hPl, hL, ho, hlv⟩
    · rw [hgf] at h0; exact absurd rfl h0
    · rcases hf with ⟨h, _⟩ | ⟨i, hi, _, hr, _⟩
      · omega
      · exact absurd hr (hac i hi)
    · have hid := grd_id hd G.length (Nat.le_refl _)
      obtain rfl : P = tl G.length fun i => (i : Int) := hP.uniq hid (by rw [tl_length]; exact hPl)
      refine Ev.bind ho (Ev.bind hlv ?_)
      simp only [↓reduceIte]
      rw [hGl]
      refine Ev.bind (Ints_ev (by rw [tl_length]; omega)) ?_
      simp only [↓reduceIte, tl_length, bne_self_eq_false]
      refine Ev.of_succ ?_
      simp only [changeforgetop_TopBuildStepsAreOrdered.j3, Bool.false_eq_true, ↓reduceIte]
      have loop : ∀ d i : Nat, X.length - i = d → i ≤ X.length → Ev (fun k => changeforgetop_TopBuildStepsAreOrdered.l1 k X (tl X.length fun a => (Lv a : Int)) (i : Int)) true := by
        intro d
        induction d with
        | zero =>
          intro i he hi
          refine Ev.of_succ ?_
          simp only [changeforgetop_TopBuildStepsAreOrdered.l1, show ¬ (i : Int) < (X.length : Int) from by omega, ↓reduceIte]
          exact Ev.const _
        | succ d ih =>
          intro i he hi
          have hil : i < X.length := by omega
          have hn := ih (i + 1) (by omega) hil
          obtain ⟨r, hr, hg, e, ea⟩ := hat i hil
          obtain ⟨_, _, t1, _, t0⟩ := Bu.typed_of hok hr (bne_iff_ne.1 hg)
          have hai : adj G i = Bu.ins L r := by rw [hadj i hil, ea]; rfl
          refine Ev.of_succ ?_
          simp only [changeforgetop_TopBuildStepsAreOrdered.l1, show (i : Int) < (X.length : Int) from by omega, show (0 : Int) ≤ (i : Int) from by omega, tl_length, tl_rd _ _ _ hil, ea, Bu.exS, ↓reduceIte, wrap_up i (by omega)]
          by_cases h1 : Bu.kdR L r = 1
          · have h2 : Lv i = 0 := by
              rcases hL.here i (by omega) with h | ⟨m, hm, _⟩
              · exact h
              · have := hm.2
                rw [hai, List.eq_nil_of_length_eq_zero (t0 h1)] at this
                simp at this
            simp only [h1, h2, Int.natCast_zero, ↓reduceIte]
            exact hn
          · have h2 : ¬ (Lv i : Int) < 1 := by
              have h3 := t1 h1
              rw [← hai] at h3
              obtain ⟨y, hy, _, _, hey⟩ := hv.adj_get (i := i) (by omega) h3
              have := hL.up i y hey
              omega
            simp only [h1, h2, ↓reduceIte]
            exact hn
      exact loop _ 0 rfl (by omega)
  have loop : ∀ d i : Nat, X.length - i = d → i ≤ X.length → Ev (fun k => changeforgetop_TopBuildStepsAreOrdered.l0 k X (tl i (fun i => (rd_T36 X (i : Int)).f2)) (tl i fun i => (i : Int)) (i : Int)) true := by
    intro d
    induction d with
    | zero =>
      intro i he hi
      obtain rfl : i = X.length := by omega
      rw [← hG]
      exact fin
    | succ d ih =>
      intro i he hi
      have hn := ih (i + 1) (by omega) (by omega)
      rw [← tl_snoc, ← tl_snoc] at hn
      refine Ev.of_succ ?_
      simp only [changeforgetop_TopBuildStepsAreOrdered.l0, show (i : Int) < (X.length : Int) from by omega, show (0 : Int) ≤ (i : Int) from by omega, tl_length, show i < 5864062014805 from by omega, show i < 17592186044416 from by omega, ↓reduceIte, wrap_up i (by omega)]
      exact hn
  exact loop _ 0 rfl (Nat.zero_le _)
theorem pf_TopBuildStepsAreOrdered : changeforgetop_TopBuildStepsAreOrdered.Pure := by
  intro L _ _
  refine Ev.run ?_
  simp only [changeforgetop_TopBuildStepsAreOrdered.f]
  refine Ev.bind ev_one (Ev.bind ev_ord ?_)
  simp only [↓reduceIte, List.length_singleton, show (((1 : Nat) : Int) = 1) = True from by simp]
  refine Ev.bind (Ints_ev (by simp)) ?_
  refine Ev.of_succ ?_
  simp only [changeforgetop_TopBuildStepsAreOrdered.j0, Bool.not_true, Bool.false_eq_true, ↓reduceIte]
  refine Ev.bind (Bu.Expand_ev L) ?_
  by_cases hc : (Bu.vf L).1 = 0
  · obtain ⟨hv, hok⟩ := Bu.vf_ok hc
    simp only [hv, ne_eq, not_true_eq_false, ↓reduceIte]
    refine Ev.of_succ ?_
    by_cases h24 : ((Bu.expF L L.length).length : Int) > 24
    · simp only [changeforgetop_TopBuildStepsAreOrdered.j1, decide_eq_true h24, ↓reduceIte]
      exact Ev.const _
    · simp only [changeforgetop_TopBuildStepsAreOrdered.j1, decide_eq_false h24, Bool.false_eq_true, ↓reduceIte]
      exact tb_loop hok _ (Bu.expF_length L _) (by omega) (fun r hr hg => Bu.rd_step _ _ (Bu.expF_at L r hg _ hr))
  · simp only [hc, ne_eq, not_false_eq_true, ↓reduceIte]
    refine Ev.of_succ ?_
    simp only [changeforgetop_TopBuildStepsAreOrdered.j1, hc, ↓reduceIte, List.length_nil]
    exact Ev.const _
end Go.Proofs.YtffcaglfcnmhdaaDoor.H
end
