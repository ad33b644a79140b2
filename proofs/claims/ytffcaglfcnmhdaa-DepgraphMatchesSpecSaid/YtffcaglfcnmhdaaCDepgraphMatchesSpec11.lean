/- Texts that the law DepgraphMatchesSpec comes to, printed and by hand, what is not used left out. -/
import Derived.Test.YtffcaglfcnmhdaaCDepgraphMatchesSpec10
import Derived.Deep.Slices
import Derived.ProofKit
import Derived.SizedLaws
import Derived.OpenShut
section
namespace Go.Proofs.Ytffcaglfcnmhdaa.H
open Go.RowKit Go.Proofs.YtffcaglfcnmhdaaW.PrintWords Go.Proofs.YtffcaglfcnmhdaaW.PrintLast Go.Proofs.YtffcaglfcnmhdaaW.PrintMore
set_option linter.unusedVariables false
set_option linter.unusedSimpArgs false
open Go.Deep
/-- What reads as data at type t has d's shape; F is what is then known of the value. -/
structure Opens {α : Type} (P : Program) (d : Kd α) (F : α → Prop) (t : TypeId) : Prop where
  size : P.cellsOf t = d.sz
  get : ∀ {H : Type} {enc : TypeId × Value → H} {w : World} {base : Nat} {spare : Nat → Bool} {held : Bool} {fuel : Nat} {cs : List Value} {x : DataW H × List MemPlace},
    DataW.trod enc P w base spare held fuel t cs = some x → ∃ v : α, d.K w v cs ∧ F v
theorem opens_int {P : Program} {t : TypeId} {k : IntKind} (hu : P.underlying t = some (.int k)) (hc : P.cellsOf t = 1) : Opens P (Kd.int k) (fun n => (Lit.int k n).wf = true) t :=
  ⟨hc, fun h => by
    obtain ⟨n, rfl, _, hw⟩ := DataW.trod_int hu h
    exact ⟨n, rfl, hw⟩⟩
theorem list_of {α : Type} (Q : Nat → α → Prop) : ∀ n : Nat, (∀ i, i < n → ∃ v, Q i v) → ∃ l : List α, l.length = n ∧ ∀ i v, l[i]? = some v → Q i v
  | 0, _ => ⟨[], rfl, fun i v h => by simp at h⟩
  | n + 1, h => by
    obtain ⟨l, hl, hq⟩ := list_of Q n (fun i hi => h i (by omega))
    obtain ⟨v, hv⟩ := h n (by omega)
    refine ⟨l ++ [v], by simp [hl], fun i u hu => ?_⟩
    rcases Nat.lt_or_ge i l.length with hi | hi
    · rw [List.getElem?_append_left hi] at hu
      exact hq i u hu
    · have hi' : i = n := by
        have := (List.getElem?_eq_some_iff.1 hu).1
        simp at this
        omega
      subst hi'
      have : v = u := by simpa [hl] using hu
      subst this
      exact hv
theorem opens_slice {α : Type} {P : Program} {d : Kd α} {F : α → Prop} {t e : TypeId} (hd : Opens P d F e) (hu : P.underlying t = some (.slice e)) (hc : P.cellsOf t = 1) :
    Opens P (Kd.slice e d) (fun l => l.length ≤ 9223372036854775807 ∧ ∀ x ∈ l, F x) t :=
  ⟨hc, fun {H enc w base spare held fuel cs x} h => by
    rcases open_slice hu h with ⟨rfl, _⟩ | ⟨a, len, cap, m, n, D, Pl, rfl, _, hl, hm, hmm, _, hx⟩
    · exact ⟨[], ⟨none, 0, rfl, Nat.le_refl _, Kd.C_nil _ _⟩, by simp⟩
    · unfold maxLen at hm
      have hlm : len ≤ m := by rw [hmm]; split <;> omega
      obtain ⟨l, hll, hq⟩ := list_of (fun i v => ∃ c, w.cells? base (a.add (i * P.cellsOf e)) (P.cellsOf e) = some c ∧ d.K w v c ∧ F v) len (fun i hi => by
        obtain ⟨c, h1, h2⟩ := hx i (by omega)
        obtain ⟨v, h3, h4⟩ := hd.get h2
        exact ⟨v, c, h1, h3, h4⟩)
      refine ⟨l, ⟨some a, cap, by rw [hll], by omega, rfl, by omega, fun _ => ⟨a, rfl, fun j p hj => ?_⟩⟩, by omega, fun v hv => ?_⟩
      · obtain ⟨c, h1, h2, _⟩ := hq j p hj
        refine ⟨c, d.K_len h2, h2, fun i u hi => ?_⟩
        have h5 := World.cells?_some h1
        have hlen : c.length = P.cellsOf e := by rw [d.K_len h2, hd.size]
        have hi' : i < P.cellsOf e := by rw [← hlen]; exact (List.getElem?_eq_some_iff.1 hi).1
        have ha : (a.add (j * d.sz + i)) = (a.add (j * P.cellsOf e)).add i := by
          rw [hd.size]
          unfold Addr.add
          by_cases h1 : j * d.sz = 0 <;> by_cases h2 : i = 0 <;> simp [h1, h2, Nat.add_assoc]
        rw [ha]
        obtain ⟨_, h6, h7⟩ := h5
        have h8 := h7 i hi'
        rw [hi] at h8
        exact h8
      · obtain ⟨i, hi⟩ := List.mem_iff_getElem?.1 hv
        obtain ⟨c, _, _, h3⟩ := hq i v hi
        exact h3⟩
/-- How long a slice that came in may be. -/
theorem sized_any {H : Type} {enc : TypeId × Value → H} {P : Program} {W : World} {base : Nat} {spare : Nat → Bool} {held : Bool} {t e : TypeId} {a : Option Addr} {len cap : Nat} {d : DataW H} {ps : List MemPlace} {ts : List TypeId} {ds : List (DataW H)} {j : Nat}
    (hsz : (DataW.weightsEach P ts ds).all (· ≤ reachBytes) = true) (ht : ts[j]? = some t) (hd : ds[j]? = some d) (hu : P.underlying t = some (.slice e)) {B : Nat} (hB : P.bytesOf e = B)
    (h : DataW.Trod enc P W base spare held t (.slice a len cap) d ps) : len * B ≤ 140737488351232 := by
  obtain ⟨fuel, hf⟩ := h
  rcases open_slice hu hf with ⟨hcs, _⟩ | ⟨a', len', cap', m, n, D, Pl, hcs, _, hl, hm, hmm, hx, _⟩
  · simp [Value.cells] at hcs
    obtain ⟨rfl, rfl, rfl⟩ := hcs
    simp
  · simp [Value.cells] at hcs
    obtain ⟨rfl, rfl, rfl⟩ := hcs
    obtain ⟨hx, _⟩ := Prod.mk.inj hx
    subst hx
    have z := sized_slice hsz ht hd hu
    rw [hB] at z
    simp only [List.length_map, List.length_range] at z
    exact Nat.le_trans (Nat.mul_le_mul_right _ (Nat.le_add_right _ _)) z

end Go.Proofs.Ytffcaglfcnmhdaa.H
end
section
namespace Go.Proofs.Ytffcaglfcnmhdaa.H
open Go.RowKit Go.Proofs.YtffcaglfcnmhdaaW.PrintWords Go.Proofs.YtffcaglfcnmhdaaW.PrintLast Go.Proofs.YtffcaglfcnmhdaaW.PrintMore
set_option linter.unusedVariables false
set_option linter.unusedSimpArgs false
def changeforgelaw6_DepgraphMatchesSpec.Pure : Prop := ∀ (l0 : List (List Int)) (l1 : List Int), (l0.length ≤ 9223372036854775807 ∧ ∀ x_ ∈ l0, x_.length ≤ 9223372036854775807 ∧ ∀ x__ ∈ x_, (Lit.int .i64 x__).wf = true) → l0.length * 24 ≤ 140737488351232 → (l1.length ≤ 9223372036854775807 ∧ ∀ x_ ∈ l1, (Lit.int .i64 x_).wf = true) → l1.length * 8 ≤ 140737488351232 → ∃ k, changeforgelaw6_DepgraphMatchesSpec.f k l0 l1 = some true
end Go.Proofs.Ytffcaglfcnmhdaa.H
end
section
namespace Go.Proofs.Ytffcaglfcnmhdaa.H
open Go.RowKit Go.Proofs.YtffcaglfcnmhdaaW.PrintWords Go.Proofs.YtffcaglfcnmhdaaW.PrintLast Go.Proofs.YtffcaglfcnmhdaaW.PrintMore
set_option linter.unusedVariables false
set_option linter.unusedSimpArgs false
open Go.RowKit
/-- From some number of rounds on the answer is v. -/
def Ev {α : Type} (f : Nat → Option α) (v : α) : Prop := ∃ K, ∀ k, K ≤ k → f k = some v
theorem Ev.const {α : Type} (v : α) : Ev (fun _ => some v) v := ⟨0, fun _ _ => rfl⟩
theorem Ev.of_succ {α : Type} {f : Nat → Option α} {v : α} (h : Ev (fun k => f (k + 1)) v) : Ev f v := by
  obtain ⟨K, h⟩ := h
  exact ⟨K + 1, fun k hk => by obtain ⟨m, rfl⟩ : ∃ m, k = m + 1 := ⟨k - 1, by omega⟩; exact h m (by omega)⟩
theorem Ev.bind {α β : Type} {f : Nat → Option α} {g : Nat → α → Option β} {a : α} {b : β} (h : Ev f a) (h2 : Ev (fun k => g k a) b) : Ev (fun k => (f k).bind (g k)) b := by
  obtain ⟨K, h⟩ := h
  obtain ⟨M, h2⟩ := h2
  exact ⟨K + M, fun k hk => by show (f k).bind (g k) = some b; rw [h k (by omega)]; exact h2 k (by omega)⟩
theorem Ev.cast {α : Type} {f : Nat → Option α} {v v' : α} (h : Ev f v) (e : v = v') : Ev f v' := e ▸ h
theorem Ev.run {α : Type} {f : Nat → Option α} {v : α} (h : Ev f v) : ∃ k, f k = some v := by
  obtain ⟨K, h⟩ := h
  exact ⟨K, h K (Nat.le_refl _)⟩
theorem Ev.of_mono {α : Type} {f : Nat → Option α} {v : α} (hm : ∀ k, LeO (f k) (f (k + 1))) {k : Nat} (h : f k = some v) : Ev f v := by
  refine ⟨k, fun m hk => ?_⟩
  induction m with
  | zero => obtain rfl : k = 0 := by omega
            exact h
  | succ m ih =>
    by_cases e : k = m + 1
    · rw [← e]; exact h
    · exact hm m v (ih (by omega))
theorem wrap_lt {x : Int} (h0 : -9223372036854775808 ≤ x) (h1 : x < 9223372036854775808) : wrap64 x = x := by unfold wrap64; omega
theorem wrap_up (i : Nat) (h : i < 9223372036854775807) : wrap64 ((i : Int) + 1) = ((i + 1 : Nat) : Int) := by rw [wrap_lt (by omega) (by omega)]; omega
theorem rd_get (l : List Int) (j : Nat) (h : j < l.length) : rd l (j : Int) = l[j] := by simp [rd, List.getD_eq_getElem?_getD, h]
/-- A list of N values. -/
def tl {α : Type} (N : Nat) (q : Nat → α) : List α := (List.range N).map q
@[simp] theorem tl_length {α : Type} (N : Nat) (q : Nat → α) : (tl N q).length = N := by simp [tl]
theorem tl_get {α : Type} (d : α) (N : Nat) (q : Nat → α) (i : Nat) (h : i < N) : (tl N q).getD i d = q i := by
  simp [tl, List.getD_eq_getElem?_getD, h]
theorem tl_rd (N : Nat) (q : Nat → Int) (i : Nat) (h : i < N) : rd (tl N q) (i : Int) = q i := tl_get 0 N q i h
theorem tl_rdOf {α : Type} (d : α) (N : Nat) (q : Nat → α) (i : Nat) (h : i < N) : rdOf d (tl N q) (i : Int) = q i := tl_get d N q i h
theorem tl_rd_L1 (N : Nat) (q : Nat → List Int) (i : Nat) (h : i < N) : rd_L1 (tl N q) (i : Int) = q i := tl_get [] N q i h
theorem tl_congr {α : Type} {N : Nat} {p q : Nat → α} (h : ∀ i, i < N → p i = q i) : tl N p = tl N q := List.map_congr_left fun i hi => h i (List.mem_range.1 hi)
theorem tl_set {α : Type} (N : Nat) (q : Nat → α) (i : Nat) (b : α) : (tl N q).set i b = tl N (fun k => if k = i then b else q k) := by
  refine List.ext_getElem? fun j => ?_
  unfold tl
  rw [List.getElem?_set, List.getElem?_map, List.getElem?_map]
  by_cases hj : j < N
  · rw [List.getElem?_range hj]
    by_cases h : i = j
    · subst h; simp [hj]
    · have h' : ¬ j = i := fun h2 => h h2.symm
      simp [h, h']
  · rw [List.getElem?_eq_none (by simpa using hj : (List.range N).length ≤ j)]
    by_cases h : i = j
    · subst h; simp [hj]
    · simp [h]
theorem tl_const {α : Type} (N : Nat) (b : α) : List.replicate N b = tl N (fun _ => b) := by
  unfold tl
  rw [List.map_const']
  simp
theorem tl_snoc {α : Type} (N : Nat) (q : Nat → α) : tl N q ++ [q N] = tl (N + 1) q := by
  unfold tl
  rw [List.range_succ, List.map_append]
  rfl
abbrev adj (g : List (List Int)) (i : Nat) : List Int := rd_L1 g (i : Int)
/-- Nodes of a graph of N, strictly upwards. -/
structure Good (N : Nat) (l : List Int) : Prop where
  rng : ∀ x ∈ l, 0 ≤ x ∧ x < (N : Int)
  inc : l.Pairwise (· < ·)
structure Val (g : List (List Int)) : Prop where
  le : g.length ≤ 24
  ok : ∀ i, i < g.length → Good g.length (adj g i)
/-- An edge. -/
def E (g : List (List Int)) (i j : Nat) : Prop := i < g.length ∧ (j : Int) ∈ adj g i
instance (g : List (List Int)) (i j : Nat) : Decidable (E g i j) := inferInstanceAs (Decidable (_ ∧ _))
theorem E.lt {g : List (List Int)} (h : Val g) {i j : Nat} (e : E g i j) : i < g.length ∧ j < g.length := by
  have := (h.ok i e.1).rng _ e.2
  exact ⟨e.1, by omega⟩
theorem inc_le : ∀ (l : List Int), l.Pairwise (· < ·) → ∀ (a b : Int), (∀ x ∈ l, a ≤ x ∧ x < b) → a ≤ b → (l.length : Int) ≤ b - a
  | [], _, a, b, _, hab => by simp; omega
  | y :: l, hp, a, b, hr, hab => by
    have hy := hr y (by simp)
    rw [List.pairwise_cons] at hp
    have := inc_le l hp.2 (y + 1) b (fun x hx => ⟨by have := hp.1 x hx; omega, (hr x (by simp [hx])).2⟩) (by omega)
    rw [List.length_cons]
    omega
theorem Good.len {N : Nat} {l : List Int} (h : Good N l) : l.length ≤ N := by
  have := inc_le l h.inc 0 N h.rng (by omega)
  omega
/-- A walk of d edges. -/
def Wk (g : List (List Int)) : Nat → Nat → Nat → Prop
  | 0, i, j => i = j
  | d + 1, i, j => ∃ m, E g i m ∧ Wk g d m j
theorem Wk.trans {g : List (List Int)} : ∀ {a b i j k : Nat}, Wk g a i j → Wk g b j k → Wk g (a + b) i k
  | 0, b, i, j, k, h, h2 => by cases h; rw [Nat.zero_add]; exact h2
  | a + 1, b, i, j, k, ⟨m, e, h⟩, h2 => by rw [show a + 1 + b = (a + b) + 1 from by omega]; exact ⟨m, e, h.trans h2⟩
theorem Wk.one {g : List (List Int)} {i j : Nat} (e : E g i j) : Wk g 1 i j := ⟨j, e, rfl⟩
/-- A way of at least one edge. -/
def Rch (g : List (List Int)) (i j : Nat) : Prop := ∃ d, 1 ≤ d ∧ Wk g d i j
theorem Rch.one {g : List (List Int)} {i j : Nat} (e : E g i j) : Rch g i j := ⟨1, Nat.le_refl _, Wk.one e⟩
theorem Rch.trans {g : List (List Int)} {i j k : Nat} (h : Rch g i j) (h2 : Rch g j k) : Rch g i k := by
  obtain ⟨a, ha, h⟩ := h
  obtain ⟨b, hb, h2⟩ := h2
  exact ⟨a + b, by omega, h.trans h2⟩
theorem Rch.fst {g : List (List Int)} {i j : Nat} (h : Rch g i j) : ∃ m, E g i m ∧ (m = j ∨ Rch g m j) := by
  obtain ⟨a, ha, h⟩ := h
  obtain ⟨b, rfl⟩ : ∃ b, a = b + 1 := ⟨a - 1, by omega⟩
  obtain ⟨m, e, h⟩ := h
  refine ⟨m, e, ?_⟩
  by_cases hb : b = 0
  · subst hb; exact .inl h
  · exact .inr ⟨b, by omega, h⟩
theorem Rch.lst {g : List (List Int)} : ∀ {d i j : Nat}, Wk g (d + 1) i j → E g i j ∨ ∃ m, Rch g i m ∧ E g m j
  | 0, i, j, ⟨m, e, h⟩ => by cases h; exact .inl e
  | d + 1, i, j, ⟨m, e, h⟩ => by
    rcases Rch.lst h with h | ⟨q, h, e2⟩
    · exact .inr ⟨m, Rch.one e, h⟩
    · exact .inr ⟨q, (Rch.one e).trans h, e2⟩
theorem Rch.lt {g : List (List Int)} (hv : Val g) {i j : Nat} (h : Rch g i j) : i < g.length ∧ j < g.length := by
  obtain ⟨m, e, _⟩ := h.fst
  obtain ⟨a, ha, h⟩ := h
  obtain ⟨b, rfl⟩ : ∃ b, a = b + 1 := ⟨a - 1, by omega⟩
  rcases Rch.lst h with h | ⟨q, _, e2⟩
  · exact h.lt hv
  · exact ⟨e.1, (e2.lt hv).2⟩
/-- The least d ≥ 1 so that there is a walk of d edges. -/
def Hit (g : List (List Int)) (d i j : Nat) : Prop := 1 ≤ d ∧ Wk g d i j ∧ ∀ e, 1 ≤ e → e < d → ¬ Wk g e i j
theorem Hit.uniq {g : List (List Int)} {d e i j : Nat} (h : Hit g d i j) (h2 : Hit g e i j) : d = e := by
  rcases Nat.lt_trichotomy d e with hlt | heq | hgt
  · exact absurd h.2.1 (h2.2.2 d h.1 hlt)
  · exact heq
  · exact absurd h2.2.1 (h.2.2 e h2.1 hgt)
theorem Rch.hit {g : List (List Int)} {i j : Nat} (h : Rch g i j) : ∃ d, Hit g d i j := by
  obtain ⟨d, hd, h⟩ := h
  induction d using Nat.strongRecOn with
  | _ d ih =>
    by_cases hc : ∃ e, 1 ≤ e ∧ e < d ∧ Wk g e i j
    · obtain ⟨e, h1, h2, h3⟩ := hc
      exact ih e h2 h1 h3
    · exact ⟨d, hd, h, fun e h1 h2 h3 => hc ⟨e, h1, h2, h3⟩⟩
theorem Hit.rch {g : List (List Int)} {d i j : Nat} (h : Hit g d i j) : Rch g i j := ⟨d, h.1, h.2.1⟩
theorem Hit.next {g : List (List Int)} {d i j : Nat} (h : Hit g (d + 1) i j) (hd : 1 ≤ d) : ∃ m, E g i m ∧ m ≠ j ∧ Hit g d m j := by
  obtain ⟨_, ⟨m, e, hw⟩, hmin⟩ := h
  refine ⟨m, e, ?_, hd, hw, fun f h1 h2 h3 => hmin (f + 1) (by omega) (by omega) ⟨m, e, h3⟩⟩
  rintro rfl
  exact hmin 1 (Nat.le_refl _) (by omega) (Wk.one e)
theorem hole : ∀ (N : Nat) (f : Nat → Nat) (d : Nat), (∀ e, e < d → f e < N) → (∀ a b, a < d → b < d → f a = f b → a = b) → d ≤ N
  | 0, f, d, h, _ => by
    apply Classical.byContradiction
    intro hd
    have := h 0 (by omega)
    omega
  | N + 1, f, d, h, hi => by
    by_cases hc : ∃ e, e < d ∧ f e = N
    · obtain ⟨e, he, hf⟩ := hc
      have := hole N (fun a => f (if a < e then a else a + 1)) (d - 1) (fun a ha => by
        have h1 := h (if a < e then a else a + 1) (by split <;> omega)
        have h2 : f (if a < e then a else a + 1) ≠ N := fun h3 => by
          have := hi _ _ (by split <;> omega) he (h3.trans hf.symm)
          split at this <;> omega
        show f _ < N
        omega) (fun a b ha hb hab => by
        have := hi _ _ (by split <;> omega) (by split <;> omega) hab
        split at this <;> split at this <;> omega)
      omega
    · have := hole N f d (fun e he => by
        have h1 := h e he
        have h2 : f e ≠ N := fun h3 => hc ⟨e, he, h3⟩
        omega) hi
      omega
theorem Hit.down {g : List (List Int)} (hv : Val g) {i j : Nat} : ∀ {d : Nat}, Hit g d i j → ∀ e, 1 ≤ e → e ≤ d → ∃ m, m < g.length ∧ Hit g e m j := by
  intro d
  induction d generalizing i with
  | zero => intro h; exact absurd h.1 (by omega)
  | succ d ih =>
    intro h e h1 h2
    by_cases he : e = d + 1
    · subst he
      exact ⟨i, (h.rch.lt hv).1, h⟩
    · obtain ⟨m, _, _, hm⟩ := h.next (by omega)
      exact ih hm e h1 (by omega)
/-- A shortest way has no more edges than there are nodes. -/
theorem Hit.le {g : List (List Int)} (hv : Val g) {d i j : Nat} (h : Hit g d i j) : d ≤ g.length := by
  have hx : ∀ e, ∃ m, e < d → m < g.length ∧ Hit g (e + 1) m j := fun e => by
    by_cases he : e < d
    · obtain ⟨m, h1, h2⟩ := h.down hv (e + 1) (by omega) (by omega)
      exact ⟨m, fun _ => ⟨h1, h2⟩⟩
    · exact ⟨0, fun h' => absurd h' he⟩
  refine hole g.length (fun e => Classical.choose (hx e)) d (fun e he => (Classical.choose_spec (hx e) he).1) (fun a b ha hb hab => ?_)
  have h1 := (Classical.choose_spec (hx a) ha).2
  have h2 := (Classical.choose_spec (hx b) hb).2
  rw [hab] at h1
  have := h1.uniq h2
  omega
end Go.Proofs.Ytffcaglfcnmhdaa.H
end
section
namespace Go.Proofs.Ytffcaglfcnmhdaa.H
open Go.RowKit Go.Proofs.YtffcaglfcnmhdaaW.PrintWords Go.Proofs.YtffcaglfcnmhdaaW.PrintLast Go.Proofs.YtffcaglfcnmhdaaW.PrintMore
set_option linter.unusedVariables false
set_option linter.unusedSimpArgs false
open Go.RowKit
theorem Val.adj_get {g : List (List Int)} (h : Val g) {i j : Nat} (hi : i < g.length) (hj : j < (adj g i).length) : ∃ x : Nat, x < g.length ∧ rd (adj g i) (j : Int) = (x : Int) ∧ (adj g i)[j] = (x : Int) ∧ E g i x := by
  have := (h.ok i hi).rng _ (List.getElem_mem hj)
  exact ⟨(adj g i)[j].toNat, by omega, by rw [rd_get _ _ hj]; omega, by omega, hi, by rw [show (((adj g i)[j].toNat : Nat) : Int) = (adj g i)[j] from by omega]; exact List.getElem_mem hj⟩
theorem Val.len {g : List (List Int)} (h : Val g) {i : Nat} (hi : i < g.length) : (adj g i).length ≤ 24 := by
  have := (h.ok i hi).len
  have := h.le
  omega
/-- Unmarked ones below N. -/
def um (N : Nat) (q : Nat → Bool) : Nat := ((List.range N).filter (fun i => !q i)).length
theorem um_set : ∀ (N : Nat) (q : Nat → Bool) (i : Nat), i < N → q i = false → um N q = um N (fun k => if k = i then true else q k) + 1
  | 0, q, i, hi, _ => by omega
  | N + 1, q, i, hi, hq => by
    unfold um
    rw [List.range_succ, List.filter_append, List.filter_append, List.length_append, List.length_append]
    by_cases he : i = N
    · subst he
      have : (List.range i).filter (fun k => !(if k = i then true else q k)) = (List.range i).filter (fun k => !q k) := by
        refine List.filter_congr fun k hk => ?_
        rw [if_neg (by have := List.mem_range.1 hk; omega)]
      rw [this]
      simp [hq]
    · have := um_set N q i (by omega) hq
      unfold um at this
      have hN : List.filter (fun k => !(if k = i then true else q k)) [N] = List.filter (fun k => !q k) [N] := by
        refine List.filter_congr fun k hk => ?_
        rw [if_neg (by have := List.mem_singleton.1 hk; omega)]
      rw [hN, this]
      omega
theorem um_le (N : Nat) (q : Nat → Bool) : um N q ≤ N := by
  unfold um
  exact Nat.le_trans (List.length_filter_le _ _) (by simp)
/-- What reach's loop keeps: all marked and all in the queue can be reached; what is marked or is the start has its neighbours marked or queued. -/
structure Line (g : List (List Int)) (s : Nat) (q : Nat → Bool) (ln : List Int) : Prop where
  mkd : ∀ i, i < g.length → q i = true → Rch g s i
  qu : ∀ x ∈ ln, 0 ≤ x ∧ x < (g.length : Int) ∧ Rch g s x.toNat
  st : ∀ j, E g s j → q j = true ∨ (j : Int) ∈ ln
  cl : ∀ i j, i < g.length → q i = true → E g i j → q j = true ∨ (j : Int) ∈ ln
theorem Wk.snoc {g : List (List Int)} : ∀ {d i j : Nat}, Wk g (d + 1) i j → ∃ m, Wk g d i m ∧ E g m j
  | 0, i, j, ⟨m, e, h⟩ => by cases h; exact ⟨i, rfl, e⟩
  | d + 1, i, j, ⟨m, e, h⟩ => by
    obtain ⟨m', h, e'⟩ := Wk.snoc h
    exact ⟨m', ⟨m, e, h⟩, e'⟩
theorem Line.done {g : List (List Int)} (hv : Val g) {s : Nat} {q : Nat → Bool} (h : Line g s q []) (i : Nat) (hi : i < g.length) : q i = true ↔ Rch g s i := by
  refine ⟨h.mkd i hi, ?_⟩
  rintro ⟨d, hd, hw⟩
  obtain ⟨e, rfl⟩ : ∃ e, d = e + 1 := ⟨d - 1, by omega⟩
  clear hd
  induction e generalizing i with
  | zero =>
    obtain ⟨m, he, hm⟩ := hw
    cases hm
    exact (h.st _ he).resolve_right (by simp)
  | succ e ih =>
    obtain ⟨m, hm, he⟩ := hw.snoc
    have hml := (he.lt hv).1
    exact (h.cl m i hml (ih m hml hm) he).resolve_right (by simp)
theorem Line.skip {g : List (List Int)} {s : Nat} {q : Nat → Bool} {x : Nat} {ln : List Int} (h : Line g s q ((x : Int) :: ln)) (hx : q x = true) : Line g s q ln := by
  refine ⟨h.mkd, fun y hy => h.qu y (by simp [hy]), fun j hj => ?_, fun i j hi hq he => ?_⟩
  · rcases h.st j hj with h1 | h1
    · exact .inl h1
    · rcases List.mem_cons.1 h1 with h2 | h2
      · obtain rfl : j = x := by omega
        exact .inl hx
      · exact .inr h2
  · rcases h.cl i j hi hq he with h1 | h1
    · exact .inl h1
    · rcases List.mem_cons.1 h1 with h2 | h2
      · obtain rfl : j = x := by omega
        exact .inl hx
      · exact .inr h2
theorem Line.take {g : List (List Int)} (hv : Val g) {s : Nat} {q : Nat → Bool} {x : Nat} {ln : List Int} (h : Line g s q ((x : Int) :: ln)) : Line g s (fun k => if k = x then true else q k) (ln ++ adj g x) := by
  have hxr := h.qu x (by simp)
  have hxl : x < g.length := by omega
  have hrx : Rch g s x := by have := hxr.2.2; rwa [Int.toNat_natCast] at this
  refine ⟨fun i hi hq => ?_, fun y hy => ?_, fun j hj => ?_, fun i j hi hq he => ?_⟩
  · by_cases e : i = x
    · rw [e]; exact hrx
    · rw [if_neg e] at hq
      exact h.mkd i hi hq
  · rcases List.mem_append.1 hy with h1 | h1
    · exact h.qu y (by simp [h1])
    · have h2 := (hv.ok x hxl).rng y h1
      refine ⟨h2.1, h2.2, hrx.trans (Rch.one ⟨hxl, ?_⟩)⟩
      rw [show ((y.toNat : Nat) : Int) = y from by omega]
      exact h1
  · rcases h.st j hj with h1 | h1
    · left; split <;> simp_all
    · rcases List.mem_cons.1 h1 with h2 | h2
      · left; rw [if_pos (by omega)]
      · right; simp [h2]
  · by_cases e : i = x
    · right
      rw [e] at he
      exact List.mem_append.2 (.inr he.2)
    · rw [if_neg e] at hq
      rcases h.cl i j hi hq he with h1 | h1
      · left; split <;> simp_all
      · rcases List.mem_cons.1 h1 with h2 | h2
        · left; rw [if_pos (by omega)]
        · right; simp [h2]
theorem reach_loop {g : List (List Int)} (hv : Val g) (s : Nat) : ∀ (n : Nat) (q : Nat → Bool) (ln : List Int), 25 * um g.length q + ln.length = n → n ≤ 1000 → Line g s q ln → ∃ q', Ev (fun k => depgraph_reach.l0 k g (tl g.length q) ln) (tl g.length q') ∧ ∀ i, i < g.length → (q' i = true ↔ Rch g s i) := by
  intro n
  induction n using Nat.strongRecOn with
  | _ n ih =>
  intro q ln hn hb hl
  cases ln with
  | nil =>
    refine ⟨q, Ev.of_succ ?_, hl.done hv⟩
    simp only [depgraph_reach.l0, List.length_nil, show ¬ (((0 : Nat) : Int) > 0) from by omega, ↓reduceIte]
    exact Ev.const _
  | cons y ln =>
    have hy := hl.qu y (by simp)
    obtain ⟨x, rfl⟩ : ∃ x : Nat, y = (x : Int) := ⟨y.toNat, by omega⟩
    have hxl : x < g.length := by omega
    have hum := um_le g.length q
    have hle := hv.le
    by_cases hq : q x = true
    · obtain ⟨q', h1, h2⟩ := ih (25 * um g.length q + ln.length) (by rw [← hn, List.length_cons]; omega) q ln rfl (by rw [List.length_cons] at hn; omega) (hl.skip hq)
      refine ⟨q', Ev.of_succ ?_, h2⟩
      have h0 : rd ((x : Int) :: ln) 0 = (x : Int) := rfl
      simp only [depgraph_reach.l0, List.length_cons, show ((ln.length + 1 : Nat) : Int) > 0 from by omega, show (0 : Int) < ((ln.length + 1 : Nat) : Int) from by omega, show (1 : Int) ≤ ((ln.length + 1 : Nat) : Int) from by omega, Option.bind_some, h0, tl_length, show (0 : Int) ≤ (x : Int) from by omega, show (x : Int) < (g.length : Int) from by omega, tl_rdOf false _ _ _ hxl, hq, ↓reduceIte]
      exact h1
    · have hq' : q x = false := by simpa using hq
      have hu := um_set g.length q x hxl hq'
      have hal := hv.len hxl
      obtain ⟨q', h1, h2⟩ := ih (25 * um g.length (fun k => if k = x then true else q k) + (ln ++ adj g x).length) (by rw [← hn, List.length_cons, List.length_append]; omega) _ _ rfl (by rw [List.length_cons] at hn; rw [List.length_append]; omega) (hl.take hv)
      refine ⟨q', Ev.of_succ ?_, h2⟩
      have h0 : rd ((x : Int) :: ln) 0 = (x : Int) := rfl
      rw [List.length_cons] at hn
      simp only [depgraph_reach.l0, List.length_cons, show ((ln.length + 1 : Nat) : Int) > 0 from by omega, show (0 : Int) < ((ln.length + 1 : Nat) : Int) from by omega, show (1 : Int) ≤ ((ln.length + 1 : Nat) : Int) from by omega, Option.bind_some, h0, tl_length, show (0 : Int) ≤ (x : Int) from by omega, show (x : Int) < (g.length : Int) from by omega, tl_rdOf false _ _ _ hxl, hq', ↓reduceIte, Int.toNat_natCast, tl_set, Bool.false_eq_true]
      have hlen : (List.drop (Int.toNat 1) ((x : Int) :: ln)).length + (rd_L1 g (x : Int)).length < 17592186044416 := by
        show ln.length + (adj g x).length < 17592186044416
        omega
      simp only [hlen, ↓reduceIte]
      exact h1
theorem reach_ev {g : List (List Int)} (hv : Val g) {s : Nat} (hs : s < g.length) : ∃ q, Ev (fun k => depgraph_reach.f k g (s : Int)) (tl g.length q) ∧ ∀ i, i < g.length → (q i = true ↔ Rch g s i) := by
  have hle := hv.le
  have hal := hv.len hs
  obtain ⟨q, h1, h2⟩ := reach_loop hv s _ (fun _ => false) (adj g s) rfl (by have := um_le g.length (fun _ => false); omega)
    ⟨fun i _ h => by simp at h, fun x hx => by have h2 := (hv.ok s hs).rng x hx; exact ⟨h2.1, h2.2, Rch.one ⟨hs, by rw [show ((x.toNat : Nat) : Int) = x from by omega]; exact hx⟩⟩, fun j he => .inr he.2, fun i j _ h => by simp at h⟩
  refine ⟨q, ?_, h2⟩
  simp only [depgraph_reach.f, Int.toNat_natCast, show (0 : Int) ≤ (g.length : Int) from by omega, show g.length ≤ 281474976710656 from by omega, show (0 : Int) ≤ (s : Int) from by omega, show (s : Int) < (g.length : Int) from by omega, slices_Clone_int_int.f, show (rd_L1 g (s : Int)).length < 1000000000 from by show (adj g s).length < _; omega, ↓reduceIte, Option.bind_some, tl_const]
  exact h1
/-- r is the least node on a cycle, or -1. -/
def Fst (g : List (List Int)) (r : Int) : Prop := (r = -1 ∧ ∀ i, i < g.length → ¬ Rch g i i) ∨ ∃ i : Nat, i < g.length ∧ r = (i : Int) ∧ Rch g i i ∧ ∀ j, j < i → ¬ Rch g j j
theorem Fst.uniq {g : List (List Int)} {r s : Int} (h : Fst g r) (h2 : Fst g s) : r = s := by
  rcases h with ⟨h, h'⟩ | ⟨i, hi, h, hr, hm⟩ <;> rcases h2 with ⟨h2, h2'⟩ | ⟨j, hj, h2, hr2, hm2⟩
  · rw [h, h2]
  · exact absurd hr2 (h' j hj)
  · exact absurd hr (h2' i hi)
  · rcases Nat.lt_trichotomy i j with hlt | heq | hgt
    · exact absurd hr (hm2 i hlt)
    · rw [h, h2, heq]
    · exact absurd hr2 (hm j hgt)
theorem first_ev {g : List (List Int)} (hv : Val g) : ∃ r, Ev (fun k => depgraph_first.f k g) r ∧ Fst g r := by
  have hle := hv.le
  have loop : ∀ d i, g.length - i = d → i ≤ g.length → (∀ j, j < i → ¬ Rch g j j) → ∃ r, Ev (fun k => depgraph_first.l0 k g (g.length : Int) (i : Int)) r ∧ Fst g r := by
    intro d
    induction d with
    | zero =>
      intro i hd hi hn
      refine ⟨-1, Ev.of_succ ?_, .inl ⟨rfl, fun j hj => hn j (by omega)⟩⟩
      simp only [depgraph_first.l0, show ¬ (i : Int) < (g.length : Int) from by omega, ↓reduceIte]
      exact Ev.const _
    | succ d ih =>
      intro i hd hi hn
      have hil : i < g.length := by omega
      obtain ⟨q, h1, h2⟩ := reach_ev hv hil
      by_cases hq : q i = true
      · refine ⟨(i : Int), Ev.of_succ ?_, .inr ⟨i, hil, rfl, (h2 i hil).1 hq, hn⟩⟩
        simp only [depgraph_first.l0, show (i : Int) < (g.length : Int) from by omega, ↓reduceIte]
        refine Ev.bind h1 ?_
        simp only [show (0 : Int) ≤ (i : Int) from by omega, tl_length, show (i : Int) < (g.length : Int) from by omega, tl_rdOf false _ _ _ hil, hq, ↓reduceIte]
        exact Ev.const _
      · have hq' : q i = false := by simpa using hq
        obtain ⟨r, h3, h4⟩ := ih (i + 1) (by omega) (by omega) (fun j hj => by
          by_cases e : j = i
          · rw [e]; exact fun h => hq ((h2 i hil).2 h)
          · exact hn j (by omega))
        refine ⟨r, Ev.of_succ ?_, h4⟩
        simp only [depgraph_first.l0, show (i : Int) < (g.length : Int) from by omega, ↓reduceIte]
        refine Ev.bind h1 ?_
        simp only [show (0 : Int) ≤ (i : Int) from by omega, tl_length, show (i : Int) < (g.length : Int) from by omega, tl_rdOf false _ _ _ hil, hq', ↓reduceIte, Bool.false_eq_true, wrap_up i (by omega)]
        exact h3
  exact loop _ 0 rfl (by omega) (fun j hj => by omega)
/-- Whether x does not come behind what is ahead. -/
def nx (x : Int) : Option Int → Bool | none => false | some y => decide (x ≤ y)
/-- The code of a list of nodes below N; p: the node ahead. -/
def lc (N : Int) : Option Int → List Int → Int
  | _, [] => 0
  | p, x :: l => if x < 0 ∨ N ≤ x then 3 else if nx x p = true then 5 else lc N (some x) l
/-- The fault of the lists from the i-th on. -/
def gl (N : Int) : Nat → List (List Int) → Int × Int
  | _, [] => (0, 0)
  | i, l :: t => if lc N none l = 0 then gl N (i + 1) t else (lc N none l, (i : Int))
def gf (g : List (List Int)) : Int × Int := if g.length > 24 then (2, -1) else gl g.length 0 g
theorem lc_good (N : Nat) : ∀ (l : List Int) (p : Option Int), lc N p l = 0 → Good N l ∧ ∀ y, p = some y → ∀ x ∈ l, y < x
  | [], p, _ => ⟨⟨by simp, List.Pairwise.nil⟩, by simp⟩
  | x :: l, p, h => by
    unfold lc at h
    by_cases h1 : x < 0 ∨ (N : Int) ≤ x
    · rw [if_pos h1] at h; omega
    rw [if_neg h1] at h
    by_cases h2 : nx x p = true
    · rw [if_pos h2] at h; omega
    rw [if_neg h2] at h
    obtain ⟨hg, hp⟩ := lc_good N l (some x) h
    have hx := hp x rfl
    refine ⟨⟨fun y hy => ?_, List.pairwise_cons.2 ⟨hx, hg.inc⟩⟩, fun y hy z hz => ?_⟩
    · rcases List.mem_cons.1 hy with h | h
      · omega
      · exact hg.rng y h
    · subst hy
      have h2' : ¬ x ≤ y := fun h3 => h2 (decide_eq_true h3)
      rcases List.mem_cons.1 hz with h | h
      · omega
      · have := hx z h
        omega
theorem gl_zero (N : Int) : ∀ (t : List (List Int)) (i : Nat), (gl N i t).1 = 0 → gl N i t = (0, 0) ∧ ∀ l ∈ t, lc N none l = 0
  | [], _, _ => ⟨rfl, by simp⟩
  | l :: t, i, h => by
    unfold gl at h ⊢
    by_cases h1 : lc N none l = 0
    · rw [if_pos h1] at h ⊢
      obtain ⟨h2, h3⟩ := gl_zero N t (i + 1) h
      exact ⟨h2, fun y hy => by rcases List.mem_cons.1 hy with e | e; · rw [e]; exact h1
                                · exact h3 y e⟩
    · rw [if_neg h1] at h
      exact absurd h h1
theorem gf_val {g : List (List Int)} (h : (gf g).1 = 0) : gf g = (0, 0) ∧ Val g := by
  unfold gf at h ⊢
  by_cases h1 : g.length > 24
  · rw [if_pos h1] at h; simp at h
  · rw [if_neg h1] at h ⊢
    obtain ⟨h2, h3⟩ := gl_zero _ _ _ h
    refine ⟨h2, by omega, fun i hi => ?_⟩
    have : adj g i = g[i] := by simp [rd_L1, List.getD_eq_getElem?_getD, hi]
    rw [this]
    exact (lc_good _ _ _ (h3 _ (List.getElem_mem hi))).1
/-- What stands ahead of place j. -/
def pv (l : List Int) (j : Nat) : Option Int := if 0 < j then some (rd l ((j : Int) - 1)) else none
theorem pv_succ (l : List Int) (j : Nat) : pv l (j + 1) = some (rd l (j : Int)) := by
  unfold pv
  rw [if_pos (by omega), show (((j + 1 : Nat) : Int) - 1) = (j : Int) from by omega]
theorem drop_rd (l : List Int) (j : Nat) (h : j < l.length) : l.drop j = rd l (j : Int) :: l.drop (j + 1) := by rw [List.drop_eq_getElem_cons h, rd_get l j h]
theorem list_ev (N : Nat) (l : List Int) (hl : l.length ≤ 9223372036854775807) : Ev (fun k => depgraph_list.f k (N : Int) l) (lc N none l) := by
  have loop : ∀ d j, l.length - j = d → j ≤ l.length → Ev (fun k => depgraph_list.l0 k (N : Int) l l (l.length : Int) (j : Int)) (lc N (pv l j) (l.drop j)) := by
    intro d
    induction d with
    | zero =>
      intro j hd hj
      refine Ev.of_succ ?_
      simp only [depgraph_list.l0, show ¬ (j : Int) < (l.length : Int) from by omega, ↓reduceIte]
      rw [List.drop_eq_nil_of_le (by omega)]
      exact Ev.const _
    | succ d ih =>
      intro j hd hj
      have hjl : j < l.length := by omega
      refine Ev.of_succ ?_
      simp only [depgraph_list.l0, show (j : Int) < (l.length : Int) from by omega, show (0 : Int) ≤ (j : Int) from by omega, ↓reduceIte]
      rw [drop_rd l j hjl]
      unfold lc
      have next : ∀ (b : Bool), b = false → ¬ (rd l (j : Int) < 0 ∨ (N : Int) ≤ rd l (j : Int)) → Ev (fun k => depgraph_list.j1 k (N : Int) l (j : Int) (rd l (j : Int)) l (l.length : Int) (j : Int) b) (if nx (rd l (j : Int)) (pv l j) = true then 5 else lc (N : Int) (some (rd l (j : Int))) (l.drop (j + 1))) := by
        intro b hb hr
        subst hb
        refine Ev.of_succ ?_
        have h2 := ih (j + 1) (by omega) (by omega)
        rw [pv_succ] at h2
        by_cases hj0 : 0 < j
        · have e1 : pv l j = some (rd l ((j : Int) - 1)) := if_pos hj0
          rw [e1]
          by_cases hle : rd l (j : Int) ≤ rd l ((j : Int) - 1)
          · simp only [depgraph_list.j1, Bool.false_eq_true, ↓reduceIte, show (j : Int) > 0 from by omega, wrap_lt (show -9223372036854775808 ≤ (j : Int) - 1 from by omega) (by omega), show (0 : Int) ≤ (j : Int) - 1 from by omega, show (j : Int) - 1 < (l.length : Int) from by omega, hle, nx, decide_true]
            exact Ev.const _
          · simp only [depgraph_list.j1, Bool.false_eq_true, ↓reduceIte, show (j : Int) > 0 from by omega, wrap_lt (show -9223372036854775808 ≤ (j : Int) - 1 from by omega) (by omega), show (0 : Int) ≤ (j : Int) - 1 from by omega, show (j : Int) - 1 < (l.length : Int) from by omega, hle, nx, decide_false, wrap_up j (by omega)]
            exact h2
        · have e1 : pv l j = none := if_neg hj0
          rw [e1]
          simp only [depgraph_list.j1, Bool.false_eq_true, ↓reduceIte, show ¬ (j : Int) > 0 from by omega, nx, wrap_up j (by omega)]
          exact h2
      by_cases h1 : rd l (j : Int) < 0
      · simp only [h1, true_or, ↓reduceIte]
        refine Ev.of_succ ?_
        simp only [depgraph_list.j1, ↓reduceIte]
        exact Ev.const _
      · by_cases h2 : (N : Int) ≤ rd l (j : Int)
        · simp only [h1, h2, or_true, ↓reduceIte, show rd l (j : Int) ≥ (N : Int) from h2, decide_true]
          refine Ev.of_succ ?_
          simp only [depgraph_list.j1, ↓reduceIte]
          exact Ev.const _
        · simp only [h1, h2, or_self, ↓reduceIte]
          exact next _ (by simp) (by omega)
  exact loop _ 0 rfl (by omega)
theorem Validate_ev (g : List (List Int)) (hl : ∀ l ∈ g, l.length ≤ 9223372036854775807) : Ev (fun k => depgraph_Validate.f k g) (gf g) := by
  unfold gf
  by_cases hN : g.length > 24
  · simp only [depgraph_Validate.f, show (g.length : Int) > 24 from by omega, hN, ↓reduceIte]
    exact Ev.const _
  simp only [depgraph_Validate.f, show ¬ (g.length : Int) > 24 from by omega, hN, ↓reduceIte]
  have loop : ∀ d i, g.length - i = d → i ≤ g.length → Ev (fun k => depgraph_Validate.l0 k g g (g.length : Int) (i : Int)) (gl g.length i (g.drop i)) := by
    intro d
    induction d with
    | zero =>
      intro i hd hi
      refine Ev.of_succ ?_
      simp only [depgraph_Validate.l0, show ¬ (i : Int) < (g.length : Int) from by omega, ↓reduceIte]
      rw [List.drop_eq_nil_of_le (by omega)]
      exact Ev.const _
    | succ d ih =>
      intro i hd hi
      have hil : i < g.length := by omega
      refine Ev.of_succ ?_
      have e : rd_L1 g (i : Int) = g[i] := by simp [rd_L1, List.getD_eq_getElem?_getD, hil]
      simp only [depgraph_Validate.l0, show (i : Int) < (g.length : Int) from by omega, show (0 : Int) ≤ (i : Int) from by omega, ↓reduceIte, e]
      rw [List.drop_eq_getElem_cons hil]
      refine Ev.bind (list_ev g.length g[i] (hl _ (List.getElem_mem hil))) ?_
      unfold gl
      by_cases h0 : lc (g.length : Int) none g[i] = 0
      · simp only [h0, ↓reduceIte, wrap_up i (by omega)]
        exact ih (i + 1) (by omega) (by omega)
      · simp only [h0, ↓reduceIte]
        exact Ev.const _
  exact loop _ 0 rfl (by omega)
theorem nodesCode_ev (N : Nat) (hN : N ≤ 1000000) (l : List Int) (hl : l.length ≤ 9223372036854775807) : Ev (fun k => changeforgeref6_nodesCode.f k (N : Int) l) (lc N none l) := by
  have loop : ∀ d j, l.length - j = d → j ≤ l.length → Ev (fun k => changeforgeref6_nodesCode.l0 k (N : Int) l (j : Int)) (lc N (pv l j) (l.drop j)) := by
    intro d
    induction d with
    | zero =>
      intro j hd hj
      refine Ev.of_succ ?_
      simp only [changeforgeref6_nodesCode.l0, show ¬ (j : Int) < (l.length : Int) from by omega, ↓reduceIte]
      rw [List.drop_eq_nil_of_le (by omega)]
      exact Ev.const _
    | succ d ih =>
      intro j hd hj
      have hjl : j < l.length := by omega
      refine Ev.of_succ ?_
      have h2 := ih (j + 1) (by omega) (by omega)
      rw [pv_succ] at h2
      rw [drop_rd l j hjl]
      unfold lc
      by_cases h1 : rd l (j : Int) < 0 ∨ (N : Int) ≤ rd l (j : Int)
      · rw [if_pos h1]
        by_cases h0 : rd l (j : Int) ≥ 0
        · simp only [changeforgeref6_nodesCode.l0, changeforgeref6_in.f, show (j : Int) < (l.length : Int) from by omega, show (0 : Int) ≤ (j : Int) from by omega, h0, ↓reduceIte, wrap_lt (show -9223372036854775808 ≤ (N : Int) - 1 from by omega) (by omega), show ¬ rd l (j : Int) ≤ (N : Int) - 1 from by omega, decide_false, Option.bind_some, Bool.false_eq_true]
          exact Ev.const _
        · simp only [changeforgeref6_nodesCode.l0, changeforgeref6_in.f, show (j : Int) < (l.length : Int) from by omega, show (0 : Int) ≤ (j : Int) from by omega, h0, ↓reduceIte, Option.bind_some, Bool.false_eq_true]
          exact Ev.const _
      · rw [if_neg h1]
        by_cases hj0 : 0 < j
        · have e1 : pv l j = some (rd l ((j : Int) - 1)) := if_pos hj0
          rw [e1]
          by_cases hle : rd l (j : Int) ≤ rd l ((j : Int) - 1)
          · simp only [changeforgeref6_nodesCode.l0, changeforgeref6_in.f, show (j : Int) < (l.length : Int) from by omega, show (0 : Int) ≤ (j : Int) from by omega, show rd l (j : Int) ≥ 0 from by omega, ↓reduceIte, wrap_lt (show -9223372036854775808 ≤ (N : Int) - 1 from by omega) (by omega), show rd l (j : Int) ≤ (N : Int) - 1 from by omega, decide_true, Option.bind_some, show (j : Int) > 0 from by omega, wrap_lt (show -9223372036854775808 ≤ (j : Int) - 1 from by omega) (by omega), show (0 : Int) ≤ (j : Int) - 1 from by omega, show (j : Int) - 1 < (l.length : Int) from by omega, hle, nx]
            exact Ev.const _
          · simp only [changeforgeref6_nodesCode.l0, changeforgeref6_in.f, show (j : Int) < (l.length : Int) from by omega, show (0 : Int) ≤ (j : Int) from by omega, show rd l (j : Int) ≥ 0 from by omega, ↓reduceIte, wrap_lt (show -9223372036854775808 ≤ (N : Int) - 1 from by omega) (by omega), show rd l (j : Int) ≤ (N : Int) - 1 from by omega, decide_true, Option.bind_some, show (j : Int) > 0 from by omega, wrap_lt (show -9223372036854775808 ≤ (j : Int) - 1 from by omega) (by omega), show (0 : Int) ≤ (j : Int) - 1 from by omega, show (j : Int) - 1 < (l.length : Int) from by omega, hle, nx, decide_false, Bool.false_eq_true, wrap_up j (by omega)]
            exact h2
        · have e1 : pv l j = none := if_neg hj0
          rw [e1]
          simp only [changeforgeref6_nodesCode.l0, changeforgeref6_in.f, show (j : Int) < (l.length : Int) from by omega, show (0 : Int) ≤ (j : Int) from by omega, show rd l (j : Int) ≥ 0 from by omega, ↓reduceIte, wrap_lt (show -9223372036854775808 ≤ (N : Int) - 1 from by omega) (by omega), show rd l (j : Int) ≤ (N : Int) - 1 from by omega, decide_true, Option.bind_some, show ¬ (j : Int) > 0 from by omega, nx, Bool.false_eq_true, wrap_up j (by omega)]
          exact h2
  exact loop _ 0 rfl (by omega)
theorem GraphFault_ev (g : List (List Int)) (hl : ∀ l ∈ g, l.length ≤ 9223372036854775807) : Ev (fun k => changeforgeref6_GraphFault.f k g) (gf g) := by
  unfold gf
  by_cases hN : g.length > 24
  · simp only [changeforgeref6_GraphFault.f, changeforgeref6_fault.f, show (g.length : Int) > 24 from by omega, hN, ↓reduceIte, Option.bind_some]
    exact Ev.const _
  simp only [changeforgeref6_GraphFault.f, show ¬ (g.length : Int) > 24 from by omega, hN, ↓reduceIte]
  have loop : ∀ d i, g.length - i = d → i ≤ g.length → Ev (fun k => changeforgeref6_GraphFault.l0 k g (i : Int)) (gl g.length i (g.drop i)) := by
    intro d
    induction d with
    | zero =>
      intro i hd hi
      refine Ev.of_succ ?_
      simp only [changeforgeref6_GraphFault.l0, show ¬ (i : Int) < (g.length : Int) from by omega, ↓reduceIte]
      rw [List.drop_eq_nil_of_le (by omega)]
      exact Ev.const _
    | succ d ih =>
      intro i hd hi
      have hil : i < g.length := by omega
      refine Ev.of_succ ?_
      have e : rd_L1 g (i : Int) = g[i] := by simp [rd_L1, List.getD_eq_getElem?_getD, hil]
      simp only [changeforgeref6_GraphFault.l0, show (i : Int) < (g.length : Int) from by omega, show (0 : Int) ≤ (i : Int) from by omega, ↓reduceIte, e]
      rw [List.drop_eq_getElem_cons hil]
      refine Ev.bind (nodesCode_ev g.length (by omega) g[i] (hl _ (List.getElem_mem hil))) ?_
      unfold gl
      by_cases h0 : lc (g.length : Int) none g[i] = 0
      · simp only [h0, ↓reduceIte, wrap_up i (by omega)]
        exact ih (i + 1) (by omega) (by omega)
      · simp only [h0, ↓reduceIte, changeforgeref6_fault.f, Option.bind_some]
        exact Ev.const _
  exact loop _ 0 rfl (by omega)
end Go.Proofs.Ytffcaglfcnmhdaa.H
end
section
namespace Go.Proofs.Ytffcaglfcnmhdaa.H
open Go.RowKit Go.Proofs.YtffcaglfcnmhdaaW.PrintWords Go.Proofs.YtffcaglfcnmhdaaW.PrintLast Go.Proofs.YtffcaglfcnmhdaaW.PrintMore
set_option linter.unusedVariables false
set_option linter.unusedSimpArgs false
open Go.RowKit
def WB (g : List (List Int)) (K : Nat) : Nat → Nat → Nat → Prop
  | 0, _, _ => False
  | 1, i, j => E g i j
  | d + 2, i, j => ∃ m, m < K ∧ E g i m ∧ WB g K (d + 1) m j
theorem WB.wk {g : List (List Int)} {K : Nat} : ∀ {d i j : Nat}, WB g K d i j → 1 ≤ d ∧ Wk g d i j
  | 0, _, _, h => h.elim
  | 1, i, j, h => ⟨Nat.le_refl _, Wk.one h⟩
  | d + 2, i, j, ⟨m, _, e, h⟩ => ⟨by omega, m, e, h.wk.2⟩
theorem Wk.wb {g : List (List Int)} (hv : Val g) : ∀ {d i j : Nat}, Wk g (d + 1) i j → WB g g.length (d + 1) i j
  | 0, i, j, ⟨m, e, h⟩ => by cases h; exact e
  | d + 1, i, j, ⟨m, e, h⟩ => ⟨m, (e.lt hv).2, e, Wk.wb hv h⟩
theorem WB.split {g : List (List Int)} {K : Nat} : ∀ {d i j : Nat}, WB g (K + 1) d i j → WB g K d i j ∨ ∃ a b, a + b ≤ d ∧ WB g K a i K ∧ WB g K b K j
  | 0, _, _, h => h.elim
  | 1, i, j, h => .inl h
  | d + 2, i, j, ⟨m, hm, e, h⟩ => by
    by_cases hk : m = K
    · subst hk
      rcases h.split with h | ⟨a, b, hab, _, hb⟩
      · exact .inr ⟨1, d + 1, by omega, e, h⟩
      · exact .inr ⟨1, b, by have : 1 ≤ a := WB.wk (by assumption) |>.1; omega, e, hb⟩
    · rcases h.split with h | ⟨a, b, hab, ha, hb⟩
      · exact .inl ⟨m, by omega, e, h⟩
      · obtain ⟨a', rfl⟩ : ∃ a', a = a' + 1 := ⟨a - 1, by have := ha.wk.1; omega⟩
        exact .inr ⟨a' + 2, b, by omega, ⟨m, by omega, e, ha⟩, hb⟩
/-- A table of N by N. -/
def tb (N : Nat) (f : Nat → Nat → Nat) : List (List Int) := tl N fun i => tl N fun j => (f i j : Int)
/-- What every entry keeps. -/
def Snd (g : List (List Int)) (f : Nat → Nat → Nat) : Prop := ∀ i j, i < g.length → j < g.length → f i j ≤ 1000 ∧ (f i j < 1000 → 1 ≤ f i j ∧ Wk g (f i j) i j)
/-- Walks by inner nodes below K are counted. -/
def Cmp (g : List (List Int)) (K : Nat) (f : Nat → Nat → Nat) : Prop := ∀ i j d, i < g.length → j < g.length → WB g K d i j → f i j ≤ d
/-- One step at (k, i, j). -/
def rlx (k i j : Nat) (f : Nat → Nat → Nat) : Nat → Nat → Nat := if f i k + f k j < f i j then fun a b => if a = i ∧ b = j then f i k + f k j else f a b else f
theorem rlx_le (k i j : Nat) (f : Nat → Nat → Nat) (a b : Nat) : rlx k i j f a b ≤ f a b := by
  unfold rlx
  split
  · dsimp only
    split
    · rename_i h1 h2; obtain ⟨rfl, rfl⟩ := h2; omega
    · omega
  · omega
theorem rlx_at (k i j : Nat) (f : Nat → Nat → Nat) : rlx k i j f i j ≤ f i k + f k j := by
  unfold rlx
  split
  · simp
  · omega
theorem rlx_snd {g : List (List Int)} {k i j : Nat} {f : Nat → Nat → Nat} (hk : k < g.length) (hi : i < g.length) (hj : j < g.length) (h : Snd g f) : Snd g (rlx k i j f) := by
  intro a b ha hb
  unfold rlx
  split
  · rename_i hlt
    dsimp only
    split
    · rename_i h2
      obtain ⟨rfl, rfl⟩ := h2
      have h0 := h a b ha hb
      refine ⟨by omega, fun _ => ?_⟩
      have h1 := (h a k ha hk).2 (by omega)
      have h2 := (h k b hk hb).2 (by omega)
      exact ⟨by omega, h1.2.trans h2.2⟩
    · exact h a b ha hb
  · exact h a b ha hb
theorem Has_ev (l : List Int) (hl : l.length ≤ 9223372036854775807) (x : Int) : Ev (fun k => changeforgeref5_Has.f k l x) (decide (x ∈ l)) := by
  have loop : ∀ d j, l.length - j = d → j ≤ l.length → Ev (fun k => changeforgeref5_Has.l0 k l x (j : Int)) (decide (x ∈ l.drop j)) := by
    intro d
    induction d with
    | zero =>
      intro j hd hj
      refine Ev.of_succ ?_
      simp only [changeforgeref5_Has.l0, show ¬ (j : Int) < (l.length : Int) from by omega, ↓reduceIte]
      rw [List.drop_eq_nil_of_le (by omega)]
      exact (Ev.const _).cast (by simp)
    | succ d ih =>
      intro j hd hj
      have hjl : j < l.length := by omega
      refine Ev.of_succ ?_
      rw [drop_rd l j hjl]
      by_cases h : rd l (j : Int) = x
      · simp only [changeforgeref5_Has.l0, show (j : Int) < (l.length : Int) from by omega, show (0 : Int) ≤ (j : Int) from by omega, h, ↓reduceIte]
        exact (Ev.const _).cast (by simp)
      · simp only [changeforgeref5_Has.l0, show (j : Int) < (l.length : Int) from by omega, show (0 : Int) ≤ (j : Int) from by omega, h, ↓reduceIte, wrap_up j (by omega)]
        exact (ih (j + 1) (by omega) (by omega)).cast (by simp [Ne.symm h])
  exact loop _ 0 rfl (by omega)
theorem tb_row (N : Nat) (f : Nat → Nat → Nat) (i : Nat) (h : i < N) : rd_L1 (tb N f) (i : Int) = tl N fun j => (f i j : Int) := tl_rd_L1 N _ i h
theorem tb_at (N : Nat) (f : Nat → Nat → Nat) (i j : Nat) (h : i < N) (hj : j < N) : rd (rd_L1 (tb N f) (i : Int)) (j : Int) = (f i j : Int) := by rw [tb_row N f i h]; exact tl_rd N _ j hj
@[simp] theorem tb_length (N : Nat) (f : Nat → Nat → Nat) : (tb N f).length = N := tl_length _ _
theorem tb_set (N : Nat) (f : Nat → Nat → Nat) (i j v : Nat) : (tb N f).set i ((tl N fun b => (f i b : Int)).set j (v : Int)) = tb N fun a b => if a = i ∧ b = j then v else f a b := by
  unfold tb
  rw [tl_set, tl_set]
  refine tl_congr fun a _ => ?_
  by_cases e : a = i
  · subst e
    rw [if_pos rfl]
    refine tl_congr fun b _ => ?_
    by_cases e2 : b = j
    · simp [e2]
    · simp [e2]
  · rw [if_neg e]
    exact tl_congr fun b _ => by simp [e]
section
variable {g : List (List Int)}
theorem dist_l4 (hv : Val g) {k i : Nat} (hk : k < g.length) (hi : i < g.length) : ∀ (d j : Nat) (f : Nat → Nat → Nat), g.length - j = d → j ≤ g.length → Snd g f →
    ∃ f', (∀ a b, f' a b ≤ f a b) ∧ Snd g f' ∧ (∀ b, j ≤ b → b < g.length → f' i b ≤ f i k + f k b) ∧ ∀ T, Ev (fun m => changeforgeref6_Distance.l3 m g (tb g.length f') (k : Int) ((i + 1 : Nat) : Int)) T → Ev (fun m => changeforgeref6_Distance.l4 m g (tb g.length f) (k : Int) (i : Int) (j : Int)) T := by
  have hle := hv.le
  intro d
  induction d with
  | zero =>
    intro j f hd hj hs
    refine ⟨f, fun _ _ => Nat.le_refl _, hs, fun b h1 h2 => by omega, fun T hT => Ev.of_succ ?_⟩
    simp only [changeforgeref6_Distance.l4, show ¬ (j : Int) < (g.length : Int) from by omega, ↓reduceIte, wrap_up i (by omega)]
    exact hT
  | succ d ih =>
    intro j f hd hj hs
    have hjl : j < g.length := by omega
    obtain ⟨f', h1, h2, h3, h4⟩ := ih (j + 1) (rlx k i j f) (by omega) (by omega) (rlx_snd hk hi hjl hs)
    refine ⟨f', fun a b => Nat.le_trans (h1 a b) (rlx_le _ _ _ _ _ _), h2, fun b hb1 hb2 => ?_, fun T hT => Ev.of_succ ?_⟩
    · by_cases e : b = j
      · subst e
        exact Nat.le_trans (h1 i b) (rlx_at _ _ _ _)
      · have := h3 b (by omega) hb2
        have := rlx_le k i j f i k
        have := rlx_le k i j f k b
        omega
    · have q1 := (hs i k hi hk).1
      have q2 := (hs k j hk hjl).1
      have hT' := h4 T hT
      simp only [changeforgeref6_Distance.l4, tb_length, tb_at g.length f i k hi hk, tb_at g.length f k j hk hjl, tb_at g.length f i j hi hjl, tb_row g.length f i hi, tb_row g.length f k hk, tl_length, show (j : Int) < (g.length : Int) from by omega, show (0 : Int) ≤ (i : Int) from by omega, show (i : Int) < (g.length : Int) from by omega, show (0 : Int) ≤ (k : Int) from by omega, show (k : Int) < (g.length : Int) from by omega, show (0 : Int) ≤ (j : Int) from by omega, ↓reduceIte, tl_rd g.length _ k hk, tl_rd g.length _ j hjl, wrap_lt (show -9223372036854775808 ≤ ((f i k : Nat) : Int) + ((f k j : Nat) : Int) from by omega) (by omega), wrap_up j (by omega), Int.toNat_natCast]
      unfold rlx at hT'
      by_cases hc : f i k + f k j < f i j
      · rw [if_pos hc] at hT'
        simp only [show ((f i k + f k j : Nat) : Int) < ((f i j : Nat) : Int) from by omega, ↓reduceIte, show ((f i k : Nat) : Int) + ((f k j : Nat) : Int) = ((f i k + f k j : Nat) : Int) from by omega, tb_set]
        exact hT'
      · rw [if_neg hc] at hT'
        simp only [show ¬ ((f i k : Nat) : Int) + ((f k j : Nat) : Int) < ((f i j : Nat) : Int) from by omega, ↓reduceIte]
        exact hT'
theorem dist_l3 (hv : Val g) {k : Nat} (hk : k < g.length) : ∀ (d i : Nat) (f : Nat → Nat → Nat), g.length - i = d → i ≤ g.length → Snd g f →
    ∃ f', (∀ a b, f' a b ≤ f a b) ∧ Snd g f' ∧ (∀ a b, i ≤ a → a < g.length → b < g.length → f' a b ≤ f a k + f k b) ∧ ∀ T, Ev (fun m => changeforgeref6_Distance.l2 m g (tb g.length f') ((k + 1 : Nat) : Int)) T → Ev (fun m => changeforgeref6_Distance.l3 m g (tb g.length f) (k : Int) (i : Int)) T := by
  have hle := hv.le
  intro d
  induction d with
  | zero =>
    intro i f hd hi hs
    refine ⟨f, fun _ _ => Nat.le_refl _, hs, fun a b h1 h2 => by omega, fun T hT => Ev.of_succ ?_⟩
    simp only [changeforgeref6_Distance.l3, show ¬ (i : Int) < (g.length : Int) from by omega, ↓reduceIte, wrap_up k (by omega)]
    exact hT
  | succ d ih =>
    intro i f hd hi hs
    have hil : i < g.length := by omega
    obtain ⟨f1, a1, a2, a3, a4⟩ := dist_l4 hv hk hil _ 0 f rfl (by omega) hs
    obtain ⟨f', h1, h2, h3, h4⟩ := ih (i + 1) f1 (by omega) (by omega) a2
    refine ⟨f', fun a b => Nat.le_trans (h1 a b) (a1 a b), h2, fun a b ha1 ha2 hb => ?_, fun T hT => Ev.of_succ ?_⟩
    · by_cases e : a = i
      · subst e
        exact Nat.le_trans (h1 a b) (a3 b (by omega) hb)
      · have := h3 a b (by omega) ha2 hb
        have := a1 a k
        have := a1 k b
        omega
    · simp only [changeforgeref6_Distance.l3, show (i : Int) < (g.length : Int) from by omega, ↓reduceIte]
      exact a4 T (h4 T hT)
theorem dist_l2 (hv : Val g) : ∀ (d k : Nat) (f : Nat → Nat → Nat), g.length - k = d → k ≤ g.length → Snd g f → Cmp g k f →
    ∃ f', Snd g f' ∧ Cmp g g.length f' ∧ Ev (fun m => changeforgeref6_Distance.l2 m g (tb g.length f) (k : Int)) (tb g.length f') := by
  intro d
  induction d with
  | zero =>
    intro k f hd hk hs hc
    obtain rfl : k = g.length := by omega
    refine ⟨f, hs, hc, Ev.of_succ ?_⟩
    simp only [changeforgeref6_Distance.l2, show ¬ (g.length : Int) < (g.length : Int) from by omega, ↓reduceIte]
    exact Ev.const _
  | succ d ih =>
    intro k f hd hk hs hc
    have hkl : k < g.length := by omega
    obtain ⟨f1, a1, a2, a3, a4⟩ := dist_l3 hv hkl _ 0 f rfl (by omega) hs
    obtain ⟨f', h1, h2, h3⟩ := ih (k + 1) f1 (by omega) (by omega) a2 (fun i j d' hi hj hw => by
      rcases hw.split with hw | ⟨a, b, hab, ha, hb⟩
      · exact Nat.le_trans (a1 i j) (hc i j d' hi hj hw)
      · have := a3 i j (by omega) hi hj
        have := hc i k a hi hkl ha
        have := hc k j b hkl hj hb
        omega)
    refine ⟨f', h1, h2, Ev.of_succ ?_⟩
    simp only [changeforgeref6_Distance.l2, show (k : Int) < (g.length : Int) from by omega, ↓reduceIte]
    exact a4 _ h3
/-- The table at the start. -/
def f0 (g : List (List Int)) (i j : Nat) : Nat := if (j : Int) ∈ adj g i then 1 else 1000
theorem dist_l1 (hv : Val g) {i : Nat} (hi : i < g.length) (T : List (List Int)) (X : List (List Int)) (hX : X.length = i) (hT : Ev (fun m => changeforgeref6_Distance.l0 m g (X ++ [tl g.length fun j => (f0 g i j : Int)]) ((i + 1 : Nat) : Int)) T) : ∀ (d j : Nat), g.length - j = d → j ≤ g.length →
    Ev (fun m => changeforgeref6_Distance.l1 m g X (i : Int) (tl j fun j => (f0 g i j : Int)) (j : Int)) T := by
  have hle := hv.le
  have hal := hv.len hi
  intro d
  induction d with
  | zero =>
    intro j hd hj
    obtain rfl : j = g.length := by omega
    refine Ev.of_succ ?_
    simp only [changeforgeref6_Distance.l1, show ¬ (g.length : Int) < (g.length : Int) from by omega, show X.length < 5864062014805 from by omega, ↓reduceIte, wrap_up i (by omega)]
    exact hT
  | succ d ih =>
    intro j hd hj
    have hjl : j < g.length := by omega
    refine Ev.of_succ ?_
    simp only [changeforgeref6_Distance.l1, show (j : Int) < (g.length : Int) from by omega, show (0 : Int) ≤ (i : Int) from by omega, show (i : Int) < (g.length : Int) from by omega, ↓reduceIte, tl_length, show j < 17592186044416 from by omega, wrap_up j (by omega)]
    refine Ev.bind (Has_ev (adj g i) (by omega) (j : Int)) ?_
    have h2 := ih (j + 1) (by omega) (by omega)
    rw [← tl_snoc] at h2
    by_cases hc : (j : Int) ∈ adj g i
    · have e : ((f0 g i j : Nat) : Int) = 1 := by simp [f0, hc]
      simp only [e] at h2
      simp only [decide_eq_true hc, ↓reduceIte]
      exact h2
    · have e : ((f0 g i j : Nat) : Int) = 1000 := by simp [f0, hc]
      simp only [e] at h2
      simp only [decide_eq_false hc, ↓reduceIte, Bool.false_eq_true]
      exact h2
theorem dist_l0 (hv : Val g) (T : List (List Int)) (hT : Ev (fun m => changeforgeref6_Distance.l2 m g (tb g.length (f0 g)) 0) T) : ∀ (d i : Nat), g.length - i = d → i ≤ g.length →
    Ev (fun m => changeforgeref6_Distance.l0 m g (tl i fun i => tl g.length fun j => (f0 g i j : Int)) (i : Int)) T := by
  have hle := hv.le
  intro d
  induction d with
  | zero =>
    intro i hd hi
    obtain rfl : i = g.length := by omega
    refine Ev.of_succ ?_
    simp only [changeforgeref6_Distance.l0, show ¬ (g.length : Int) < (g.length : Int) from by omega, ↓reduceIte]
    exact hT
  | succ d ih =>
    intro i hd hi
    have hil : i < g.length := by omega
    refine Ev.of_succ ?_
    simp only [changeforgeref6_Distance.l0, show (i : Int) < (g.length : Int) from by omega, ↓reduceIte]
    refine dist_l1 hv hil T _ (tl_length _ _) ?_ _ 0 rfl (by omega)
    have h2 := ih (i + 1) (by omega) (by omega)
    rw [← tl_snoc] at h2
    exact h2
/-- The table of distances. -/
def DT (g : List (List Int)) (f : Nat → Nat → Nat) : Prop := ∀ i j, i < g.length → j < g.length → (Rch g i j → Hit g (f i j) i j ∧ f i j ≤ 24) ∧ (¬ Rch g i j → f i j = 1000)
theorem Distance_ev (hv : Val g) : ∃ f, Ev (fun k => changeforgeref6_Distance.f k g) (tb g.length f) ∧ DT g f := by
  have hle := hv.le
  obtain ⟨f, h1, h2, h3⟩ := dist_l2 hv _ 0 (f0 g) rfl (by omega) (fun i j hi hj => by
    unfold f0
    split
    · exact ⟨by omega, fun _ => ⟨Nat.le_refl _, Wk.one ⟨hi, by assumption⟩⟩⟩
    · exact ⟨by omega, fun h => by omega⟩) (fun i j d hi hj hw => by
    match d, hw with
    | 0, hw => exact hw.elim
    | 1, hw => have h := (show E g i j from hw).2; simp [f0, h]
    | d + 2, ⟨m, hm, _⟩ => omega)
  refine ⟨f, ?_, fun i j hi hj => ⟨fun hr => ?_, fun hr => ?_⟩⟩
  · simp only [changeforgeref6_Distance.f]
    exact dist_l0 hv _ h3 _ 0 rfl (by omega)
  · obtain ⟨d, hd⟩ := hr.hit
    have hdl := hd.le hv
    obtain ⟨d', rfl⟩ : ∃ d', d = d' + 1 := ⟨d - 1, by have := hd.1; omega⟩
    have hc := h2 i j _ hi hj (Wk.wb hv hd.2.1)
    have hs := (h1 i j hi hj).2 (by omega)
    have he : f i j = d' + 1 := by
      apply Classical.byContradiction
      intro hne
      exact hd.2.2 (f i j) hs.1 (by omega) hs.2
    rw [he]
    exact ⟨hd, by omega⟩
  · have hs := h1 i j hi hj
    apply Classical.byContradiction
    intro hne
    have := hs.2 (by omega)
    exact hr ⟨_, this.1, this.2⟩
theorem FirstOnCycle_ev (hv : Val g) : ∃ r, Ev (fun k => changeforgeref6_FirstOnCycle.f k g) r ∧ Fst g r := by
  have hle := hv.le
  obtain ⟨f, h1, h2⟩ := Distance_ev hv
  have loop : ∀ d i, g.length - i = d → i ≤ g.length → (∀ j, j < i → ¬ Rch g j j) → ∃ r, Ev (fun k => changeforgeref6_FirstOnCycle.l0 k g (tb g.length f) (i : Int)) r ∧ Fst g r := by
    intro d
    induction d with
    | zero =>
      intro i hd hi hn
      refine ⟨-1, Ev.of_succ ?_, .inl ⟨rfl, fun j hj => hn j (by omega)⟩⟩
      simp only [changeforgeref6_FirstOnCycle.l0, show ¬ (i : Int) < (g.length : Int) from by omega, ↓reduceIte]
      exact Ev.const _
    | succ d ih =>
      intro i hd hi hn
      have hil : i < g.length := by omega
      by_cases hc : Rch g i i
      · have hf := ((h2 i i hil hil).1 hc).2
        refine ⟨(i : Int), Ev.of_succ ?_, .inr ⟨i, hil, rfl, hc, hn⟩⟩
        simp only [changeforgeref6_FirstOnCycle.l0, tb_length, tb_at _ _ i i hil hil, tb_row _ _ i hil, tl_length, tl_rd _ _ i hil, show (i : Int) < (g.length : Int) from by omega, show (0 : Int) ≤ (i : Int) from by omega, show ((f i i : Nat) : Int) < 1000 from by omega, ↓reduceIte]
        exact Ev.const _
      · have hf := (h2 i i hil hil).2 hc
        obtain ⟨r, h3, h4⟩ := ih (i + 1) (by omega) (by omega) (fun j hj => by
          by_cases e : j = i
          · rw [e]; exact hc
          · exact hn j (by omega))
        refine ⟨r, Ev.of_succ ?_, h4⟩
        simp only [changeforgeref6_FirstOnCycle.l0, tb_length, tb_at _ _ i i hil hil, tb_row _ _ i hil, tl_length, tl_rd _ _ i hil, show (i : Int) < (g.length : Int) from by omega, show (0 : Int) ≤ (i : Int) from by omega, show ¬ ((f i i : Nat) : Int) < 1000 from by omega, ↓reduceIte, wrap_up i (by omega)]
        exact h3
  obtain ⟨r, h3, h4⟩ := loop _ 0 rfl (by omega) (fun j hj => by omega)
  exact ⟨r, by simp only [changeforgeref6_FirstOnCycle.f]; exact Ev.bind h1 h3, h4⟩
end
end Go.Proofs.Ytffcaglfcnmhdaa.H
end
section
namespace Go.Proofs.Ytffcaglfcnmhdaa.H
open Go.RowKit Go.Proofs.YtffcaglfcnmhdaaW.PrintWords Go.Proofs.YtffcaglfcnmhdaaW.PrintLast Go.Proofs.YtffcaglfcnmhdaaW.PrintMore
set_option linter.unusedVariables false
set_option linter.unusedSimpArgs false
open Go.RowKit
/-- The list of distances to s, as far as step (d, i). -/
def DQ (g : List (List Int)) (s d i : Nat) (q : Nat → Int) : Prop := ∀ a, a < g.length → (∃ e : Nat, Hit g e a s ∧ (e < d ∨ (e = d ∧ a < i)) ∧ q a = (e : Int)) ∨ (q a = -1 ∧ ∀ e, Hit g e a s → ¬ (e < d ∨ (e = d ∧ a < i)))
theorem DQ.near {g : List (List Int)} (hv : Val g) {s d i : Nat} {q : Nat → Int} (h : DQ g s d i q) (hi : i < g.length) (hs : s < g.length) (hd : 1 ≤ d) (hq : ∀ e, Hit g e i s → ¬ e < d) : ((adj g i).any (disP (s : Int) (d : Int) (tl g.length q))) = true ↔ Hit g d i s := by
  have hle := hv.le
  rw [List.any_eq_true]
  constructor
  · rintro ⟨x, hx, hp⟩
    have hr := (hv.ok i hi).rng x hx
    obtain ⟨m, rfl⟩ : ∃ m : Nat, x = (m : Int) := ⟨x.toNat, by omega⟩
    unfold disP at hp
    have he : E g i m := ⟨hi, hx⟩
    have hw : Wk g d i s := by
      by_cases e : (m : Int) = (s : Int)
      · rw [if_pos e, decide_eq_true_iff] at hp
        obtain rfl : m = s := by omega
        rw [show d = 1 from by omega]
        exact Wk.one he
      · rw [if_neg e, Bool.and_eq_true, beq_iff_eq, decide_eq_true_iff, tl_rd _ _ m (by omega)] at hp
        rcases h m (by omega) with ⟨f, hf, _, hqf⟩ | ⟨hqf, _⟩
        · obtain ⟨d', rfl⟩ : ∃ d', d = d' + 1 := ⟨d - 1, by omega⟩
          obtain rfl : f = d' := by omega
          exact ⟨m, he, hf.2.1⟩
        · omega
    obtain ⟨f, hf⟩ := (show Rch g i s from ⟨d, hd, hw⟩).hit
    have := hq f hf
    have : f = d := by
      apply Classical.byContradiction
      intro hne
      exact hf.2.2 d hd (by omega) hw
    rw [← this]
    exact hf
  · intro hh
    by_cases hd1 : d = 1
    · subst hd1
      obtain ⟨m, he, hm⟩ := hh.2.1
      cases hm
      exact ⟨(s : Int), he.2, by unfold disP; rw [if_pos rfl]; rfl⟩
    · obtain ⟨d', rfl⟩ : ∃ d', d = d' + 1 := ⟨d - 1, by omega⟩
      obtain ⟨m, he, hne, hm⟩ := hh.next (by omega)
      have hml := (he.lt hv).2
      refine ⟨(m : Int), he.2, ?_⟩
      unfold disP
      rw [if_neg (by omega), Bool.and_eq_true, beq_iff_eq, decide_eq_true_iff, tl_rd _ _ m hml]
      refine ⟨?_, by omega⟩
      rcases h m hml with ⟨f, hf, _, hqf⟩ | ⟨_, hqf⟩
      · have := hf.uniq hm
        omega
      · exact absurd (.inl (by omega)) (hqf d' hm)
theorem DQ.step {g : List (List Int)} {s d i : Nat} {q : Nat → Int} (h : DQ g s d i q) (hi : i < g.length) : (∀ e, Hit g e i s → e < d → DQ g s d (i + 1) q) ∧ ((∀ e, Hit g e i s → ¬ e < d) → Hit g d i s → DQ g s d (i + 1) (fun k => if k = i then (d : Int) else q k)) ∧ ((∀ e, Hit g e i s → ¬ e < d) → ¬ Hit g d i s → DQ g s d (i + 1) q) := by
  refine ⟨fun e he hlt a ha => ?_, fun hn hh a ha => ?_, fun hn hh a ha => ?_⟩
  · rcases h a ha with ⟨f, hf, h1, h2⟩ | ⟨h1, h2⟩
    · exact .inl ⟨f, hf, by omega, h2⟩
    · refine .inr ⟨h1, fun f hf h3 => ?_⟩
      by_cases ea : a = i
      · subst ea
        exact h2 e he (.inl hlt)
      · exact h2 f hf (by omega)
  · by_cases ea : a = i
    · subst ea
      exact .inl ⟨d, hh, .inr ⟨rfl, by omega⟩, by simp⟩
    · simp only [if_neg ea]
      rcases h a ha with ⟨f, hf, h1, h2⟩ | ⟨h1, h2⟩
      · exact .inl ⟨f, hf, by omega, h2⟩
      · exact .inr ⟨h1, fun f hf h3 => h2 f hf (by omega)⟩
  · rcases h a ha with ⟨f, hf, h1, h2⟩ | ⟨h1, h2⟩
    · exact .inl ⟨f, hf, by omega, h2⟩
    · refine .inr ⟨h1, fun f hf h3 => ?_⟩
      by_cases ea : a = i
      · subst ea
        rcases h3 with h3 | ⟨h3, _⟩
        · exact hn f hf h3
        · rw [h3] at hf; exact hh hf
      · exact h2 f hf (by omega)
theorem dis_l1 {g : List (List Int)} (hv : Val g) {s d : Nat} (hs : s < g.length) (hd : 1 ≤ d) (hd2 : d ≤ g.length) : ∀ (c i : Nat) (q : Nat → Int), g.length - i = c → i ≤ g.length → DQ g s d i q →
    ∃ q', DQ g s (d + 1) 0 q' ∧ ∀ T, Ev (fun k => depgraph_distances.l0 k g (s : Int) (tl g.length q') ((d + 1 : Nat) : Int)) T → Ev (fun k => depgraph_distances.l1 k g (s : Int) (d : Int) (tl g.length q) (i : Int)) T := by
  have hle := hv.le
  intro c
  induction c with
  | zero =>
    intro i q hc hi h
    refine ⟨q, fun a ha => ?_, fun T hT => Ev.of_succ ?_⟩
    · rcases h a ha with ⟨f, hf, h1, h2⟩ | ⟨h1, h2⟩
      · exact .inl ⟨f, hf, by omega, h2⟩
      · exact .inr ⟨h1, fun f hf h3 => h2 f hf (by omega)⟩
    · simp only [depgraph_distances.l1, show ¬ (i : Int) < (g.length : Int) from by omega, ↓reduceIte, wrap_up d (by omega)]
      exact hT
  | succ c ih =>
    intro i q hc hi h
    have hil : i < g.length := by omega
    have hok : disOk (s : Int) (tl g.length q) (rd_L1 g (i : Int)) = true := by
      unfold disOk
      rw [List.all_eq_true]
      intro x hx
      have := (hv.ok i hil).rng x hx
      rw [tl_length]
      simp [this]
    obtain ⟨s1, s2, s3⟩ := h.step hil
    have base : ∀ (Z : Nat → Option (List Int)) T, Ev Z T → True := fun _ _ _ => trivial
    by_cases hq : ∃ e, Hit g e i s ∧ e < d
    · obtain ⟨e, he, hlt⟩ := hq
      obtain ⟨q', h1, h2⟩ := ih (i + 1) q (by omega) (by omega) (s1 e he hlt)
      refine ⟨q', h1, fun T hT => Ev.of_succ ?_⟩
      have hnn : ¬ q i < 0 := by
        rcases h i hil with ⟨f, hf, _, h4⟩ | ⟨_, h4⟩
        · omega
        · exact absurd (.inl hlt) (h4 e he)
      simp only [depgraph_distances.l1, show (i : Int) < (g.length : Int) from by omega, show (0 : Int) ≤ (i : Int) from by omega, hok, tl_length, tl_rd _ _ i hil, hnn, ↓reduceIte, wrap_up i (by omega)]
      exact h2 T hT
    · have hn : ∀ e, Hit g e i s → ¬ e < d := fun e he hlt => hq ⟨e, he, hlt⟩
      have hqi : q i < 0 := by
        rcases h i hil with ⟨f, hf, h3, _⟩ | ⟨h4, _⟩
        · have := hn f hf; omega
        · omega
      have hnear := h.near hv hil hs hd hn
      by_cases hh : Hit g d i s
      · obtain ⟨q', h1, h2⟩ := ih (i + 1) _ (by omega) (by omega) (s2 hn hh)
        refine ⟨q', h1, fun T hT => Ev.of_succ ?_⟩
        simp only [depgraph_distances.l1, show (i : Int) < (g.length : Int) from by omega, show (0 : Int) ≤ (i : Int) from by omega, hok, tl_length, tl_rd _ _ i hil, hqi, hnear.2 hh, ↓reduceIte, wrap_up i (by omega), Int.toNat_natCast, tl_set]
        exact h2 T hT
      · obtain ⟨q', h1, h2⟩ := ih (i + 1) q (by omega) (by omega) (s3 hn hh)
        refine ⟨q', h1, fun T hT => Ev.of_succ ?_⟩
        simp only [depgraph_distances.l1, show (i : Int) < (g.length : Int) from by omega, show (0 : Int) ≤ (i : Int) from by omega, hok, tl_length, tl_rd _ _ i hil, hqi, show ((rd_L1 g (i : Int)).any (disP (s : Int) (d : Int) (tl g.length q)) = true) = False from eq_false fun h' => hh (hnear.1 h'), ↓reduceIte, wrap_up i (by omega)]
        exact h2 T hT
theorem dis_l0 {g : List (List Int)} (hv : Val g) {s : Nat} (hs : s < g.length) : ∀ (c d : Nat) (q : Nat → Int), g.length + 1 - d = c → 1 ≤ d → d ≤ g.length + 1 → DQ g s d 0 q →
    ∃ q', DQ g s (g.length + 1) 0 q' ∧ Ev (fun k => depgraph_distances.l0 k g (s : Int) (tl g.length q) (d : Int)) (tl g.length q') := by
  have hle := hv.le
  intro c
  induction c with
  | zero =>
    intro d q hc h1 hd h
    obtain rfl : d = g.length + 1 := by omega
    refine ⟨q, h, Ev.of_succ ?_⟩
    simp only [depgraph_distances.l0, show ¬ ((g.length + 1 : Nat) : Int) ≤ (g.length : Int) from by omega, ↓reduceIte]
    exact Ev.const _
  | succ c ih =>
    intro d q hc h1 hd h
    obtain ⟨q1, h3, h4⟩ := dis_l1 hv hs h1 (by omega) _ 0 q rfl (by omega) h
    obtain ⟨q', h5, h6⟩ := ih (d + 1) q1 (by omega) (by omega) (by omega) h3
    refine ⟨q', h5, Ev.of_succ ?_⟩
    simp only [depgraph_distances.l0, show (d : Int) ≤ (g.length : Int) from by omega, show (1 : Int) ≤ (d : Int) ∧ (d : Int) ≤ 1000000 from by omega, and_self, ↓reduceIte]
    exact h4 _ h6
/-- All distances to s, -1 for none. -/
def DS (g : List (List Int)) (s : Nat) (q : Nat → Int) : Prop := ∀ a, a < g.length → ∀ e : Nat, 1 ≤ e → (q a = (e : Int) ↔ Hit g e a s)
theorem distances_ev {g : List (List Int)} (hv : Val g) {s : Nat} (hs : s < g.length) : ∃ q, DS g s q ∧ Ev (fun k => depgraph_distances.f k g (s : Int)) (tl g.length q) := by
  have hle := hv.le
  obtain ⟨q, h1, h2⟩ := dis_l0 hv hs _ 1 (fun _ => -1) rfl (by omega) (by omega) (fun a ha => .inr ⟨rfl, fun e he h => by have := he.1; omega⟩)
  refine ⟨q, fun a ha e he => ?_, ?_⟩
  · rcases h1 a ha with ⟨f, hf, _, hqf⟩ | ⟨hqf, hn⟩
    · constructor
      · intro h; obtain rfl : e = f := by omega
        exact hf
      · intro h; rw [h.uniq hf]; exact hqf
    · constructor
      · intro h; omega
      · intro h; exact absurd (.inl (by have := h.le hv; omega)) (hn e h)
  · simp only [depgraph_distances.f, show g.length ≤ 1000000 from by omega, ↓reduceIte, tl_const]
    exact h2
end Go.Proofs.Ytffcaglfcnmhdaa.H
end
section
namespace Go.Proofs.Ytffcaglfcnmhdaa.H
open Go.RowKit Go.Proofs.YtffcaglfcnmhdaaW.PrintWords Go.Proofs.YtffcaglfcnmhdaaW.PrintLast Go.Proofs.YtffcaglfcnmhdaaW.PrintMore
set_option linter.unusedVariables false
set_option linter.unusedSimpArgs false
open Go.RowKit
theorem idxF_first (p : Int → Bool) : ∀ (l : List Int), l.Pairwise (· < ·) → (∃ x ∈ l, p x = true) → ∃ j, j < l.length ∧ idxF p l = (j : Int) ∧ p (rd l (j : Int)) = true ∧ ∀ y ∈ l, p y = true → rd l (j : Int) ≤ y
  | [], _, ⟨x, hx, _⟩ => by simp at hx
  | x :: l, hp, ⟨y, hy, hpy⟩ => by
    rw [List.pairwise_cons] at hp
    by_cases h : p x = true
    · refine ⟨0, by simp, by simp [idxF, h], h, fun z hz _ => ?_⟩
      show x ≤ z
      rcases List.mem_cons.1 hz with e | e
      · omega
      · have := hp.1 z e; omega
    · have hy' : y ∈ l := by
        rcases List.mem_cons.1 hy with e | e
        · rw [e] at hpy; exact absurd hpy h
        · exact e
      obtain ⟨j, h1, h2, h3, h4⟩ := idxF_first p l hp.2 ⟨y, hy', hpy⟩
      have hr : rd (x :: l) ((j + 1 : Nat) : Int) = rd l (j : Int) := by simp [rd]
      refine ⟨j + 1, by simpa using h1, ?_, by rw [hr]; exact h3, fun z hz hpz => ?_⟩
      · simp only [idxF, h, h2, Bool.false_eq_true, ↓reduceIte, show ¬ (j : Int) < 0 from by omega]
        omega
      · rw [hr]
        rcases List.mem_cons.1 hz with e | e
        · rw [e] at hpz; exact absurd hpz h
        · exact h4 z e hpz
/-- The least neighbour of v that is one nearer to s. -/
def Nxt (g : List (List Int)) (s L v m : Nat) : Prop := E g v m ∧ m ≠ s ∧ Hit g (L - 1) m s ∧ ∀ y, E g v y → y ≠ s → Hit g (L - 1) y s → m ≤ y
/-- The way from v, L edges away, home to s. -/
def Chn (g : List (List Int)) (s : Nat) : Nat → Nat → List Int → Prop
  | L, _, [] => L = 1
  | L, v, x :: t => 2 ≤ L ∧ ∃ m : Nat, x = (m : Int) ∧ Nxt g s L v m ∧ Chn g s (L - 1) m t
theorem nxt_ex {g : List (List Int)} (hv : Val g) {s L v : Nat} (hL : 2 ≤ L) (h : Hit g L v s) : ∃ m, Nxt g s L v m := by
  obtain ⟨L', rfl⟩ : ∃ a, L = a + 1 := ⟨L - 1, by omega⟩
  obtain ⟨m, he, hne, hm⟩ := h.next (by omega)
  have : ∀ n m, n = m → E g v m → m ≠ s → Hit g L' m s → ∃ m, Nxt g s (L' + 1) v m := by
    intro n
    induction n using Nat.strongRecOn with
    | _ n ih =>
      intro m hnm he hne hm
      by_cases hc : ∃ y, E g v y ∧ y ≠ s ∧ Hit g L' y s ∧ y < m
      · obtain ⟨y, h1, h2, h3, h4⟩ := hc
        exact ih y (by omega) y rfl h1 h2 h3
      · refine ⟨m, he, hne, hm, fun y h1 h2 h3 => ?_⟩
        apply Classical.byContradiction
        intro h4
        exact hc ⟨y, h1, h2, h3, by omega⟩
  exact this m m rfl he hne hm
theorem Nxt.uniq {g : List (List Int)} {s L v m m' : Nat} (h : Nxt g s L v m) (h' : Nxt g s L v m') : m = m' := by
  have := h.2.2.2 m' h'.1 h'.2.1 h'.2.2.1
  have := h'.2.2.2 m h.1 h.2.1 h.2.2.1
  omega
theorem Cycle_l0 {g : List (List Int)} (hv : Val g) {s : Nat} {q : Nat → Int} (hq : DS g s q) : ∀ (L v : Nat) (out : List Int), v < g.length → Hit g L v s → out.length + L ≤ 1000 →
    ∃ t, Chn g s L v t ∧ Ev (fun k => depgraph_Cycle.l0 k g (s : Int) (tl g.length q) out (v : Int) (L : Int)) (out ++ t) := by
  have hle := hv.le
  intro L
  induction L with
  | zero => intro v out _ h; exact absurd h.1 (by omega)
  | succ L ih =>
    intro v out hvl h ho
    by_cases hL : L = 0
    · subst hL
      refine ⟨[], rfl, Ev.of_succ ?_⟩
      simp only [depgraph_Cycle.l0, show ¬ (1 : Int) < ((0 + 1 : Nat) : Int) from by omega, ↓reduceIte, List.append_nil]
      exact Ev.const _
    · obtain ⟨m, hm⟩ := nxt_ex hv (by omega) h
      have hml := (hm.1.lt hv).2
      obtain ⟨t, h1, h2⟩ := ih m (out ++ [(m : Int)]) hml hm.2.2.1 (by rw [List.length_append]; simp; omega)
      have hp : ∀ y : Nat, y < g.length → (cycP (s : Int) ((L + 1 : Nat) : Int) (tl g.length q) (y : Int) = true ↔ y ≠ s ∧ Hit g L y s) := by
        intro y hy
        unfold cycP
        rw [Bool.and_eq_true, bne_iff_ne, beq_iff_eq, tl_rd _ _ y hy, show (((L + 1 : Nat) : Int) - 1) = ((L : Nat) : Int) from by omega, hq y hy L (by omega)]
        exact ⟨fun h => ⟨fun e => h.1 (by rw [e]), h.2⟩, fun h => ⟨fun e => h.1 (by omega), h.2⟩⟩
      have hg := hv.ok v hvl
      obtain ⟨j, k1, k2, k3, k4⟩ := idxF_first (cycP (s : Int) ((L + 1 : Nat) : Int) (tl g.length q)) (adj g v) hg.inc ⟨(m : Int), hm.1.2, (hp m hml).2 ⟨hm.2.1, hm.2.2.1⟩⟩
      obtain ⟨x, hx1, hx2, hx3, hx4⟩ := hv.adj_get hvl k1
      have hxm : x = m := by
        rw [hx2] at k3 k4
        have h3 := (hp x hx1).1 k3
        have h4 := k4 (m : Int) hm.1.2 ((hp m hml).2 ⟨hm.2.1, hm.2.2.1⟩)
        have h5 := hm.2.2.2 x hx4 h3.1 h3.2
        omega
      subst hxm
      have hok : disOk (s : Int) (tl g.length q) (rd_L1 g (v : Int)) = true := by
        unfold disOk
        rw [List.all_eq_true]
        intro x hx
        have := hg.rng x hx
        rw [tl_length]
        simp [this]
      refine ⟨(x : Int) :: t, ⟨by omega, x, rfl, hm, h1⟩, Ev.of_succ ?_⟩
      simp only [depgraph_Cycle.l0, show (1 : Int) < ((L + 1 : Nat) : Int) from by omega, show ((L + 1 : Nat) : Int) ≤ 1000000 from by omega, show (0 : Int) ≤ (v : Int) ∧ (v : Int) < (g.length : Int) from by omega, hok, k2, hx2, show (0 : Int) ≤ (j : Int) ∧ (j : Int) < ((adj g v).length : Int) from by omega, and_self, show out.length < 17592186044416 from by omega, ↓reduceIte, show (((L + 1 : Nat) : Int) - 1) = ((L : Nat) : Int) from by omega]
      rw [List.append_assoc] at h2
      exact h2
theorem Chn.uniq {g : List (List Int)} {s : Nat} : ∀ {L v : Nat} {t t' : List Int}, Chn g s L v t → Chn g s L v t' → t = t'
  | L, v, [], [], _, _ => rfl
  | L, v, [], y :: t', h, h' => by have h1 : L = 1 := h; have := h'.1; omega
  | L, v, x :: t, [], h, h' => by have h1 : L = 1 := h'; have := h.1; omega
  | L, v, x :: t, y :: t', ⟨_, m, e, hm, h⟩, ⟨_, m', e', hm', h'⟩ => by
    obtain rfl := hm.uniq hm'
    rw [e, e', h.uniq h']
theorem Short_l1 {g : List (List Int)} (hv : Val g) {s : Nat} (hs : s < g.length) {f : Nat → Nat → Nat} (hf : DT g f) {L v m : Nat} (hL : 1 ≤ L) (hLl : L ≤ 24) (hvl : v < g.length) (hm : Nxt g s (L + 1) v m) (out T : List Int) (ho : out.length ≤ 1000)
    (hT : Ev (fun k => changeforgeref6_ShortestCycle.l0 k g (s : Int) (tb g.length f) (out ++ [(m : Int)]) (m : Int) ((L : Int) - 1)) T) :
    ∀ (c : Nat) (best : Int), c ≤ g.length → (best = (m : Int) ∨ m < c) → (c ≤ m → best = (m : Int)) → Ev (fun k => changeforgeref6_ShortestCycle.l1 k g (s : Int) (tb g.length f) out (v : Int) (L : Int) best ((c : Int) - 1)) T := by
  have hle := hv.le
  have hml := (hm.1.lt hv).2
  intro c
  induction c with
  | zero =>
    intro best _ h1 h2
    have hb := h2 (by omega)
    refine Ev.of_succ ?_
    simp only [changeforgeref6_ShortestCycle.l1, show ¬ (((0 : Nat) : Int) - 1 ≥ 0) from by omega, show out.length < 17592186044416 from by omega, ↓reduceIte, wrap_lt (show -9223372036854775808 ≤ (L : Int) - 1 from by omega) (by omega), hb]
    exact hT
  | succ c ih =>
    intro best hc h1 h2
    have hcl : c < g.length := by omega
    refine Ev.of_succ ?_
    have e1 : ((c + 1 : Nat) : Int) - 1 = (c : Int) := by omega
    simp only [changeforgeref6_ShortestCycle.l1, e1, show (c : Int) ≥ 0 from by omega, show (0 : Int) ≤ (v : Int) from by omega, show (v : Int) < (g.length : Int) from by omega, ↓reduceIte]
    have hal := hv.len hvl
    refine Ev.bind (Has_ev (adj g v) (by omega) (c : Int)) ?_
    have hw : wrap64 ((c : Int) - 1) = (c : Int) - 1 := wrap_lt (by omega) (by omega)
    have skip : c ≠ m → Ev (fun k => changeforgeref6_ShortestCycle.l1 k g (s : Int) (tb g.length f) out (v : Int) (L : Int) best ((c : Int) - 1)) T := fun hne => by
      refine ih best (by omega) ?_ (fun h => h2 (by omega))
      rcases h1 with h1 | h1
      · exact .inl h1
      · exact .inr (by omega)
    by_cases hE : (c : Int) ∈ adj g v
    · by_cases hcs : c = s
      · simp only [hE, decide_true, show ((c : Int) = (s : Int)) = True from eq_true (by omega), ↓reduceIte, hw]
        exact skip (fun e => hm.2.1 (by omega))
      · have hfc := hf c s hcl hs
        by_cases hh : Hit g L c s
        · have he : f c s = L := ((hfc.1 hh.rch).1).uniq hh
          simp only [hE, decide_true, show ((c : Int) = (s : Int)) = False from eq_false (by omega), tb_length, show (c : Int) < (g.length : Int) from by omega, show (0 : Int) ≤ (s : Int) from by omega, tb_row _ _ c hcl, tl_length, show (s : Int) < (g.length : Int) from by omega, tl_rd _ _ s hs, he, show (0 : Int) ≤ (c : Int) from by omega, ↓reduceIte, hw]
          have hmc := hm.2.2.2 c ⟨hvl, hE⟩ hcs hh
          refine ih (c : Int) (by omega) ?_ (fun h => by omega)
          by_cases e : m = c
          · left; rw [e]
          · right; omega
        · have hne : f c s ≠ L := by
            intro e
            by_cases hr : Rch g c s
            · have := (hfc.1 hr).1
              rw [e] at this
              exact hh this
            · have := hfc.2 hr
              omega
          simp only [hE, decide_true, show ((c : Int) = (s : Int)) = False from eq_false (by omega), tb_length, show (c : Int) < (g.length : Int) from by omega, show (0 : Int) ≤ (s : Int) from by omega, tb_row _ _ c hcl, tl_length, show (s : Int) < (g.length : Int) from by omega, tl_rd _ _ s hs, show (((f c s : Nat) : Int) = (L : Int)) = False from eq_false (by omega), show (0 : Int) ≤ (c : Int) from by omega, ↓reduceIte, hw]
          exact skip (fun e => hh (by rw [e]; exact hm.2.2.1))
    · simp only [hE, decide_false, Bool.false_eq_true, ↓reduceIte, hw]
      exact skip (fun e => hE (by rw [e]; exact hm.1.2))
theorem Short_l0 {g : List (List Int)} (hv : Val g) {s : Nat} (hs : s < g.length) {f : Nat → Nat → Nat} (hf : DT g f) : ∀ (L v : Nat) (out : List Int), v < g.length → Hit g L v s → out.length + L ≤ 1000 →
    ∃ t, Chn g s L v t ∧ Ev (fun k => changeforgeref6_ShortestCycle.l0 k g (s : Int) (tb g.length f) out (v : Int) ((L : Int) - 1)) (out ++ t) := by
  have hle := hv.le
  intro L
  induction L with
  | zero => intro v out _ h; exact absurd h.1 (by omega)
  | succ L ih =>
    intro v out hvl h ho
    have hLl := h.le hv
    by_cases hL : L = 0
    · subst hL
      refine ⟨[], rfl, Ev.of_succ ?_⟩
      simp only [changeforgeref6_ShortestCycle.l0, show ¬ (((0 + 1 : Nat) : Int) - 1 > 0) from by omega, ↓reduceIte, List.append_nil]
      exact Ev.const _
    · obtain ⟨m, hm⟩ := nxt_ex hv (by omega) h
      have hml := (hm.1.lt hv).2
      obtain ⟨t, h1, h2⟩ := ih m (out ++ [(m : Int)]) hml hm.2.2.1 (by rw [List.length_append]; simp; omega)
      refine ⟨(m : Int) :: t, ⟨by omega, m, rfl, hm, h1⟩, Ev.of_succ ?_⟩
      rw [List.append_assoc] at h2
      have := Short_l1 hv hs hf (by omega) (by omega) hvl hm out _ (by omega) h2 g.length (-1) (Nat.le_refl _) (.inr hml) (fun h => by omega)
      simp only [changeforgeref6_ShortestCycle.l0, show ((L + 1 : Nat) : Int) - 1 = (L : Int) from by omega, show (L : Int) > 0 from by omega, ↓reduceIte, wrap_lt (show -9223372036854775808 ≤ (g.length : Int) - 1 from by omega) (by omega)]
      exact this
end Go.Proofs.Ytffcaglfcnmhdaa.H
end
section
namespace Go.Proofs.Ytffcaglfcnmhdaa.H
open Go.RowKit Go.Proofs.YtffcaglfcnmhdaaW.PrintWords Go.Proofs.YtffcaglfcnmhdaaW.PrintLast Go.Proofs.YtffcaglfcnmhdaaW.PrintMore
set_option linter.unusedVariables false
set_option linter.unusedSimpArgs false
open Go.RowKit
/-- The numbers below N that p holds of. -/
def fl (N : Nat) (p : Nat → Bool) : List Int := ((List.range N).filter p).map (fun i : Nat => (i : Int))
theorem fl_succ (N : Nat) (p : Nat → Bool) : fl (N + 1) p = if p N = true then fl N p ++ [(N : Int)] else fl N p := by
  unfold fl
  rw [List.range_succ, List.filter_append]
  by_cases h : p N = true
  · rw [if_pos h]; simp [h]
  · rw [if_neg h]; simp [h]
theorem fl_len (N : Nat) (p : Nat → Bool) : (fl N p).length ≤ N := by
  unfold fl
  rw [List.length_map]
  exact Nat.le_trans (List.length_filter_le _ _) (by simp)
/-- i is affected: it is among l, or leads to one of l. -/
def Af (g : List (List Int)) (l : List Int) (i : Nat) : Prop := (i : Int) ∈ l ∨ ∃ x : Nat, (x : Int) ∈ l ∧ Rch g i x
noncomputable def af (g : List (List Int)) (l : List Int) (i : Nat) : Bool := @decide (Af g l i) (Classical.propDecidable _)
theorem af_iff {g : List (List Int)} {l : List Int} {i : Nat} : af g l i = true ↔ Af g l i := by unfold af; exact @decide_eq_true_iff _ (Classical.propDecidable _)
noncomputable def afF (g : List (List Int)) (l : List Int) : List Int × Int × Int := if (gf g).1 = 0 then (if lc g.length none l = 0 then (fl g.length (af g l), 0, 0) else ([], lc g.length none l, -2)) else ([], (gf g).1, (gf g).2)
theorem Affected_ev (g : List (List Int)) (hl : ∀ l ∈ g, l.length ≤ 9223372036854775807) (l : List Int) (hll : l.length ≤ 9223372036854775807) : Ev (fun k => depgraph_Affected.f k g l) (afF g l) := by
  simp only [depgraph_Affected.f]
  refine Ev.bind (Validate_ev g hl) ?_
  unfold afF
  by_cases h0 : (gf g).1 = 0
  · obtain ⟨h1, hv⟩ := gf_val h0
    rw [h1]
    simp only [beq_self_eq_true, Bool.not_true, Bool.or_self, Bool.false_eq_true, ↓reduceIte]
    refine Ev.bind (list_ev g.length l hll) ?_
    by_cases h2 : lc g.length none l = 0
    · have hg := (lc_good _ _ _ h2).1
      have hle := hv.le
      simp only [h2, ↓reduceIte]
      have loop : ∀ d i, g.length - i = d → i ≤ g.length → Ev (fun k => depgraph_Affected.l0 k g l (fl i (af g l)) (i : Int)) (fl g.length (af g l)) := by
        intro d
        induction d with
        | zero =>
          intro i hd hi
          obtain rfl : i = g.length := by omega
          refine Ev.of_succ ?_
          simp only [depgraph_Affected.l0, show ¬ (g.length : Int) < (g.length : Int) from by omega, ↓reduceIte]
          exact Ev.const _
        | succ d ih =>
          intro i hd hi
          have hil : i < g.length := by omega
          obtain ⟨q, h3, h4⟩ := reach_ev hv hil
          refine Ev.of_succ ?_
          simp only [depgraph_Affected.l0, show (i : Int) < (g.length : Int) from by omega, ↓reduceIte]
          refine Ev.bind h3 ?_
          have hall : (l.all fun x => decide (0 ≤ x) && decide (x < ((tl g.length q).length : Int))) = true := by
            rw [List.all_eq_true]
            intro x hx
            have := hg.rng x hx
            rw [tl_length]
            simp [this]
          have hany : (l.any fun x => x == (i : Int) || rdOf false (tl g.length q) x) = af g l i := by
            rw [Bool.eq_iff_iff, af_iff, List.any_eq_true]
            constructor
            · rintro ⟨x, hx, h⟩
              have hr := hg.rng x hx
              rw [Bool.or_eq_true, beq_iff_eq] at h
              rcases h with h | h
              · rw [h] at hx; exact .inl hx
              · obtain ⟨n, rfl⟩ : ∃ n : Nat, x = (n : Int) := ⟨x.toNat, by omega⟩
                rw [tl_rdOf false _ _ n (by omega)] at h
                exact .inr ⟨n, hx, (h4 n (by omega)).1 h⟩
            · rintro (h | ⟨n, hx, h⟩)
              · exact ⟨i, h, by simp⟩
              · have hr := hg.rng _ hx
                refine ⟨n, hx, ?_⟩
                rw [tl_rdOf false _ _ n (by omega), (h4 n (by omega)).2 h]
                simp
          have h5 := ih (i + 1) (by omega) (by omega)
          rw [fl_succ] at h5
          have := fl_len i (af g l)
          simp only [hall, hany, ↓reduceIte, wrap_up i (by omega), show (fl i (af g l)).length < 17592186044416 from by omega]
          by_cases hc : af g l i = true
          · simp only [hc, ↓reduceIte] at h5 ⊢
            exact h5
          · simp only [hc, ↓reduceIte] at h5 ⊢
            exact h5
      refine Ev.bind (loop _ 0 rfl (by omega)) ?_
      exact Ev.const _
    · simp only [h2, ↓reduceIte]
      exact Ev.const _
  · have hb : (!((gf g).1 == 0) || !((gf g).2 == 0)) = true := by simp [h0]
    simp only [hb, h0, ↓reduceIte]
    exact Ev.const _
/-- An affected node: one of l, or with an affected neighbour. -/
theorem Af.step {g : List (List Int)} {l : List Int} {i : Nat} : Af g l i ↔ (i : Int) ∈ l ∨ ∃ m, E g i m ∧ Af g l m := by
  constructor
  · rintro (h | ⟨x, hx, hr⟩)
    · exact .inl h
    · obtain ⟨m, he, h⟩ := hr.fst
      rcases h with rfl | h
      · exact .inr ⟨m, he, .inl hx⟩
      · exact .inr ⟨m, he, .inr ⟨x, hx, h⟩⟩
  · rintro (h | ⟨m, he, h | ⟨x, hx, hr⟩⟩)
    · exact .inl h
    · exact .inr ⟨m, h, Rch.one he⟩
    · exact .inr ⟨x, hx, (Rch.one he).trans hr⟩
end Go.Proofs.Ytffcaglfcnmhdaa.H
end
section
namespace Go.Proofs.Ytffcaglfcnmhdaa.H
open Go.RowKit Go.Proofs.YtffcaglfcnmhdaaW.PrintWords Go.Proofs.YtffcaglfcnmhdaaW.PrintLast Go.Proofs.YtffcaglfcnmhdaaW.PrintMore
set_option linter.unusedVariables false
set_option linter.unusedSimpArgs false
open Go.RowKit
theorem Cycle_bad {g : List (List Int)} (hl : ∀ l ∈ g, l.length ≤ 9223372036854775807) (h0 : (gf g).1 ≠ 0) : Ev (fun k => depgraph_Cycle.f k g) ([], false, (gf g).1, (gf g).2) := by
  simp only [depgraph_Cycle.f]
  refine Ev.bind (Validate_ev g hl) ?_
  simp only [show (!((gf g).1 == 0) || !((gf g).2 == 0)) = true from by simp [h0], ↓reduceIte]
  exact Ev.const _
theorem Cycle_ev {g : List (List Int)} (hl : ∀ l ∈ g, l.length ≤ 9223372036854775807) (h0 : (gf g).1 = 0) : (∀ i, i < g.length → ¬ Rch g i i) ∧ Ev (fun k => depgraph_Cycle.f k g) ([], false, 0, 0) ∨
    ∃ (s L : Nat) (t : List Int), s < g.length ∧ (∀ j, j < s → ¬ Rch g j j) ∧ Hit g L s s ∧ Chn g s L s t ∧ Ev (fun k => depgraph_Cycle.f k g) ((s : Int) :: t, true, 0, 0) := by
  obtain ⟨h1, hv⟩ := gf_val h0
  have hle := hv.le
  obtain ⟨r, hr, hf⟩ := first_ev hv
  rcases hf with ⟨rfl, hn⟩ | ⟨s, hs, rfl, hrr, hmin⟩
  · refine .inl ⟨hn, ?_⟩
    simp only [depgraph_Cycle.f]
    refine Ev.bind (Validate_ev g hl) ?_
    rw [h1]
    simp only [beq_self_eq_true, Bool.not_true, Bool.or_self, Bool.false_eq_true, ↓reduceIte]
    refine Ev.bind hr ?_
    simp only [show ((-1 : Int) < 0) from by omega, ↓reduceIte]
    exact Ev.const _
  · obtain ⟨L, hL⟩ := hrr.hit
    have hLl := hL.le hv
    obtain ⟨q, hq, hd⟩ := distances_ev hv hs
    obtain ⟨t, ht, hc⟩ := Cycle_l0 hv hq L s [(s : Int)] hs hL (by simp; omega)
    refine .inr ⟨s, L, t, hs, hmin, hL, ht, ?_⟩
    simp only [depgraph_Cycle.f]
    refine Ev.bind (Validate_ev g hl) ?_
    rw [h1]
    simp only [beq_self_eq_true, Bool.not_true, Bool.or_self, Bool.false_eq_true, ↓reduceIte]
    refine Ev.bind hr ?_
    simp only [show ¬ ((s : Int) < 0) from by omega, ↓reduceIte]
    refine Ev.bind hd ?_
    simp only [tl_length, show (s : Int) < (g.length : Int) from by omega, ↓reduceIte, tl_rd _ _ s hs, (hq s hs L hL.1).2 hL]
    refine Ev.bind hc ?_
    exact Ev.const _
theorem Shortest_ev {g : List (List Int)} (hv : Val g) {s L : Nat} {t : List Int} (hs : s < g.length) (hL : Hit g L s s) (ht : Chn g s L s t) : Ev (fun k => changeforgeref6_ShortestCycle.f k g (s : Int)) ((s : Int) :: t) := by
  have hle := hv.le
  have hLl := hL.le hv
  obtain ⟨f, h1, h2⟩ := Distance_ev hv
  obtain ⟨t', ht', hc⟩ := Short_l0 hv hs h2 L s [(s : Int)] hs hL (by simp; omega)
  rw [ht.uniq ht']
  simp only [changeforgeref6_ShortestCycle.f]
  refine Ev.bind h1 ?_
  have he : f s s = L := ((h2 s s hs hs).1 hL.rch).1.uniq hL
  simp only [tb_length, show (0 : Int) ≤ (s : Int) from by omega, show (s : Int) < (g.length : Int) from by omega, tb_row _ _ s hs, tl_length, tl_rd _ _ s hs, he, ↓reduceIte, wrap_lt (show -9223372036854775808 ≤ (L : Int) - 1 from by omega) (by omega)]
  exact hc
theorem RefAffected_ev {g : List (List Int)} (hv : Val g) {l : List Int} (hl : Good g.length l) : Ev (fun k => changeforgeref6_Affected.f k g l) (fl g.length (af g l)) := by
  have hle := hv.le
  have hll := hl.len
  obtain ⟨f, h1, h2⟩ := Distance_ev hv
  simp only [changeforgeref6_Affected.f]
  refine Ev.bind h1 ?_
  have loop : ∀ d i, g.length - i = d → i ≤ g.length → Ev (fun k => changeforgeref6_Affected.l0 k g l (tb g.length f) (fl i (af g l)) (i : Int)) (fl g.length (af g l)) := by
    intro d
    induction d with
    | zero =>
      intro i hd hi
      obtain rfl : i = g.length := by omega
      refine Ev.of_succ ?_
      simp only [changeforgeref6_Affected.l0, show ¬ (g.length : Int) < (g.length : Int) from by omega, ↓reduceIte]
      exact Ev.const _
    | succ d ih =>
      intro i hd hi
      have hil : i < g.length := by omega
      have h5 := ih (i + 1) (by omega) (by omega)
      rw [fl_succ] at h5
      have hfl := fl_len i (af g l)
      refine Ev.of_succ ?_
      simp only [changeforgeref6_Affected.l0, show (i : Int) < (g.length : Int) from by omega, ↓reduceIte]
      refine Ev.bind (Has_ev l (by omega) (i : Int)) ?_
      have inner : ∀ e j b, l.length - j = e → j ≤ l.length → (b || (l.drop j).any (fun x => decide (f i x.toNat < 1000))) = af g l i →
          Ev (fun k => changeforgeref6_Affected.l1 k g l (tb g.length f) (fl i (af g l)) (i : Int) b (j : Int)) (fl g.length (af g l)) := by
        intro e
        induction e with
        | zero =>
          intro j b he hj hb
          obtain rfl : j = l.length := by omega
          rw [List.drop_eq_nil_of_le (Nat.le_refl _), List.any_nil, Bool.or_false] at hb
          refine Ev.of_succ ?_
          simp only [changeforgeref6_Affected.l1, show ¬ (l.length : Int) < (l.length : Int) from by omega, ↓reduceIte, hb, wrap_up i (by omega), show (fl i (af g l)).length < 17592186044416 from by omega]
          by_cases hc : af g l i = true
          · simp only [hc, ↓reduceIte] at h5 ⊢
            exact h5
          · simp only [hc, ↓reduceIte] at h5 ⊢
            exact h5
        | succ e ihe =>
          intro j b he hj hb
          have hjl : j < l.length := by omega
          rw [drop_rd l j hjl, List.any_cons] at hb
          have hr := hl.rng _ (List.getElem_mem hjl)
          rw [← rd_get l j hjl] at hr
          refine Ev.of_succ ?_
          by_cases hbt : b = true
          · simp only [changeforgeref6_Affected.l1, show (j : Int) < (l.length : Int) from by omega, hbt, ↓reduceIte, wrap_up j (by omega)]
            refine ihe (j + 1) true (by omega) (by omega) ?_
            rw [← hb, hbt]
            simp
          · obtain ⟨x, hx⟩ : ∃ x : Nat, rd l (j : Int) = (x : Int) := ⟨(rd l (j : Int)).toNat, by omega⟩
            rw [hx] at hr hb
            simp only [changeforgeref6_Affected.l1, show (j : Int) < (l.length : Int) from by omega, hbt, Bool.false_eq_true, show (0 : Int) ≤ (i : Int) from by omega, tb_length, show (i : Int) < (g.length : Int) from by omega, show (0 : Int) ≤ (j : Int) from by omega, hx, show (0 : Int) ≤ (x : Int) from by omega, tb_row _ _ i hil, tl_length, hr.2, tl_rd g.length _ x (by omega), ↓reduceIte, wrap_up j (by omega)]
            refine ihe (j + 1) _ (by omega) (by omega) ?_
            rw [← hb, show b = false from by simpa using hbt, Bool.false_or, Int.toNat_natCast]
            have e3 : decide (((f i x : Nat) : Int) < 1000) = decide (f i x < 1000) := by rw [Bool.eq_iff_iff, decide_eq_true_iff, decide_eq_true_iff]; omega
            rw [e3]
      refine inner _ 0 _ rfl (by omega) ?_
      rw [List.drop_zero, Bool.eq_iff_iff, af_iff, Bool.or_eq_true, decide_eq_true_iff, List.any_eq_true]
      have hlt : ∀ x : Nat, x < g.length → (f i x < 1000 ↔ Rch g i x) := fun x hx => by
        have := h2 i x hil hx
        constructor
        · intro h
          apply Classical.byContradiction
          intro hn
          have := this.2 hn
          omega
        · intro h
          have := (this.1 h).2
          omega
      constructor
      · rintro (h | ⟨x, hx, h⟩)
        · exact .inl h
        · have hr := hl.rng x hx
          rw [decide_eq_true_iff] at h
          refine .inr ⟨x.toNat, ?_, (hlt _ (by omega)).1 h⟩
          rw [show ((x.toNat : Nat) : Int) = x from by omega]
          exact hx
      · rintro (h | ⟨x, hx, h⟩)
        · exact .inl h
        · have hr := hl.rng _ hx
          exact .inr ⟨(x : Int), hx, by rw [decide_eq_true_iff, Int.toNat_natCast]; exact (hlt x (by omega)).2 h⟩
  exact loop _ 0 rfl (by omega)
theorem ChangedFault_ev {g : List (List Int)} (hg : ∀ l ∈ g, l.length ≤ 9223372036854775807) {l : List Int} (hl : l.length ≤ 9223372036854775807) : Ev (fun k => changeforgeref6_ChangedFault.f k g l) ((afF g l).2) := by
  simp only [changeforgeref6_ChangedFault.f]
  refine Ev.bind (GraphFault_ev g hg) ?_
  unfold afF
  by_cases h0 : (gf g).1 = 0
  · obtain ⟨h1, hv⟩ := gf_val h0
    have hle := hv.le
    simp only [h0, ↓reduceIte]
    refine Ev.bind (nodesCode_ev g.length (by omega) l hl) ?_
    by_cases h2 : lc g.length none l = 0
    · simp only [h2, ↓reduceIte, h1]
      exact Ev.const _
    · simp only [h2, ↓reduceIte, changeforgeref6_fault.f, Option.bind_some]
      exact Ev.const _
  · simp only [h0, ↓reduceIte]
    exact Ev.const _
end Go.Proofs.Ytffcaglfcnmhdaa.H
end
section
namespace Go.Proofs.Ytffcaglfcnmhdaa.H
open Go.RowKit Go.Proofs.YtffcaglfcnmhdaaW.PrintWords Go.Proofs.YtffcaglfcnmhdaaW.PrintLast Go.Proofs.YtffcaglfcnmhdaaW.PrintMore
set_option linter.unusedVariables false
set_option linter.unusedSimpArgs false
open Go.RowKit
theorem Ints_ev {a : List Int} (ha : a.length ≤ 9223372036854775807) : Ev (fun k => changeforgeref5_Ints.f k a a) true := by
  have loop : ∀ d j, a.length - j = d → j ≤ a.length → Ev (fun k => changeforgeref5_Ints.l0 k a a (j : Int)) true := by
    intro d
    induction d with
    | zero =>
      intro j hd hj
      refine Ev.of_succ ?_
      simp only [changeforgeref5_Ints.l0, show ¬ (j : Int) < (a.length : Int) from by omega, ↓reduceIte]
      exact Ev.const _
    | succ d ih =>
      intro j hd hj
      refine Ev.of_succ ?_
      simp only [changeforgeref5_Ints.l0, show (j : Int) < (a.length : Int) from by omega, show (0 : Int) ≤ (j : Int) from by omega, ↓reduceIte, wrap_up j (by omega)]
      exact ih (j + 1) (by omega) (by omega)
  simp only [changeforgeref5_Ints.f, ↓reduceIte]
  exact loop _ 0 rfl (by omega)
end Go.Proofs.Ytffcaglfcnmhdaa.H
end
section
namespace Go.Proofs.Ytffcaglfcnmhdaa.H
open Go.RowKit Go.Proofs.YtffcaglfcnmhdaaW.PrintWords Go.Proofs.YtffcaglfcnmhdaaW.PrintLast Go.Proofs.YtffcaglfcnmhdaaW.PrintMore
set_option linter.unusedVariables false
set_option linter.unusedSimpArgs false
open Go.RowKit
theorem graphs_run : changeforgelaw6_graphs.f 60 = some true := by kernel_rfl
theorem graphs_ev : Ev (fun k => changeforgelaw6_graphs.f k) true := Ev.of_mono (fun k => changeforgelaw6_graphs.mono k) graphs_run
end Go.Proofs.Ytffcaglfcnmhdaa.H
end
section
namespace Go.Proofs.Ytffcaglfcnmhdaa.H
open Go.RowKit Go.Proofs.YtffcaglfcnmhdaaW.PrintWords Go.Proofs.YtffcaglfcnmhdaaW.PrintLast Go.Proofs.YtffcaglfcnmhdaaW.PrintMore
set_option linter.unusedVariables false
set_option linter.unusedSimpArgs false
open Go.RowKit
theorem ms_j2 (g : List (List Int)) (l : List Int) (hg : ∀ l ∈ g, l.length ≤ 9223372036854775807) (hl : l.length ≤ 9223372036854775807) : Ev (fun k => changeforgelaw6_DepgraphMatchesSpec.j2 k g l) true := by
  refine Ev.of_succ ?_
  simp only [changeforgelaw6_DepgraphMatchesSpec.j2]
  refine Ev.bind (ChangedFault_ev hg hl) (Ev.bind (Affected_ev g hg l hl) ?_)
  simp only [beq_self_eq_true, Bool.and_self, ↓reduceIte]
  by_cases h0 : (gf g).1 = 0
  · obtain ⟨h1, hv⟩ := gf_val h0
    have hle := hv.le
    by_cases h2 : lc g.length none l = 0
    · have e : afF g l = (fl g.length (af g l), 0, 0) := by unfold afF; rw [if_pos h0, if_pos h2]
      rw [e]
      simp only [↓reduceIte]
      refine Ev.bind (RefAffected_ev hv (lc_good _ _ _ h2).1) (Ev.bind (Ints_ev (by have := fl_len g.length (af g l); omega)) ?_)
      exact Ev.const _
    · have e : afF g l = ([], lc g.length none l, -2) := by unfold afF; rw [if_pos h0, if_neg h2]
      rw [e]
      simp only [h2, ↓reduceIte, List.length_nil, show (((0 : Nat) : Int) = 0) = True from by simp]
      exact Ev.const _
  · have e : afF g l = ([], (gf g).1, (gf g).2) := by unfold afF; rw [if_neg h0]
    rw [e]
    simp only [h0, ↓reduceIte, List.length_nil, show (((0 : Nat) : Int) = 0) = True from by simp]
    exact Ev.const _
theorem pf_DepgraphMatchesSpec : changeforgelaw6_DepgraphMatchesSpec.Pure := by
  intro g l hg _ hl _
  refine Ev.run ?_
  have hgl : ∀ x ∈ g, x.length ≤ 9223372036854775807 := fun x hx => (hg.2 x hx).1
  have j2 := ms_j2 g l hgl hl.1
  simp only [changeforgelaw6_DepgraphMatchesSpec.f]
  refine Ev.bind (GraphFault_ev g hgl) (Ev.bind graphs_ev ?_)
  simp only [↓reduceIte]
  refine Ev.bind (Validate_ev g hgl) ?_
  simp only [beq_self_eq_true, Bool.not_true, Bool.or_self]
  refine Ev.of_succ ?_
  simp only [changeforgelaw6_DepgraphMatchesSpec.j0, Bool.false_eq_true, ↓reduceIte]
  by_cases h0 : (gf g).1 = 0
  · obtain ⟨h1, hv⟩ := gf_val h0
    have hle := hv.le
    rw [h1]
    obtain ⟨r, hr, hf⟩ := FirstOnCycle_ev hv
    rcases Cycle_ev hgl h0 with ⟨hn, hc⟩ | ⟨s, L, t, hs, hmin, hL, ht, hc⟩
    · obtain rfl : r = -1 := hf.uniq (.inl ⟨rfl, hn⟩)
      refine Ev.bind hc ?_
      simp only [beq_self_eq_true, Bool.not_true, Bool.or_self, Bool.false_eq_true, ↓reduceIte]
      refine Ev.of_succ ?_
      simp only [changeforgelaw6_DepgraphMatchesSpec.j1, Bool.false_eq_true, ↓reduceIte]
      refine Ev.bind hr ?_
      simp only [show decide ((-1 : Int) ≥ 0) = false from rfl, bne_self_eq_false, Bool.false_eq_true, ↓reduceIte, List.length_nil, show ¬ (((0 : Nat) : Int) > 0) from by omega]
      exact j2
    · obtain rfl : r = (s : Int) := hf.uniq (.inr ⟨s, hs, rfl, hL.rch, hmin⟩)
      refine Ev.bind hc ?_
      simp only [beq_self_eq_true, Bool.not_true, Bool.or_self, Bool.false_eq_true, ↓reduceIte]
      refine Ev.of_succ ?_
      simp only [changeforgelaw6_DepgraphMatchesSpec.j1, Bool.false_eq_true, ↓reduceIte]
      refine Ev.bind hr ?_
      simp only [show decide ((s : Int) ≥ 0) = true from decide_eq_true (by omega), bne_self_eq_false, Bool.false_eq_true, ↓reduceIte]
      have hlen : ((s : Int) :: t).length ≤ 9223372036854775807 := by
        have : ∀ (t : List Int) (L v : Nat), Chn g s L v t → t.length + 1 ≤ L := by
          intro t
          induction t with
          | nil => intro L v h; have h' : L = 1 := h; simp; omega
          | cons x t ih => intro L v h; obtain ⟨h1, m, _, _, h2⟩ := h; have := ih _ _ h2; rw [List.length_cons]; omega
        have h3 := this t L s ht
        have := hL.le hv
        rw [List.length_cons]
        omega
      refine Ev.bind (Shortest_ev hv hs hL ht) (Ev.bind (Ints_ev hlen) ?_)
      simp only [↓reduceIte]
      exact j2
  · refine Ev.bind (Cycle_bad hgl h0) ?_
    simp only [beq_self_eq_true, Bool.not_true, Bool.or_self, Bool.false_eq_true, ↓reduceIte, h0, List.length_nil, show decide (((0 : Nat) : Int) > 0) = false from rfl]
    refine Ev.of_succ ?_
    simp only [changeforgelaw6_DepgraphMatchesSpec.j1, Bool.false_eq_true, ↓reduceIte, h0]
    exact j2
end Go.Proofs.Ytffcaglfcnmhdaa.H
end
