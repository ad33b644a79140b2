/- Texts that the law DepgraphAffectedIsAClosure comes to, printed and by hand, what is not used left out. -/
import Derived.Test.YtffcaglfcnmhdaaCDepgraphAffectedIsAClosure9
import Derived.Deep.Slices
import Derived.ProofKit
import Derived.SizedLaws
import Derived.OpenShut
section
namespace Go.Proofs.Ytffcaglfcnmhdaa.H
open Go.RowKit Go.Proofs.YtffcaglfcnmhdaaW.PrintWords Go.Proofs.YtffcaglfcnmhdaaW.PrintLast Go.Proofs.YtffcaglfcnmhdaaW.PrintMore
set_option linter.unusedVariables false
set_option linter.unusedSimpArgs false
open Go.Deep
/-- What reads as data at type t has d's shape; F is what is then known of the value. -/
structure Opens {α : Type} (P : Program) (d : Kd α) (F : α → Prop) (t : TypeId) : Prop where
  size : P.cellsOf t = d.sz
  get : ∀ {H : Type} {enc : TypeId × Value → H} {w : World} {base : Nat} {spare : Nat → Bool} {held : Bool} {fuel : Nat} {cs : List Value} {x : DataW H × List MemPlace},
    DataW.trod enc P w base spare held fuel t cs = some x → ∃ v : α, d.K w v cs ∧ F v
theorem opens_int {P : Program} {t : TypeId} {k : IntKind} (hu : P.underlying t = some (.int k)) (hc : P.cellsOf t = 1) : Opens P (Kd.int k) (fun n => (Lit.int k n).wf = true) t :=
  ⟨hc, fun h => by
    obtain ⟨n, rfl, _, hw⟩ := DataW.trod_int hu h
    exact ⟨n, rfl, hw⟩⟩
theorem list_of {α : Type} (Q : Nat → α → Prop) : ∀ n : Nat, (∀ i, i < n → ∃ v, Q i v) → ∃ l : List α, l.length = n ∧ ∀ i v, l[i]? = some v → Q i v
  | 0, _ => ⟨[], rfl, fun i v h => by simp at h⟩
  | n + 1, h => by
    obtain ⟨l, hl, hq⟩ := list_of Q n (fun i hi => h i (by omega))
    obtain ⟨v, hv⟩ := h n (by omega)
    refine ⟨l ++ [v], by simp [hl], fun i u hu => ?_⟩
    rcases Nat.lt_or_ge i l.length with hi | hi
    · rw [List.getElem?_append_left hi] at hu
      exact hq i u hu
    · have hi' : i = n := by
        have := (List.getElem?_eq_some_iff.1 hu).1
        simp at this
        omega
      subst hi'
      have : v = u := by simpa [hl] using hu
      subst this
      exact hv
theorem opens_slice {α : Type} {P : Program} {d : Kd α} {F : α → Prop} {t e : TypeId} (hd : Opens P d F e) (hu : P.underlying t = some (.slice e)) (hc : P.cellsOf t = 1) :
    Opens P (Kd.slice e d) (fun l => l.length ≤ 9223372036854775807 ∧ ∀ x ∈ l, F x) t :=
  ⟨hc, fun {H enc w base spare held fuel cs x} h => by
    rcases open_slice hu h with ⟨rfl, _⟩ | ⟨a, len, cap, m, n, D, Pl, rfl, _, hl, hm, hmm, _, hx⟩
    · exact ⟨[], ⟨none, 0, rfl, Nat.le_refl _, Kd.C_nil _ _⟩, by simp⟩
    · unfold maxLen at hm
      have hlm : len ≤ m := by rw [hmm]; split <;> omega
      obtain ⟨l, hll, hq⟩ := list_of (fun i v => ∃ c, w.cells? base (a.add (i * P.cellsOf e)) (P.cellsOf e) = some c ∧ d.K w v c ∧ F v) len (fun i hi => by
        obtain ⟨c, h1, h2⟩ := hx i (by omega)
        obtain ⟨v, h3, h4⟩ := hd.get h2
        exact ⟨v, c, h1, h3, h4⟩)
      refine ⟨l, ⟨some a, cap, by rw [hll], by omega, rfl, by omega, fun _ => ⟨a, rfl, fun j p hj => ?_⟩⟩, by omega, fun v hv => ?_⟩
      · obtain ⟨c, h1, h2, _⟩ := hq j p hj
        refine ⟨c, d.K_len h2, h2, fun i u hi => ?_⟩
        have h5 := World.cells?_some h1
        have hlen : c.length = P.cellsOf e := by rw [d.K_len h2, hd.size]
        have hi' : i < P.cellsOf e := by rw [← hlen]; exact (List.getElem?_eq_some_iff.1 hi).1
        have ha : (a.add (j * d.sz + i)) = (a.add (j * P.cellsOf e)).add i := by
          rw [hd.size]
          unfold Addr.add
          by_cases h1 : j * d.sz = 0 <;> by_cases h2 : i = 0 <;> simp [h1, h2, Nat.add_assoc]
        rw [ha]
        obtain ⟨_, h6, h7⟩ := h5
        have h8 := h7 i hi'
        rw [hi] at h8
        exact h8
      · obtain ⟨i, hi⟩ := List.mem_iff_getElem?.1 hv
        obtain ⟨c, _, _, h3⟩ := hq i v hi
        exact h3⟩
/-- How long a slice that came in may be. -/
theorem sized_any {H : Type} {enc : TypeId × Value → H} {P : Program} {W : World} {base : Nat} {spare : Nat → Bool} {held : Bool} {t e : TypeId} {a : Option Addr} {len cap : Nat} {d : DataW H} {ps : List MemPlace} {ts : List TypeId} {ds : List (DataW H)} {j : Nat}
    (hsz : (DataW.weightsEach P ts ds).all (· ≤ reachBytes) = true) (ht : ts[j]? = some t) (hd : ds[j]? = some d) (hu : P.underlying t = some (.slice e)) {B : Nat} (hB : P.bytesOf e = B)
    (h : DataW.Trod enc P W base spare held t (.slice a len cap) d ps) : len * B ≤ 140737488351232 := by
  obtain ⟨fuel, hf⟩ := h
  rcases open_slice hu hf with ⟨hcs, _⟩ | ⟨a', len', cap', m, n, D, Pl, hcs, _, hl, hm, hmm, hx, _⟩
  · simp [Value.cells] at hcs
    obtain ⟨rfl, rfl, rfl⟩ := hcs
    simp
  · simp [Value.cells] at hcs
    obtain ⟨rfl, rfl, rfl⟩ := hcs
    obtain ⟨hx, _⟩ := Prod.mk.inj hx
    subst hx
    have z := sized_slice hsz ht hd hu
    rw [hB] at z
    simp only [List.length_map, List.length_range] at z
    exact Nat.le_trans (Nat.mul_le_mul_right _ (Nat.le_add_right _ _)) z

end Go.Proofs.Ytffcaglfcnmhdaa.H
end
section
namespace Go.Proofs.Ytffcaglfcnmhdaa.H
open Go.RowKit Go.Proofs.YtffcaglfcnmhdaaW.PrintWords Go.Proofs.YtffcaglfcnmhdaaW.PrintLast Go.Proofs.YtffcaglfcnmhdaaW.PrintMore
set_option linter.unusedVariables false
set_option linter.unusedSimpArgs false
def changeforgelaw6_DepgraphAffectedIsAClosure.Pure : Prop := ∀ (l0 : List (List Int)) (l1 : List Int) (l2 : List Int), (l0.length ≤ 9223372036854775807 ∧ ∀ x_ ∈ l0, x_.length ≤ 9223372036854775807 ∧ ∀ x__ ∈ x_, (Lit.int .i64 x__).wf = true) → l0.length * 24 ≤ 140737488351232 → (l1.length ≤ 9223372036854775807 ∧ ∀ x_ ∈ l1, (Lit.int .i64 x_).wf = true) → l1.length * 8 ≤ 140737488351232 → (l2.length ≤ 9223372036854775807 ∧ ∀ x_ ∈ l2, (Lit.int .i64 x_).wf = true) → l2.length * 8 ≤ 140737488351232 → ∃ k, changeforgelaw6_DepgraphAffectedIsAClosure.f k l0 l1 l2 = some true
end Go.Proofs.Ytffcaglfcnmhdaa.H
end
section
namespace Go.Proofs.Ytffcaglfcnmhdaa.H
open Go.RowKit Go.Proofs.YtffcaglfcnmhdaaW.PrintWords Go.Proofs.YtffcaglfcnmhdaaW.PrintLast Go.Proofs.YtffcaglfcnmhdaaW.PrintMore
set_option linter.unusedVariables false
set_option linter.unusedSimpArgs false
open Go.RowKit
/-- From some number of rounds on the answer is v. -/
def Ev {α : Type} (f : Nat → Option α) (v : α) : Prop := ∃ K, ∀ k, K ≤ k → f k = some v
theorem Ev.const {α : Type} (v : α) : Ev (fun _ => some v) v := ⟨0, fun _ _ => rfl⟩
theorem Ev.of_succ {α : Type} {f : Nat → Option α} {v : α} (h : Ev (fun k => f (k + 1)) v) : Ev f v := by
  obtain ⟨K, h⟩ := h
  exact ⟨K + 1, fun k hk => by obtain ⟨m, rfl⟩ : ∃ m, k = m + 1 := ⟨k - 1, by omega⟩; exact h m (by omega)⟩
theorem Ev.bind {α β : Type} {f : Nat → Option α} {g : Nat → α → Option β} {a : α} {b : β} (h : Ev f a) (h2 : Ev (fun k => g k a) b) : Ev (fun k => (f k).bind (g k)) b := by
  obtain ⟨K, h⟩ := h
  obtain ⟨M, h2⟩ := h2
  exact ⟨K + M, fun k hk => by show (f k).bind (g k) = some b; rw [h k (by omega)]; exact h2 k (by omega)⟩
theorem Ev.cast {α : Type} {f : Nat → Option α} {v v' : α} (h : Ev f v) (e : v = v') : Ev f v' := e ▸ h
theorem Ev.run {α : Type} {f : Nat → Option α} {v : α} (h : Ev f v) : ∃ k, f k = some v := by
  obtain ⟨K, h⟩ := h
  exact ⟨K, h K (Nat.le_refl _)⟩
theorem Ev.of_mono {α : Type} {f : Nat → Option α} {v : α} (hm : ∀ k, LeO (f k) (f (k + 1))) {k : Nat} (h : f k = some v) : Ev f v := by
  refine ⟨k, fun m hk => ?_⟩
  induction m with
  | zero => obtain rfl : k = 0 := by omega
            exact h
  | succ m ih =>
    by_cases e : k = m + 1
    · rw [← e]; exact h
    · exact hm m v (ih (by omega))
theorem wrap_lt {x : Int} (h0 : -9223372036854775808 ≤ x) (h1 : x < 9223372036854775808) : wrap64 x = x := by unfold wrap64; omega
theorem wrap_up (i : Nat) (h : i < 9223372036854775807) : wrap64 ((i : Int) + 1) = ((i + 1 : Nat) : Int) := by rw [wrap_lt (by omega) (by omega)]; omega
theorem rd_get (l : List Int) (j : Nat) (h : j < l.length) : rd l (j : Int) = l[j] := by simp [rd, List.getD_eq_getElem?_getD, h]
/-- A list of N values. -/
def tl {α : Type} (N : Nat) (q : Nat → α) : List α := (List.range N).map q
@[simp] theorem tl_length {α : Type} (N : Nat) (q : Nat → α) : (tl N q).length = N := by simp [tl]
theorem tl_get {α : Type} (d : α) (N : Nat) (q : Nat → α) (i : Nat) (h : i < N) : (tl N q).getD i d = q i := by
  simp [tl, List.getD_eq_getElem?_getD, h]
theorem tl_rdOf {α : Type} (d : α) (N : Nat) (q : Nat → α) (i : Nat) (h : i < N) : rdOf d (tl N q) (i : Int) = q i := tl_get d N q i h
theorem tl_set {α : Type} (N : Nat) (q : Nat → α) (i : Nat) (b : α) : (tl N q).set i b = tl N (fun k => if k = i then b else q k) := by
  refine List.ext_getElem? fun j => ?_
  unfold tl
  rw [List.getElem?_set, List.getElem?_map, List.getElem?_map]
  by_cases hj : j < N
  · rw [List.getElem?_range hj]
    by_cases h : i = j
    · subst h; simp [hj]
    · have h' : ¬ j = i := fun h2 => h h2.symm
      simp [h, h']
  · rw [List.getElem?_eq_none (by simpa using hj : (List.range N).length ≤ j)]
    by_cases h : i = j
    · subst h; simp [hj]
    · simp [h]
theorem tl_const {α : Type} (N : Nat) (b : α) : List.replicate N b = tl N (fun _ => b) := by
  unfold tl
  rw [List.map_const']
  simp
abbrev adj (g : List (List Int)) (i : Nat) : List Int := rd_L1 g (i : Int)
/-- Nodes of a graph of N, strictly upwards. -/
structure Good (N : Nat) (l : List Int) : Prop where
  rng : ∀ x ∈ l, 0 ≤ x ∧ x < (N : Int)
  inc : l.Pairwise (· < ·)
structure Val (g : List (List Int)) : Prop where
  le : g.length ≤ 24
  ok : ∀ i, i < g.length → Good g.length (adj g i)
/-- An edge. -/
def E (g : List (List Int)) (i j : Nat) : Prop := i < g.length ∧ (j : Int) ∈ adj g i
instance (g : List (List Int)) (i j : Nat) : Decidable (E g i j) := inferInstanceAs (Decidable (_ ∧ _))
theorem E.lt {g : List (List Int)} (h : Val g) {i j : Nat} (e : E g i j) : i < g.length ∧ j < g.length := by
  have := (h.ok i e.1).rng _ e.2
  exact ⟨e.1, by omega⟩
theorem inc_le : ∀ (l : List Int), l.Pairwise (· < ·) → ∀ (a b : Int), (∀ x ∈ l, a ≤ x ∧ x < b) → a ≤ b → (l.length : Int) ≤ b - a
  | [], _, a, b, _, hab => by simp; omega
  | y :: l, hp, a, b, hr, hab => by
    have hy := hr y (by simp)
    rw [List.pairwise_cons] at hp
    have := inc_le l hp.2 (y + 1) b (fun x hx => ⟨by have := hp.1 x hx; omega, (hr x (by simp [hx])).2⟩) (by omega)
    rw [List.length_cons]
    omega
theorem Good.len {N : Nat} {l : List Int} (h : Good N l) : l.length ≤ N := by
  have := inc_le l h.inc 0 N h.rng (by omega)
  omega
/-- A walk of d edges. -/
def Wk (g : List (List Int)) : Nat → Nat → Nat → Prop
  | 0, i, j => i = j
  | d + 1, i, j => ∃ m, E g i m ∧ Wk g d m j
theorem Wk.trans {g : List (List Int)} : ∀ {a b i j k : Nat}, Wk g a i j → Wk g b j k → Wk g (a + b) i k
  | 0, b, i, j, k, h, h2 => by cases h; rw [Nat.zero_add]; exact h2
  | a + 1, b, i, j, k, ⟨m, e, h⟩, h2 => by rw [show a + 1 + b = (a + b) + 1 from by omega]; exact ⟨m, e, h.trans h2⟩
theorem Wk.one {g : List (List Int)} {i j : Nat} (e : E g i j) : Wk g 1 i j := ⟨j, e, rfl⟩
/-- A way of at least one edge. -/
def Rch (g : List (List Int)) (i j : Nat) : Prop := ∃ d, 1 ≤ d ∧ Wk g d i j
theorem Rch.one {g : List (List Int)} {i j : Nat} (e : E g i j) : Rch g i j := ⟨1, Nat.le_refl _, Wk.one e⟩
theorem Rch.trans {g : List (List Int)} {i j k : Nat} (h : Rch g i j) (h2 : Rch g j k) : Rch g i k := by
  obtain ⟨a, ha, h⟩ := h
  obtain ⟨b, hb, h2⟩ := h2
  exact ⟨a + b, by omega, h.trans h2⟩
theorem Rch.fst {g : List (List Int)} {i j : Nat} (h : Rch g i j) : ∃ m, E g i m ∧ (m = j ∨ Rch g m j) := by
  obtain ⟨a, ha, h⟩ := h
  obtain ⟨b, rfl⟩ : ∃ b, a = b + 1 := ⟨a - 1, by omega⟩
  obtain ⟨m, e, h⟩ := h
  refine ⟨m, e, ?_⟩
  by_cases hb : b = 0
  · subst hb; exact .inl h
  · exact .inr ⟨b, by omega, h⟩
theorem Rch.lst {g : List (List Int)} : ∀ {d i j : Nat}, Wk g (d + 1) i j → E g i j ∨ ∃ m, Rch g i m ∧ E g m j
  | 0, i, j, ⟨m, e, h⟩ => by cases h; exact .inl e
  | d + 1, i, j, ⟨m, e, h⟩ => by
    rcases Rch.lst h with h | ⟨q, h, e2⟩
    · exact .inr ⟨m, Rch.one e, h⟩
    · exact .inr ⟨q, (Rch.one e).trans h, e2⟩
theorem Rch.lt {g : List (List Int)} (hv : Val g) {i j : Nat} (h : Rch g i j) : i < g.length ∧ j < g.length := by
  obtain ⟨m, e, _⟩ := h.fst
  obtain ⟨a, ha, h⟩ := h
  obtain ⟨b, rfl⟩ : ∃ b, a = b + 1 := ⟨a - 1, by omega⟩
  rcases Rch.lst h with h | ⟨q, _, e2⟩
  · exact h.lt hv
  · exact ⟨e.1, (e2.lt hv).2⟩
/-- The least d ≥ 1 so that there is a walk of d edges. -/
def Hit (g : List (List Int)) (d i j : Nat) : Prop := 1 ≤ d ∧ Wk g d i j ∧ ∀ e, 1 ≤ e → e < d → ¬ Wk g e i j
theorem Hit.uniq {g : List (List Int)} {d e i j : Nat} (h : Hit g d i j) (h2 : Hit g e i j) : d = e := by
  rcases Nat.lt_trichotomy d e with hlt | heq | hgt
  · exact absurd h.2.1 (h2.2.2 d h.1 hlt)
  · exact heq
  · exact absurd h2.2.1 (h.2.2 e h2.1 hgt)
theorem Hit.rch {g : List (List Int)} {d i j : Nat} (h : Hit g d i j) : Rch g i j := ⟨d, h.1, h.2.1⟩
theorem Hit.next {g : List (List Int)} {d i j : Nat} (h : Hit g (d + 1) i j) (hd : 1 ≤ d) : ∃ m, E g i m ∧ m ≠ j ∧ Hit g d m j := by
  obtain ⟨_, ⟨m, e, hw⟩, hmin⟩ := h
  refine ⟨m, e, ?_, hd, hw, fun f h1 h2 h3 => hmin (f + 1) (by omega) (by omega) ⟨m, e, h3⟩⟩
  rintro rfl
  exact hmin 1 (Nat.le_refl _) (by omega) (Wk.one e)
theorem hole : ∀ (N : Nat) (f : Nat → Nat) (d : Nat), (∀ e, e < d → f e < N) → (∀ a b, a < d → b < d → f a = f b → a = b) → d ≤ N
  | 0, f, d, h, _ => by
    apply Classical.byContradiction
    intro hd
    have := h 0 (by omega)
    omega
  | N + 1, f, d, h, hi => by
    by_cases hc : ∃ e, e < d ∧ f e = N
    · obtain ⟨e, he, hf⟩ := hc
      have := hole N (fun a => f (if a < e then a else a + 1)) (d - 1) (fun a ha => by
        have h1 := h (if a < e then a else a + 1) (by split <;> omega)
        have h2 : f (if a < e then a else a + 1) ≠ N := fun h3 => by
          have := hi _ _ (by split <;> omega) he (h3.trans hf.symm)
          split at this <;> omega
        show f _ < N
        omega) (fun a b ha hb hab => by
        have := hi _ _ (by split <;> omega) (by split <;> omega) hab
        split at this <;> split at this <;> omega)
      omega
    · have := hole N f d (fun e he => by
        have h1 := h e he
        have h2 : f e ≠ N := fun h3 => hc ⟨e, he, h3⟩
        omega) hi
      omega
theorem Hit.down {g : List (List Int)} (hv : Val g) {i j : Nat} : ∀ {d : Nat}, Hit g d i j → ∀ e, 1 ≤ e → e ≤ d → ∃ m, m < g.length ∧ Hit g e m j := by
  intro d
  induction d generalizing i with
  | zero => intro h; exact absurd h.1 (by omega)
  | succ d ih =>
    intro h e h1 h2
    by_cases he : e = d + 1
    · subst he
      exact ⟨i, (h.rch.lt hv).1, h⟩
    · obtain ⟨m, _, _, hm⟩ := h.next (by omega)
      exact ih hm e h1 (by omega)
/-- A shortest way has no more edges than there are nodes. -/
theorem Hit.le {g : List (List Int)} (hv : Val g) {d i j : Nat} (h : Hit g d i j) : d ≤ g.length := by
  have hx : ∀ e, ∃ m, e < d → m < g.length ∧ Hit g (e + 1) m j := fun e => by
    by_cases he : e < d
    · obtain ⟨m, h1, h2⟩ := h.down hv (e + 1) (by omega) (by omega)
      exact ⟨m, fun _ => ⟨h1, h2⟩⟩
    · exact ⟨0, fun h' => absurd h' he⟩
  refine hole g.length (fun e => Classical.choose (hx e)) d (fun e he => (Classical.choose_spec (hx e) he).1) (fun a b ha hb hab => ?_)
  have h1 := (Classical.choose_spec (hx a) ha).2
  have h2 := (Classical.choose_spec (hx b) hb).2
  rw [hab] at h1
  have := h1.uniq h2
  omega
end Go.Proofs.Ytffcaglfcnmhdaa.H
end
section
namespace Go.Proofs.Ytffcaglfcnmhdaa.H
open Go.RowKit Go.Proofs.YtffcaglfcnmhdaaW.PrintWords Go.Proofs.YtffcaglfcnmhdaaW.PrintLast Go.Proofs.YtffcaglfcnmhdaaW.PrintMore
set_option linter.unusedVariables false
set_option linter.unusedSimpArgs false
open Go.RowKit
theorem Val.len {g : List (List Int)} (h : Val g) {i : Nat} (hi : i < g.length) : (adj g i).length ≤ 24 := by
  have := (h.ok i hi).len
  have := h.le
  omega
/-- Unmarked ones below N. -/
def um (N : Nat) (q : Nat → Bool) : Nat := ((List.range N).filter (fun i => !q i)).length
theorem um_set : ∀ (N : Nat) (q : Nat → Bool) (i : Nat), i < N → q i = false → um N q = um N (fun k => if k = i then true else q k) + 1
  | 0, q, i, hi, _ => by omega
  | N + 1, q, i, hi, hq => by
    unfold um
    rw [List.range_succ, List.filter_append, List.filter_append, List.length_append, List.length_append]
    by_cases he : i = N
    · subst he
      have : (List.range i).filter (fun k => !(if k = i then true else q k)) = (List.range i).filter (fun k => !q k) := by
        refine List.filter_congr fun k hk => ?_
        rw [if_neg (by have := List.mem_range.1 hk; omega)]
      rw [this]
      simp [hq]
    · have := um_set N q i (by omega) hq
      unfold um at this
      have hN : List.filter (fun k => !(if k = i then true else q k)) [N] = List.filter (fun k => !q k) [N] := by
        refine List.filter_congr fun k hk => ?_
        rw [if_neg (by have := List.mem_singleton.1 hk; omega)]
      rw [hN, this]
      omega
theorem um_le (N : Nat) (q : Nat → Bool) : um N q ≤ N := by
  unfold um
  exact Nat.le_trans (List.length_filter_le _ _) (by simp)
/-- What reach's loop keeps: all marked and all in the queue can be reached; what is marked or is the start has its neighbours marked or queued. -/
structure Line (g : List (List Int)) (s : Nat) (q : Nat → Bool) (ln : List Int) : Prop where
  mkd : ∀ i, i < g.length → q i = true → Rch g s i
  qu : ∀ x ∈ ln, 0 ≤ x ∧ x < (g.length : Int) ∧ Rch g s x.toNat
  st : ∀ j, E g s j → q j = true ∨ (j : Int) ∈ ln
  cl : ∀ i j, i < g.length → q i = true → E g i j → q j = true ∨ (j : Int) ∈ ln
theorem Wk.snoc {g : List (List Int)} : ∀ {d i j : Nat}, Wk g (d + 1) i j → ∃ m, Wk g d i m ∧ E g m j
  | 0, i, j, ⟨m, e, h⟩ => by cases h; exact ⟨i, rfl, e⟩
  | d + 1, i, j, ⟨m, e, h⟩ => by
    obtain ⟨m', h, e'⟩ := Wk.snoc h
    exact ⟨m', ⟨m, e, h⟩, e'⟩
theorem Line.done {g : List (List Int)} (hv : Val g) {s : Nat} {q : Nat → Bool} (h : Line g s q []) (i : Nat) (hi : i < g.length) : q i = true ↔ Rch g s i := by
  refine ⟨h.mkd i hi, ?_⟩
  rintro ⟨d, hd, hw⟩
  obtain ⟨e, rfl⟩ : ∃ e, d = e + 1 := ⟨d - 1, by omega⟩
  clear hd
  induction e generalizing i with
  | zero =>
    obtain ⟨m, he, hm⟩ := hw
    cases hm
    exact (h.st _ he).resolve_right (by simp)
  | succ e ih =>
    obtain ⟨m, hm, he⟩ := hw.snoc
    have hml := (he.lt hv).1
    exact (h.cl m i hml (ih m hml hm) he).resolve_right (by simp)
theorem Line.skip {g : List (List Int)} {s : Nat} {q : Nat → Bool} {x : Nat} {ln : List Int} (h : Line g s q ((x : Int) :: ln)) (hx : q x = true) : Line g s q ln := by
  refine ⟨h.mkd, fun y hy => h.qu y (by simp [hy]), fun j hj => ?_, fun i j hi hq he => ?_⟩
  · rcases h.st j hj with h1 | h1
    · exact .inl h1
    · rcases List.mem_cons.1 h1 with h2 | h2
      · obtain rfl : j = x := by omega
        exact .inl hx
      · exact .inr h2
  · rcases h.cl i j hi hq he with h1 | h1
    · exact .inl h1
    · rcases List.mem_cons.1 h1 with h2 | h2
      · obtain rfl : j = x := by omega
        exact .inl hx
      · exact .inr h2
theorem Line.take {g : List (List Int)} (hv : Val g) {s : Nat} {q : Nat → Bool} {x : Nat} {ln : List Int} (h : Line g s q ((x : Int) :: ln)) : Line g s (fun k => if k = x then true else q k) (ln ++ adj g x) := by
  have hxr := h.qu x (by simp)
  have hxl : x < g.length := by omega
  have hrx : Rch g s x := by have := hxr.2.2; rwa [Int.toNat_natCast] at this
  refine ⟨fun i hi hq => ?_, fun y hy => ?_, fun j hj => ?_, fun i j hi hq he => ?_⟩
  · by_cases e : i = x
    · rw [e]; exact hrx
    · rw [if_neg e] at hq
      exact h.mkd i hi hq
  · rcases List.mem_append.1 hy with h1 | h1
    · exact h.qu y (by simp [h1])
    · have h2 := (hv.ok x hxl).rng y h1
      refine ⟨h2.1, h2.2, hrx.trans (Rch.one ⟨hxl, ?_⟩)⟩
      rw [show ((y.toNat : Nat) : Int) = y from by omega]
      exact h1
  · rcases h.st j hj with h1 | h1
    · left; split <;> simp_all
    · rcases List.mem_cons.1 h1 with h2 | h2
      · left; rw [if_pos (by omega)]
      · right; simp [h2]
  · by_cases e : i = x
    · right
      rw [e] at he
      exact List.mem_append.2 (.inr he.2)
    · rw [if_neg e] at hq
      rcases h.cl i j hi hq he with h1 | h1
      · left; split <;> simp_all
      · rcases List.mem_cons.1 h1 with h2 | h2
        · left; rw [if_pos (by omega)]
        · right; simp [h2]
theorem reach_loop {g : List (List Int)} (hv : Val g) (s : Nat) : ∀ (n : Nat) (q : Nat → Bool) (ln : List Int), 25 * um g.length q + ln.length = n → n ≤ 1000 → Line g s q ln → ∃ q', Ev (fun k => depgraph_reach.l0 k g (tl g.length q) ln) (tl g.length q') ∧ ∀ i, i < g.length → (q' i = true ↔ Rch g s i) := by
  intro n
  induction n using Nat.strongRecOn with
  | _ n ih =>
  intro q ln hn hb hl
  cases ln with
  | nil =>
    refine ⟨q, Ev.of_succ ?_, hl.done hv⟩
    simp only [depgraph_reach.l0, List.length_nil, show ¬ (((0 : Nat) : Int) > 0) from by omega, ↓reduceIte]
    exact Ev.const _
  | cons y ln =>
    have hy := hl.qu y (by simp)
    obtain ⟨x, rfl⟩ : ∃ x : Nat, y = (x : Int) := ⟨y.toNat, by omega⟩
    have hxl : x < g.length := by omega
    have hum := um_le g.length q
    have hle := hv.le
    by_cases hq : q x = true
    · obtain ⟨q', h1, h2⟩ := ih (25 * um g.length q + ln.length) (by rw [← hn, List.length_cons]; omega) q ln rfl (by rw [List.length_cons] at hn; omega) (hl.skip hq)
      refine ⟨q', Ev.of_succ ?_, h2⟩
      have h0 : rd ((x : Int) :: ln) 0 = (x : Int) := rfl
      simp only [depgraph_reach.l0, List.length_cons, show ((ln.length + 1 : Nat) : Int) > 0 from by omega, show (0 : Int) < ((ln.length + 1 : Nat) : Int) from by omega, show (1 : Int) ≤ ((ln.length + 1 : Nat) : Int) from by omega, Option.bind_some, h0, tl_length, show (0 : Int) ≤ (x : Int) from by omega, show (x : Int) < (g.length : Int) from by omega, tl_rdOf false _ _ _ hxl, hq, ↓reduceIte]
      exact h1
    · have hq' : q x = false := by simpa using hq
      have hu := um_set g.length q x hxl hq'
      have hal := hv.len hxl
      obtain ⟨q', h1, h2⟩ := ih (25 * um g.length (fun k => if k = x then true else q k) + (ln ++ adj g x).length) (by rw [← hn, List.length_cons, List.length_append]; omega) _ _ rfl (by rw [List.length_cons] at hn; rw [List.length_append]; omega) (hl.take hv)
      refine ⟨q', Ev.of_succ ?_, h2⟩
      have h0 : rd ((x : Int) :: ln) 0 = (x : Int) := rfl
      rw [List.length_cons] at hn
      simp only [depgraph_reach.l0, List.length_cons, show ((ln.length + 1 : Nat) : Int) > 0 from by omega, show (0 : Int) < ((ln.length + 1 : Nat) : Int) from by omega, show (1 : Int) ≤ ((ln.length + 1 : Nat) : Int) from by omega, Option.bind_some, h0, tl_length, show (0 : Int) ≤ (x : Int) from by omega, show (x : Int) < (g.length : Int) from by omega, tl_rdOf false _ _ _ hxl, hq', ↓reduceIte, Int.toNat_natCast, tl_set, Bool.false_eq_true]
      have hlen : (List.drop (Int.toNat 1) ((x : Int) :: ln)).length + (rd_L1 g (x : Int)).length < 17592186044416 := by
        show ln.length + (adj g x).length < 17592186044416
        omega
      simp only [hlen, ↓reduceIte]
      exact h1
theorem reach_ev {g : List (List Int)} (hv : Val g) {s : Nat} (hs : s < g.length) : ∃ q, Ev (fun k => depgraph_reach.f k g (s : Int)) (tl g.length q) ∧ ∀ i, i < g.length → (q i = true ↔ Rch g s i) := by
  have hle := hv.le
  have hal := hv.len hs
  obtain ⟨q, h1, h2⟩ := reach_loop hv s _ (fun _ => false) (adj g s) rfl (by have := um_le g.length (fun _ => false); omega)
    ⟨fun i _ h => by simp at h, fun x hx => by have h2 := (hv.ok s hs).rng x hx; exact ⟨h2.1, h2.2, Rch.one ⟨hs, by rw [show ((x.toNat : Nat) : Int) = x from by omega]; exact hx⟩⟩, fun j he => .inr he.2, fun i j _ h => by simp at h⟩
  refine ⟨q, ?_, h2⟩
  simp only [depgraph_reach.f, Int.toNat_natCast, show (0 : Int) ≤ (g.length : Int) from by omega, show g.length ≤ 281474976710656 from by omega, show (0 : Int) ≤ (s : Int) from by omega, show (s : Int) < (g.length : Int) from by omega, slices_Clone_int_int.f, show (rd_L1 g (s : Int)).length < 1000000000 from by show (adj g s).length < _; omega, ↓reduceIte, Option.bind_some, tl_const]
  exact h1
/-- r is the least node on a cycle, or -1. -/
def Fst (g : List (List Int)) (r : Int) : Prop := (r = -1 ∧ ∀ i, i < g.length → ¬ Rch g i i) ∨ ∃ i : Nat, i < g.length ∧ r = (i : Int) ∧ Rch g i i ∧ ∀ j, j < i → ¬ Rch g j j
theorem first_ev {g : List (List Int)} (hv : Val g) : ∃ r, Ev (fun k => depgraph_first.f k g) r ∧ Fst g r := by
  have hle := hv.le
  have loop : ∀ d i, g.length - i = d → i ≤ g.length → (∀ j, j < i → ¬ Rch g j j) → ∃ r, Ev (fun k => depgraph_first.l0 k g (g.length : Int) (i : Int)) r ∧ Fst g r := by
    intro d
    induction d with
    | zero =>
      intro i hd hi hn
      refine ⟨-1, Ev.of_succ ?_, .inl ⟨rfl, fun j hj => hn j (by omega)⟩⟩
      simp only [depgraph_first.l0, show ¬ (i : Int) < (g.length : Int) from by omega, ↓reduceIte]
      exact Ev.const _
    | succ d ih =>
      intro i hd hi hn
      have hil : i < g.length := by omega
      obtain ⟨q, h1, h2⟩ := reach_ev hv hil
      by_cases hq : q i = true
      · refine ⟨(i : Int), Ev.of_succ ?_, .inr ⟨i, hil, rfl, (h2 i hil).1 hq, hn⟩⟩
        simp only [depgraph_first.l0, show (i : Int) < (g.length : Int) from by omega, ↓reduceIte]
        refine Ev.bind h1 ?_
        simp only [show (0 : Int) ≤ (i : Int) from by omega, tl_length, show (i : Int) < (g.length : Int) from by omega, tl_rdOf false _ _ _ hil, hq, ↓reduceIte]
        exact Ev.const _
      · have hq' : q i = false := by simpa using hq
        obtain ⟨r, h3, h4⟩ := ih (i + 1) (by omega) (by omega) (fun j hj => by
          by_cases e : j = i
          · rw [e]; exact fun h => hq ((h2 i hil).2 h)
          · exact hn j (by omega))
        refine ⟨r, Ev.of_succ ?_, h4⟩
        simp only [depgraph_first.l0, show (i : Int) < (g.length : Int) from by omega, ↓reduceIte]
        refine Ev.bind h1 ?_
        simp only [show (0 : Int) ≤ (i : Int) from by omega, tl_length, show (i : Int) < (g.length : Int) from by omega, tl_rdOf false _ _ _ hil, hq', ↓reduceIte, Bool.false_eq_true, wrap_up i (by omega)]
        exact h3
  exact loop _ 0 rfl (by omega) (fun j hj => by omega)
/-- Whether x does not come behind what is ahead. -/
def nx (x : Int) : Option Int → Bool | none => false | some y => decide (x ≤ y)
/-- The code of a list of nodes below N; p: the node ahead. -/
def lc (N : Int) : Option Int → List Int → Int
  | _, [] => 0
  | p, x :: l => if x < 0 ∨ N ≤ x then 3 else if nx x p = true then 5 else lc N (some x) l
/-- The fault of the lists from the i-th on. -/
def gl (N : Int) : Nat → List (List Int) → Int × Int
  | _, [] => (0, 0)
  | i, l :: t => if lc N none l = 0 then gl N (i + 1) t else (lc N none l, (i : Int))
def gf (g : List (List Int)) : Int × Int := if g.length > 24 then (2, -1) else gl g.length 0 g
theorem lc_good (N : Nat) : ∀ (l : List Int) (p : Option Int), lc N p l = 0 → Good N l ∧ ∀ y, p = some y → ∀ x ∈ l, y < x
  | [], p, _ => ⟨⟨by simp, List.Pairwise.nil⟩, by simp⟩
  | x :: l, p, h => by
    unfold lc at h
    by_cases h1 : x < 0 ∨ (N : Int) ≤ x
    · rw [if_pos h1] at h; omega
    rw [if_neg h1] at h
    by_cases h2 : nx x p = true
    · rw [if_pos h2] at h; omega
    rw [if_neg h2] at h
    obtain ⟨hg, hp⟩ := lc_good N l (some x) h
    have hx := hp x rfl
    refine ⟨⟨fun y hy => ?_, List.pairwise_cons.2 ⟨hx, hg.inc⟩⟩, fun y hy z hz => ?_⟩
    · rcases List.mem_cons.1 hy with h | h
      · omega
      · exact hg.rng y h
    · subst hy
      have h2' : ¬ x ≤ y := fun h3 => h2 (decide_eq_true h3)
      rcases List.mem_cons.1 hz with h | h
      · omega
      · have := hx z h
        omega
theorem good_lc (N : Nat) : ∀ (l : List Int) (p : Option Int), Good N l → (∀ y, p = some y → ∀ x ∈ l, y < x) → lc N p l = 0
  | [], p, _, _ => rfl
  | x :: l, p, h, hp => by
    unfold lc
    have hx := h.rng x (by simp)
    rw [if_neg (by omega), if_neg (by
      cases p with
      | none => simp [nx]
      | some y => have := hp y rfl x (by simp); simp [nx]; omega)]
    have hi := List.pairwise_cons.1 h.inc
    exact good_lc N l (some x) ⟨fun y hy => h.rng y (by simp [hy]), hi.2⟩ (fun y hy => by cases hy; exact hi.1)
theorem gl_zero (N : Int) : ∀ (t : List (List Int)) (i : Nat), (gl N i t).1 = 0 → gl N i t = (0, 0) ∧ ∀ l ∈ t, lc N none l = 0
  | [], _, _ => ⟨rfl, by simp⟩
  | l :: t, i, h => by
    unfold gl at h ⊢
    by_cases h1 : lc N none l = 0
    · rw [if_pos h1] at h ⊢
      obtain ⟨h2, h3⟩ := gl_zero N t (i + 1) h
      exact ⟨h2, fun y hy => by rcases List.mem_cons.1 hy with e | e; · rw [e]; exact h1
                                · exact h3 y e⟩
    · rw [if_neg h1] at h
      exact absurd h h1
theorem gf_val {g : List (List Int)} (h : (gf g).1 = 0) : gf g = (0, 0) ∧ Val g := by
  unfold gf at h ⊢
  by_cases h1 : g.length > 24
  · rw [if_pos h1] at h; simp at h
  · rw [if_neg h1] at h ⊢
    obtain ⟨h2, h3⟩ := gl_zero _ _ _ h
    refine ⟨h2, by omega, fun i hi => ?_⟩
    have : adj g i = g[i] := by simp [rd_L1, List.getD_eq_getElem?_getD, hi]
    rw [this]
    exact (lc_good _ _ _ (h3 _ (List.getElem_mem hi))).1
/-- What stands ahead of place j. -/
def pv (l : List Int) (j : Nat) : Option Int := if 0 < j then some (rd l ((j : Int) - 1)) else none
theorem pv_succ (l : List Int) (j : Nat) : pv l (j + 1) = some (rd l (j : Int)) := by
  unfold pv
  rw [if_pos (by omega), show (((j + 1 : Nat) : Int) - 1) = (j : Int) from by omega]
theorem drop_rd (l : List Int) (j : Nat) (h : j < l.length) : l.drop j = rd l (j : Int) :: l.drop (j + 1) := by rw [List.drop_eq_getElem_cons h, rd_get l j h]
theorem list_ev (N : Nat) (l : List Int) (hl : l.length ≤ 9223372036854775807) : Ev (fun k => depgraph_list.f k (N : Int) l) (lc N none l) := by
  have loop : ∀ d j, l.length - j = d → j ≤ l.length → Ev (fun k => depgraph_list.l0 k (N : Int) l l (l.length : Int) (j : Int)) (lc N (pv l j) (l.drop j)) := by
    intro d
    induction d with
    | zero =>
      intro j hd hj
      refine Ev.of_succ ?_
      simp only [depgraph_list.l0, show ¬ (j : Int) < (l.length : Int) from by omega, ↓reduceIte]
      rw [List.drop_eq_nil_of_le (by omega)]
      exact Ev.const _
    | succ d ih =>
      intro j hd hj
      have hjl : j < l.length := by omega
      refine Ev.of_succ ?_
      simp only [depgraph_list.l0, show (j : Int) < (l.length : Int) from by omega, show (0 : Int) ≤ (j : Int) from by omega, ↓reduceIte]
      rw [drop_rd l j hjl]
      unfold lc
      have next : ∀ (b : Bool), b = false → ¬ (rd l (j : Int) < 0 ∨ (N : Int) ≤ rd l (j : Int)) → Ev (fun k => depgraph_list.j1 k (N : Int) l (j : Int) (rd l (j : Int)) l (l.length : Int) (j : Int) b) (if nx (rd l (j : Int)) (pv l j) = true then 5 else lc (N : Int) (some (rd l (j : Int))) (l.drop (j + 1))) := by
        intro b hb hr
        subst hb
        refine Ev.of_succ ?_
        have h2 := ih (j + 1) (by omega) (by omega)
        rw [pv_succ] at h2
        by_cases hj0 : 0 < j
        · have e1 : pv l j = some (rd l ((j : Int) - 1)) := if_pos hj0
          rw [e1]
          by_cases hle : rd l (j : Int) ≤ rd l ((j : Int) - 1)
          · simp only [depgraph_list.j1, Bool.false_eq_true, ↓reduceIte, show (j : Int) > 0 from by omega, wrap_lt (show -9223372036854775808 ≤ (j : Int) - 1 from by omega) (by omega), show (0 : Int) ≤ (j : Int) - 1 from by omega, show (j : Int) - 1 < (l.length : Int) from by omega, hle, nx, decide_true]
            exact Ev.const _
          · simp only [depgraph_list.j1, Bool.false_eq_true, ↓reduceIte, show (j : Int) > 0 from by omega, wrap_lt (show -9223372036854775808 ≤ (j : Int) - 1 from by omega) (by omega), show (0 : Int) ≤ (j : Int) - 1 from by omega, show (j : Int) - 1 < (l.length : Int) from by omega, hle, nx, decide_false, wrap_up j (by omega)]
            exact h2
        · have e1 : pv l j = none := if_neg hj0
          rw [e1]
          simp only [depgraph_list.j1, Bool.false_eq_true, ↓reduceIte, show ¬ (j : Int) > 0 from by omega, nx, wrap_up j (by omega)]
          exact h2
      by_cases h1 : rd l (j : Int) < 0
      · simp only [h1, true_or, ↓reduceIte]
        refine Ev.of_succ ?_
        simp only [depgraph_list.j1, ↓reduceIte]
        exact Ev.const _
      · by_cases h2 : (N : Int) ≤ rd l (j : Int)
        · simp only [h1, h2, or_true, ↓reduceIte, show rd l (j : Int) ≥ (N : Int) from h2, decide_true]
          refine Ev.of_succ ?_
          simp only [depgraph_list.j1, ↓reduceIte]
          exact Ev.const _
        · simp only [h1, h2, or_self, ↓reduceIte]
          exact next _ (by simp) (by omega)
  exact loop _ 0 rfl (by omega)
theorem Validate_ev (g : List (List Int)) (hl : ∀ l ∈ g, l.length ≤ 9223372036854775807) : Ev (fun k => depgraph_Validate.f k g) (gf g) := by
  unfold gf
  by_cases hN : g.length > 24
  · simp only [depgraph_Validate.f, show (g.length : Int) > 24 from by omega, hN, ↓reduceIte]
    exact Ev.const _
  simp only [depgraph_Validate.f, show ¬ (g.length : Int) > 24 from by omega, hN, ↓reduceIte]
  have loop : ∀ d i, g.length - i = d → i ≤ g.length → Ev (fun k => depgraph_Validate.l0 k g g (g.length : Int) (i : Int)) (gl g.length i (g.drop i)) := by
    intro d
    induction d with
    | zero =>
      intro i hd hi
      refine Ev.of_succ ?_
      simp only [depgraph_Validate.l0, show ¬ (i : Int) < (g.length : Int) from by omega, ↓reduceIte]
      rw [List.drop_eq_nil_of_le (by omega)]
      exact Ev.const _
    | succ d ih =>
      intro i hd hi
      have hil : i < g.length := by omega
      refine Ev.of_succ ?_
      have e : rd_L1 g (i : Int) = g[i] := by simp [rd_L1, List.getD_eq_getElem?_getD, hil]
      simp only [depgraph_Validate.l0, show (i : Int) < (g.length : Int) from by omega, show (0 : Int) ≤ (i : Int) from by omega, ↓reduceIte, e]
      rw [List.drop_eq_getElem_cons hil]
      refine Ev.bind (list_ev g.length g[i] (hl _ (List.getElem_mem hil))) ?_
      unfold gl
      by_cases h0 : lc (g.length : Int) none g[i] = 0
      · simp only [h0, ↓reduceIte, wrap_up i (by omega)]
        exact ih (i + 1) (by omega) (by omega)
      · simp only [h0, ↓reduceIte]
        exact Ev.const _
  exact loop _ 0 rfl (by omega)
end Go.Proofs.Ytffcaglfcnmhdaa.H
end
section
namespace Go.Proofs.Ytffcaglfcnmhdaa.H
open Go.RowKit Go.Proofs.YtffcaglfcnmhdaaW.PrintWords Go.Proofs.YtffcaglfcnmhdaaW.PrintLast Go.Proofs.YtffcaglfcnmhdaaW.PrintMore
attribute [local go_sem] max2_int max_two
set_option linter.unusedVariables false
set_option linter.unusedSimpArgs false

mutual
def changeforgeref6_Distance.l0 : Nat → List (List Int) → List (List Int) → Int → Option ((List (List Int)))
  | 0, _, _, _ => none
  | k + 1, x0, x3, x4 => if x4 < (x0.length : Int) then (changeforgeref6_Distance.l1 k x0 x3 x4 ([] : List Int) 0) else (changeforgeref6_Distance.l2 k x0 x3 0)
def changeforgeref6_Distance.l1 : Nat → List (List Int) → List (List Int) → Int → List Int → Int → Option ((List (List Int)))
  | 0, _, _, _, _, _ => none
  | k + 1, x0, x3, x4, x5, x6 => if x6 < (x0.length : Int) then (if 0 ≤ x4 then (if x4 < (x0.length : Int) then ((changeforgeref5_Has.f k (rd_L1 x0 x4) x6).bind fun t253 => (if t253 = true then (if x5.length < 17592186044416 then (changeforgeref6_Distance.l1 k x0 x3 x4 (x5 ++ [1]) (wrap64 (x6 + 1))) else (none)) else (if x5.length < 17592186044416 then (changeforgeref6_Distance.l1 k x0 x3 x4 (x5 ++ [1000]) (wrap64 (x6 + 1))) else (none)))) else (none)) else (none)) else (if x3.length < 5864062014805 then (changeforgeref6_Distance.l0 k x0 (x3 ++ [x5]) (wrap64 (x4 + 1))) else (none))
def changeforgeref6_Distance.l2 : Nat → List (List Int) → List (List Int) → Int → Option ((List (List Int)))
  | 0, _, _, _ => none
  | k + 1, x0, x3, x7 => if x7 < (x0.length : Int) then (changeforgeref6_Distance.l3 k x0 x3 x7 0) else (some x3)
def changeforgeref6_Distance.l3 : Nat → List (List Int) → List (List Int) → Int → Int → Option ((List (List Int)))
  | 0, _, _, _, _ => none
  | k + 1, x0, x3, x7, x8 => if x8 < (x0.length : Int) then (changeforgeref6_Distance.l4 k x0 x3 x7 x8 0) else (changeforgeref6_Distance.l2 k x0 x3 (wrap64 (x7 + 1)))
def changeforgeref6_Distance.l4 : Nat → List (List Int) → List (List Int) → Int → Int → Int → Option ((List (List Int)))
  | 0, _, _, _, _, _ => none
  | k + 1, x0, x3, x7, x8, x9 => if x9 < (x0.length : Int) then (if 0 ≤ x8 then (if x8 < (x3.length : Int) then (if 0 ≤ x7 then (if x7 < ((rd_L1 x3 x8).length : Int) then (if x7 < (x3.length : Int) then (if 0 ≤ x9 then (if x9 < ((rd_L1 x3 x7).length : Int) then (if x9 < ((rd_L1 x3 x8).length : Int) then (if (wrap64 ((rd (rd_L1 x3 x8) x7) + (rd (rd_L1 x3 x7) x9))) < (rd (rd_L1 x3 x8) x9) then (changeforgeref6_Distance.l4 k x0 (x3.set (x8 : Int).toNat ((rd_L1 x3 x8).set (x9 : Int).toNat (wrap64 ((rd (rd_L1 x3 x8) x7) + (rd (rd_L1 x3 x7) x9))))) x7 x8 (wrap64 (x9 + 1))) else (changeforgeref6_Distance.l4 k x0 x3 x7 x8 (wrap64 (x9 + 1)))) else (none)) else (none)) else (none)) else (none)) else (none)) else (none)) else (none)) else (none)) else (changeforgeref6_Distance.l3 k x0 x3 x7 (wrap64 (x8 + 1)))
end
def changeforgeref6_Distance.f (k : Nat) (l0 : List (List Int)) : Option ((List (List Int))) := changeforgeref6_Distance.l0 k l0 ([] : List (List Int)) 0
theorem changeforgeref6_Distance.mono_l : ∀ k, (∀ y0 y1 y2, LeO (changeforgeref6_Distance.l0 k y0 y1 y2) (changeforgeref6_Distance.l0 (k + 1) y0 y1 y2)) ∧ (∀ y0 y1 y2 y3 y4, LeO (changeforgeref6_Distance.l1 k y0 y1 y2 y3 y4) (changeforgeref6_Distance.l1 (k + 1) y0 y1 y2 y3 y4)) ∧ (∀ y0 y1 y2, LeO (changeforgeref6_Distance.l2 k y0 y1 y2) (changeforgeref6_Distance.l2 (k + 1) y0 y1 y2)) ∧ (∀ y0 y1 y2 y3, LeO (changeforgeref6_Distance.l3 k y0 y1 y2 y3) (changeforgeref6_Distance.l3 (k + 1) y0 y1 y2 y3)) ∧ (∀ y0 y1 y2 y3 y4, LeO (changeforgeref6_Distance.l4 k y0 y1 y2 y3 y4) (changeforgeref6_Distance.l4 (k + 1) y0 y1 y2 y3 y4))
  | 0 => ⟨fun _ _ _ r h => by simp [changeforgeref6_Distance.l0] at h, fun _ _ _ _ _ r h => by simp [changeforgeref6_Distance.l1] at h, fun _ _ _ r h => by simp [changeforgeref6_Distance.l2] at h, fun _ _ _ _ r h => by simp [changeforgeref6_Distance.l3] at h, fun _ _ _ _ _ r h => by simp [changeforgeref6_Distance.l4] at h⟩
  | k + 1 => by
    obtain ⟨ih0, ih1, ih2, ih3, ih4⟩ := changeforgeref6_Distance.mono_l k
    refine ⟨?_, ?_, ?_, ?_, ?_⟩
    · intro y0 y1 y2
      unfold changeforgeref6_Distance.l0
      repeat' first
      | (with_reducible exact ih0 _ _ _)
      | (with_reducible exact ih1 _ _ _ _ _)
      | (with_reducible exact ih2 _ _ _)
      | (with_reducible exact ih3 _ _ _ _)
      | (with_reducible exact ih4 _ _ _ _ _)
      | (with_reducible exact changeforgeref5_Has.mono _ _ _)
      | (with_reducible exact LeO.refl _)
      | (with_reducible exact LeO.none _)
      | (with_reducible refine LeO.ite ?_ ?_)
      | (with_reducible refine LeO.bind ?_ (fun _ => ?_))
      | exact ih0 _ _ _
      | exact ih1 _ _ _ _ _
      | exact ih2 _ _ _
      | exact ih3 _ _ _ _
      | exact ih4 _ _ _ _ _
      | exact changeforgeref5_Has.mono _ _ _
      | exact LeO.none _
      | refine LeO.ite ?_ ?_
      | refine LeO.bind ?_ (fun _ => ?_)
    · intro y0 y1 y2 y3 y4
      unfold changeforgeref6_Distance.l1
      repeat' first
      | (with_reducible exact ih0 _ _ _)
      | (with_reducible exact ih1 _ _ _ _ _)
      | (with_reducible exact ih2 _ _ _)
      | (with_reducible exact ih3 _ _ _ _)
      | (with_reducible exact ih4 _ _ _ _ _)
      | (with_reducible exact changeforgeref5_Has.mono _ _ _)
      | (with_reducible exact LeO.refl _)
      | (with_reducible exact LeO.none _)
      | (with_reducible refine LeO.ite ?_ ?_)
      | (with_reducible refine LeO.bind ?_ (fun _ => ?_))
      | exact ih0 _ _ _
      | exact ih1 _ _ _ _ _
      | exact ih2 _ _ _
      | exact ih3 _ _ _ _
      | exact ih4 _ _ _ _ _
      | exact changeforgeref5_Has.mono _ _ _
      | exact LeO.none _
      | refine LeO.ite ?_ ?_
      | refine LeO.bind ?_ (fun _ => ?_)
    · intro y0 y1 y2
      unfold changeforgeref6_Distance.l2
      repeat' first
      | (with_reducible exact ih0 _ _ _)
      | (with_reducible exact ih1 _ _ _ _ _)
      | (with_reducible exact ih2 _ _ _)
      | (with_reducible exact ih3 _ _ _ _)
      | (with_reducible exact ih4 _ _ _ _ _)
      | (with_reducible exact changeforgeref5_Has.mono _ _ _)
      | (with_reducible exact LeO.refl _)
      | (with_reducible exact LeO.none _)
      | (with_reducible refine LeO.ite ?_ ?_)
      | (with_reducible refine LeO.bind ?_ (fun _ => ?_))
      | exact ih0 _ _ _
      | exact ih1 _ _ _ _ _
      | exact ih2 _ _ _
      | exact ih3 _ _ _ _
      | exact ih4 _ _ _ _ _
      | exact changeforgeref5_Has.mono _ _ _
      | exact LeO.none _
      | refine LeO.ite ?_ ?_
      | refine LeO.bind ?_ (fun _ => ?_)
    · intro y0 y1 y2 y3
      unfold changeforgeref6_Distance.l3
      repeat' first
      | (with_reducible exact ih0 _ _ _)
      | (with_reducible exact ih1 _ _ _ _ _)
      | (with_reducible exact ih2 _ _ _)
      | (with_reducible exact ih3 _ _ _ _)
      | (with_reducible exact ih4 _ _ _ _ _)
      | (with_reducible exact changeforgeref5_Has.mono _ _ _)
      | (with_reducible exact LeO.refl _)
      | (with_reducible exact LeO.none _)
      | (with_reducible refine LeO.ite ?_ ?_)
      | (with_reducible refine LeO.bind ?_ (fun _ => ?_))
      | exact ih0 _ _ _
      | exact ih1 _ _ _ _ _
      | exact ih2 _ _ _
      | exact ih3 _ _ _ _
      | exact ih4 _ _ _ _ _
      | exact changeforgeref5_Has.mono _ _ _
      | exact LeO.none _
      | refine LeO.ite ?_ ?_
      | refine LeO.bind ?_ (fun _ => ?_)
    · intro y0 y1 y2 y3 y4
      unfold changeforgeref6_Distance.l4
      repeat' first
      | (with_reducible exact ih0 _ _ _)
      | (with_reducible exact ih1 _ _ _ _ _)
      | (with_reducible exact ih2 _ _ _)
      | (with_reducible exact ih3 _ _ _ _)
      | (with_reducible exact ih4 _ _ _ _ _)
      | (with_reducible exact changeforgeref5_Has.mono _ _ _)
      | (with_reducible exact LeO.refl _)
      | (with_reducible exact LeO.none _)
      | (with_reducible refine LeO.ite ?_ ?_)
      | (with_reducible refine LeO.bind ?_ (fun _ => ?_))
      | exact ih0 _ _ _
      | exact ih1 _ _ _ _ _
      | exact ih2 _ _ _
      | exact ih3 _ _ _ _
      | exact ih4 _ _ _ _ _
      | exact changeforgeref5_Has.mono _ _ _
      | exact LeO.none _
      | refine LeO.ite ?_ ?_
      | refine LeO.bind ?_ (fun _ => ?_)
theorem changeforgeref6_Distance.mono : ∀ a0 k, LeO (changeforgeref6_Distance.f k a0) (changeforgeref6_Distance.f (k + 1) a0) := by
  intro a0 k
  obtain ⟨ih0, ih1, ih2, ih3, ih4⟩ := changeforgeref6_Distance.mono_l k
  unfold changeforgeref6_Distance.f
  repeat' first
      | (with_reducible exact ih0 _ _ _)
      | (with_reducible exact ih1 _ _ _ _ _)
      | (with_reducible exact ih2 _ _ _)
      | (with_reducible exact ih3 _ _ _ _)
      | (with_reducible exact ih4 _ _ _ _ _)
      | (with_reducible exact changeforgeref5_Has.mono _ _ _)
      | (with_reducible exact LeO.refl _)
      | (with_reducible exact LeO.none _)
      | (with_reducible refine LeO.ite ?_ ?_)
      | (with_reducible refine LeO.bind ?_ (fun _ => ?_))
      | exact ih0 _ _ _
      | exact ih1 _ _ _ _ _
      | exact ih2 _ _ _
      | exact ih3 _ _ _ _
      | exact ih4 _ _ _ _ _
      | exact changeforgeref5_Has.mono _ _ _
      | exact LeO.none _
      | refine LeO.ite ?_ ?_
      | refine LeO.bind ?_ (fun _ => ?_)
end Go.Proofs.Ytffcaglfcnmhdaa.H
end
section
namespace Go.Proofs.Ytffcaglfcnmhdaa.H
open Go.RowKit Go.Proofs.YtffcaglfcnmhdaaW.PrintWords Go.Proofs.YtffcaglfcnmhdaaW.PrintLast Go.Proofs.YtffcaglfcnmhdaaW.PrintMore
attribute [local go_sem] max2_int max_two
set_option linter.unusedVariables false
set_option linter.unusedSimpArgs false

def changeforgeref6_FirstOnCycle.l0 : Nat → List (List Int) → List (List Int) → Int → Option (Int)
  | 0, _, _, _ => none
  | k + 1, x0, x3, x4 => if x4 < (x0.length : Int) then (if 0 ≤ x4 then (if x4 < (x3.length : Int) then (if x4 < ((rd_L1 x3 x4).length : Int) then (if (rd (rd_L1 x3 x4) x4) < 1000 then (some x4) else (changeforgeref6_FirstOnCycle.l0 k x0 x3 (wrap64 (x4 + 1)))) else (none)) else (none)) else (none)) else (some (-1))
def changeforgeref6_FirstOnCycle.f (k : Nat) (l0 : List (List Int)) : Option (Int) := (changeforgeref6_Distance.f k l0).bind fun t277 => (changeforgeref6_FirstOnCycle.l0 k l0 t277 0)
theorem changeforgeref6_FirstOnCycle.mono_l : ∀ k, (∀ y0 y1 y2, LeO (changeforgeref6_FirstOnCycle.l0 k y0 y1 y2) (changeforgeref6_FirstOnCycle.l0 (k + 1) y0 y1 y2))
  | 0 => fun _ _ _ r h => by simp [changeforgeref6_FirstOnCycle.l0] at h
  | k + 1 => by
    have ih0 := changeforgeref6_FirstOnCycle.mono_l k
    · intro y0 y1 y2
      unfold changeforgeref6_FirstOnCycle.l0
      repeat' first
      | (with_reducible exact ih0 _ _ _)
      | (with_reducible exact changeforgeref6_Distance.mono _ _)
      | (with_reducible exact LeO.refl _)
      | (with_reducible exact LeO.none _)
      | (with_reducible refine LeO.ite ?_ ?_)
      | (with_reducible refine LeO.bind ?_ (fun _ => ?_))
      | exact ih0 _ _ _
      | exact changeforgeref6_Distance.mono _ _
      | exact LeO.none _
      | refine LeO.ite ?_ ?_
      | refine LeO.bind ?_ (fun _ => ?_)
theorem changeforgeref6_FirstOnCycle.mono : ∀ a0 k, LeO (changeforgeref6_FirstOnCycle.f k a0) (changeforgeref6_FirstOnCycle.f (k + 1) a0) := by
  intro a0 k
  have ih0 := changeforgeref6_FirstOnCycle.mono_l k
  unfold changeforgeref6_FirstOnCycle.f
  repeat' first
      | (with_reducible exact ih0 _ _ _)
      | (with_reducible exact changeforgeref6_Distance.mono _ _)
      | (with_reducible exact LeO.refl _)
      | (with_reducible exact LeO.none _)
      | (with_reducible refine LeO.ite ?_ ?_)
      | (with_reducible refine LeO.bind ?_ (fun _ => ?_))
      | exact ih0 _ _ _
      | exact changeforgeref6_Distance.mono _ _
      | exact LeO.none _
      | refine LeO.ite ?_ ?_
      | refine LeO.bind ?_ (fun _ => ?_)
mutual
def changeforgeref6_ShortestCycle.l0 : Nat → List (List Int) → Int → List (List Int) → List Int → Int → Int → Option (List Int)
  | 0, _, _, _, _, _, _ => none
  | k + 1, x0, x1, x5, x6, x7, x8 => if x8 > 0 then (changeforgeref6_ShortestCycle.l1 k x0 x1 x5 x6 x7 x8 (-1) (wrap64 ((x0.length : Int) - 1))) else (some x6)
def changeforgeref6_ShortestCycle.l1 : Nat → List (List Int) → Int → List (List Int) → List Int → Int → Int → Int → Int → Option (List Int)
  | 0, _, _, _, _, _, _, _, _ => none
  | k + 1, x0, x1, x5, x6, x7, x8, x9, x10 => if x10 ≥ 0 then (if 0 ≤ x7 then (if x7 < (x0.length : Int) then ((changeforgeref5_Has.f k (rd_L1 x0 x7) x10).bind fun t291 => (if t291 = true then (if x10 = x1 then (changeforgeref6_ShortestCycle.l1 k x0 x1 x5 x6 x7 x8 x9 (wrap64 (x10 - 1))) else (if 0 ≤ x10 then (if x10 < (x5.length : Int) then (if 0 ≤ x1 then (if x1 < ((rd_L1 x5 x10).length : Int) then (if (rd (rd_L1 x5 x10) x1) = x8 then (changeforgeref6_ShortestCycle.l1 k x0 x1 x5 x6 x7 x8 x10 (wrap64 (x10 - 1))) else (changeforgeref6_ShortestCycle.l1 k x0 x1 x5 x6 x7 x8 x9 (wrap64 (x10 - 1)))) else (none)) else (none)) else (none)) else (none))) else (changeforgeref6_ShortestCycle.l1 k x0 x1 x5 x6 x7 x8 x9 (wrap64 (x10 - 1))))) else (none)) else (none)) else (if x6.length < 17592186044416 then (changeforgeref6_ShortestCycle.l0 k x0 x1 x5 (x6 ++ [x9]) x9 (wrap64 (x8 - 1))) else (none))
end
def changeforgeref6_ShortestCycle.f (k : Nat) (l0 : List (List Int)) (a1 : Int) : Option (List Int) := (changeforgeref6_Distance.f k l0).bind fun t282 => (if 0 ≤ a1 then (if a1 < (t282.length : Int) then (if a1 < ((rd_L1 t282 a1).length : Int) then (changeforgeref6_ShortestCycle.l0 k l0 a1 t282 (([a1] : List Int)) a1 (wrap64 ((rd (rd_L1 t282 a1) a1) - 1))) else (none)) else (none)) else (none))
theorem changeforgeref6_ShortestCycle.mono_l : ∀ k, (∀ y0 y1 y2 y3 y4 y5, LeO (changeforgeref6_ShortestCycle.l0 k y0 y1 y2 y3 y4 y5) (changeforgeref6_ShortestCycle.l0 (k + 1) y0 y1 y2 y3 y4 y5)) ∧ (∀ y0 y1 y2 y3 y4 y5 y6 y7, LeO (changeforgeref6_ShortestCycle.l1 k y0 y1 y2 y3 y4 y5 y6 y7) (changeforgeref6_ShortestCycle.l1 (k + 1) y0 y1 y2 y3 y4 y5 y6 y7))
  | 0 => ⟨fun _ _ _ _ _ _ r h => by simp [changeforgeref6_ShortestCycle.l0] at h, fun _ _ _ _ _ _ _ _ r h => by simp [changeforgeref6_ShortestCycle.l1] at h⟩
  | k + 1 => by
    obtain ⟨ih0, ih1⟩ := changeforgeref6_ShortestCycle.mono_l k
    refine ⟨?_, ?_⟩
    · intro y0 y1 y2 y3 y4 y5
      unfold changeforgeref6_ShortestCycle.l0
      repeat' first
      | (with_reducible exact ih0 _ _ _ _ _ _)
      | (with_reducible exact ih1 _ _ _ _ _ _ _ _)
      | (with_reducible exact changeforgeref5_Has.mono _ _ _)
      | (with_reducible exact changeforgeref6_Distance.mono _ _)
      | (with_reducible exact LeO.refl _)
      | (with_reducible exact LeO.none _)
      | (with_reducible refine LeO.ite ?_ ?_)
      | (with_reducible refine LeO.bind ?_ (fun _ => ?_))
      | exact ih0 _ _ _ _ _ _
      | exact ih1 _ _ _ _ _ _ _ _
      | exact changeforgeref5_Has.mono _ _ _
      | exact changeforgeref6_Distance.mono _ _
      | exact LeO.none _
      | refine LeO.ite ?_ ?_
      | refine LeO.bind ?_ (fun _ => ?_)
    · intro y0 y1 y2 y3 y4 y5 y6 y7
      unfold changeforgeref6_ShortestCycle.l1
      repeat' first
      | (with_reducible exact ih0 _ _ _ _ _ _)
      | (with_reducible exact ih1 _ _ _ _ _ _ _ _)
      | (with_reducible exact changeforgeref5_Has.mono _ _ _)
      | (with_reducible exact changeforgeref6_Distance.mono _ _)
      | (with_reducible exact LeO.refl _)
      | (with_reducible exact LeO.none _)
      | (with_reducible refine LeO.ite ?_ ?_)
      | (with_reducible refine LeO.bind ?_ (fun _ => ?_))
      | exact ih0 _ _ _ _ _ _
      | exact ih1 _ _ _ _ _ _ _ _
      | exact changeforgeref5_Has.mono _ _ _
      | exact changeforgeref6_Distance.mono _ _
      | exact LeO.none _
      | refine LeO.ite ?_ ?_
      | refine LeO.bind ?_ (fun _ => ?_)
theorem changeforgeref6_ShortestCycle.mono : ∀ a0 a1 k, LeO (changeforgeref6_ShortestCycle.f k a0 a1) (changeforgeref6_ShortestCycle.f (k + 1) a0 a1) := by
  intro a0 a1 k
  obtain ⟨ih0, ih1⟩ := changeforgeref6_ShortestCycle.mono_l k
  unfold changeforgeref6_ShortestCycle.f
  repeat' first
      | (with_reducible exact ih0 _ _ _ _ _ _)
      | (with_reducible exact ih1 _ _ _ _ _ _ _ _)
      | (with_reducible exact changeforgeref5_Has.mono _ _ _)
      | (with_reducible exact changeforgeref6_Distance.mono _ _)
      | (with_reducible exact LeO.refl _)
      | (with_reducible exact LeO.none _)
      | (with_reducible refine LeO.ite ?_ ?_)
      | (with_reducible refine LeO.bind ?_ (fun _ => ?_))
      | exact ih0 _ _ _ _ _ _
      | exact ih1 _ _ _ _ _ _ _ _
      | exact changeforgeref5_Has.mono _ _ _
      | exact changeforgeref6_Distance.mono _ _
      | exact LeO.none _
      | refine LeO.ite ?_ ?_
      | refine LeO.bind ?_ (fun _ => ?_)
def changeforgeref6_ChangedFault.f (k : Nat) (l0 : List (List Int)) (l1 : List Int) : Option (Int × Int) := (changeforgeref6_GraphFault.f k l0).bind fun bt298 => (if bt298.1 = 0 then ((changeforgeref6_nodesCode.f k (l0.length : Int) l1).bind fun t301 => (if t301 = 0 then (some (bt298.1, bt298.2)) else ((changeforgeref6_fault.f t301 (-2)).bind fun bt302 => (some (bt302.1, bt302.2))))) else (some (bt298.1, bt298.2)))
theorem changeforgeref6_ChangedFault.mono : ∀ a0 a1 k, LeO (changeforgeref6_ChangedFault.f k a0 a1) (changeforgeref6_ChangedFault.f (k + 1) a0 a1) := by
  intro a0 a1 k
  unfold changeforgeref6_ChangedFault.f
  repeat' first
      | (with_reducible exact changeforgeref6_GraphFault.mono _ _)
      | (with_reducible exact changeforgeref6_nodesCode.mono _ _ _)
      | (with_reducible exact LeO.refl _)
      | (with_reducible exact LeO.none _)
      | (with_reducible refine LeO.ite ?_ ?_)
      | (with_reducible refine LeO.bind ?_ (fun _ => ?_))
      | exact changeforgeref6_GraphFault.mono _ _
      | exact changeforgeref6_nodesCode.mono _ _ _
      | exact LeO.none _
      | refine LeO.ite ?_ ?_
      | refine LeO.bind ?_ (fun _ => ?_)
mutual
def changeforgeref6_Affected.l0 : Nat → List (List Int) → List Int → List (List Int) → List Int → Int → Option (List Int)
  | 0, _, _, _, _, _ => none
  | k + 1, x0, x1, x5, x6, x7 => if x7 < (x0.length : Int) then ((changeforgeref5_Has.f k x1 x7).bind fun t307 => (changeforgeref6_Affected.l1 k x0 x1 x5 x6 x7 t307 0)) else (some x6)
def changeforgeref6_Affected.l1 : Nat → List (List Int) → List Int → List (List Int) → List Int → Int → Bool → Int → Option (List Int)
  | 0, _, _, _, _, _, _, _ => none
  | k + 1, x0, x1, x5, x6, x7, x8, x9 => if x9 < (x1.length : Int) then (if x8 = true then (changeforgeref6_Affected.l1 k x0 x1 x5 x6 x7 true (wrap64 (x9 + 1))) else (if 0 ≤ x7 then (if x7 < (x5.length : Int) then (if 0 ≤ x9 then (if 0 ≤ (rd x1 x9) then (if (rd x1 x9) < ((rd_L1 x5 x7).length : Int) then (changeforgeref6_Affected.l1 k x0 x1 x5 x6 x7 (decide ((rd (rd_L1 x5 x7) (rd x1 x9)) < 1000)) (wrap64 (x9 + 1))) else (none)) else (none)) else (none)) else (none)) else (none))) else (if x8 = true then (if x6.length < 17592186044416 then (changeforgeref6_Affected.l0 k x0 x1 x5 (x6 ++ [x7]) (wrap64 (x7 + 1))) else (none)) else (changeforgeref6_Affected.l0 k x0 x1 x5 x6 (wrap64 (x7 + 1))))
end
def changeforgeref6_Affected.f (k : Nat) (l0 : List (List Int)) (l1 : List Int) : Option (List Int) := (changeforgeref6_Distance.f k l0).bind fun t304 => (changeforgeref6_Affected.l0 k l0 l1 t304 ([] : List Int) 0)
theorem changeforgeref6_Affected.mono_l : ∀ k, (∀ y0 y1 y2 y3 y4, LeO (changeforgeref6_Affected.l0 k y0 y1 y2 y3 y4) (changeforgeref6_Affected.l0 (k + 1) y0 y1 y2 y3 y4)) ∧ (∀ y0 y1 y2 y3 y4 y5 y6, LeO (changeforgeref6_Affected.l1 k y0 y1 y2 y3 y4 y5 y6) (changeforgeref6_Affected.l1 (k + 1) y0 y1 y2 y3 y4 y5 y6))
  | 0 => ⟨fun _ _ _ _ _ r h => by simp [changeforgeref6_Affected.l0] at h, fun _ _ _ _ _ _ _ r h => by simp [changeforgeref6_Affected.l1] at h⟩
  | k + 1 => by
    obtain ⟨ih0, ih1⟩ := changeforgeref6_Affected.mono_l k
    refine ⟨?_, ?_⟩
    · intro y0 y1 y2 y3 y4
      unfold changeforgeref6_Affected.l0
      repeat' first
      | (with_reducible exact ih0 _ _ _ _ _)
      | (with_reducible exact ih1 _ _ _ _ _ _ _)
      | (with_reducible exact changeforgeref5_Has.mono _ _ _)
      | (with_reducible exact changeforgeref6_Distance.mono _ _)
      | (with_reducible exact LeO.refl _)
      | (with_reducible exact LeO.none _)
      | (with_reducible refine LeO.ite ?_ ?_)
      | (with_reducible refine LeO.bind ?_ (fun _ => ?_))
      | exact ih0 _ _ _ _ _
      | exact ih1 _ _ _ _ _ _ _
      | exact changeforgeref5_Has.mono _ _ _
      | exact changeforgeref6_Distance.mono _ _
      | exact LeO.none _
      | refine LeO.ite ?_ ?_
      | refine LeO.bind ?_ (fun _ => ?_)
    · intro y0 y1 y2 y3 y4 y5 y6
      unfold changeforgeref6_Affected.l1
      repeat' first
      | (with_reducible exact ih0 _ _ _ _ _)
      | (with_reducible exact ih1 _ _ _ _ _ _ _)
      | (with_reducible exact changeforgeref5_Has.mono _ _ _)
      | (with_reducible exact changeforgeref6_Distance.mono _ _)
      | (with_reducible exact LeO.refl _)
      | (with_reducible exact LeO.none _)
      | (with_reducible refine LeO.ite ?_ ?_)
      | (with_reducible refine LeO.bind ?_ (fun _ => ?_))
      | exact ih0 _ _ _ _ _
      | exact ih1 _ _ _ _ _ _ _
      | exact changeforgeref5_Has.mono _ _ _
      | exact changeforgeref6_Distance.mono _ _
      | exact LeO.none _
      | refine LeO.ite ?_ ?_
      | refine LeO.bind ?_ (fun _ => ?_)
theorem changeforgeref6_Affected.mono : ∀ a0 a1 k, LeO (changeforgeref6_Affected.f k a0 a1) (changeforgeref6_Affected.f (k + 1) a0 a1) := by
  intro a0 a1 k
  obtain ⟨ih0, ih1⟩ := changeforgeref6_Affected.mono_l k
  unfold changeforgeref6_Affected.f
  repeat' first
      | (with_reducible exact ih0 _ _ _ _ _)
      | (with_reducible exact ih1 _ _ _ _ _ _ _)
      | (with_reducible exact changeforgeref5_Has.mono _ _ _)
      | (with_reducible exact changeforgeref6_Distance.mono _ _)
      | (with_reducible exact LeO.refl _)
      | (with_reducible exact LeO.none _)
      | (with_reducible refine LeO.ite ?_ ?_)
      | (with_reducible refine LeO.bind ?_ (fun _ => ?_))
      | exact ih0 _ _ _ _ _
      | exact ih1 _ _ _ _ _ _ _
      | exact changeforgeref5_Has.mono _ _ _
      | exact changeforgeref6_Distance.mono _ _
      | exact LeO.none _
      | refine LeO.ite ?_ ?_
      | refine LeO.bind ?_ (fun _ => ?_)
end Go.Proofs.Ytffcaglfcnmhdaa.H
end
section
namespace Go.Proofs.Ytffcaglfcnmhdaa.H
open Go.RowKit Go.Proofs.YtffcaglfcnmhdaaW.PrintWords Go.Proofs.YtffcaglfcnmhdaaW.PrintLast Go.Proofs.YtffcaglfcnmhdaaW.PrintMore
set_option linter.unusedVariables false
set_option linter.unusedSimpArgs false
open Go.RowKit
def WB (g : List (List Int)) (K : Nat) : Nat → Nat → Nat → Prop
  | 0, _, _ => False
  | 1, i, j => E g i j
  | d + 2, i, j => ∃ m, m < K ∧ E g i m ∧ WB g K (d + 1) m j
theorem WB.wk {g : List (List Int)} {K : Nat} : ∀ {d i j : Nat}, WB g K d i j → 1 ≤ d ∧ Wk g d i j
  | 0, _, _, h => h.elim
  | 1, i, j, h => ⟨Nat.le_refl _, Wk.one h⟩
  | d + 2, i, j, ⟨m, _, e, h⟩ => ⟨by omega, m, e, h.wk.2⟩
theorem WB.split {g : List (List Int)} {K : Nat} : ∀ {d i j : Nat}, WB g (K + 1) d i j → WB g K d i j ∨ ∃ a b, a + b ≤ d ∧ WB g K a i K ∧ WB g K b K j
  | 0, _, _, h => h.elim
  | 1, i, j, h => .inl h
  | d + 2, i, j, ⟨m, hm, e, h⟩ => by
    by_cases hk : m = K
    · subst hk
      rcases h.split with h | ⟨a, b, hab, _, hb⟩
      · exact .inr ⟨1, d + 1, by omega, e, h⟩
      · exact .inr ⟨1, b, by have : 1 ≤ a := WB.wk (by assumption) |>.1; omega, e, hb⟩
    · rcases h.split with h | ⟨a, b, hab, ha, hb⟩
      · exact .inl ⟨m, by omega, e, h⟩
      · obtain ⟨a', rfl⟩ : ∃ a', a = a' + 1 := ⟨a - 1, by have := ha.wk.1; omega⟩
        exact .inr ⟨a' + 2, b, by omega, ⟨m, by omega, e, ha⟩, hb⟩
theorem Has_ev (l : List Int) (hl : l.length ≤ 9223372036854775807) (x : Int) : Ev (fun k => changeforgeref5_Has.f k l x) (decide (x ∈ l)) := by
  have loop : ∀ d j, l.length - j = d → j ≤ l.length → Ev (fun k => changeforgeref5_Has.l0 k l x (j : Int)) (decide (x ∈ l.drop j)) := by
    intro d
    induction d with
    | zero =>
      intro j hd hj
      refine Ev.of_succ ?_
      simp only [changeforgeref5_Has.l0, show ¬ (j : Int) < (l.length : Int) from by omega, ↓reduceIte]
      rw [List.drop_eq_nil_of_le (by omega)]
      exact (Ev.const _).cast (by simp)
    | succ d ih =>
      intro j hd hj
      have hjl : j < l.length := by omega
      refine Ev.of_succ ?_
      rw [drop_rd l j hjl]
      by_cases h : rd l (j : Int) = x
      · simp only [changeforgeref5_Has.l0, show (j : Int) < (l.length : Int) from by omega, show (0 : Int) ≤ (j : Int) from by omega, h, ↓reduceIte]
        exact (Ev.const _).cast (by simp)
      · simp only [changeforgeref5_Has.l0, show (j : Int) < (l.length : Int) from by omega, show (0 : Int) ≤ (j : Int) from by omega, h, ↓reduceIte, wrap_up j (by omega)]
        exact (ih (j + 1) (by omega) (by omega)).cast (by simp [Ne.symm h])
  exact loop _ 0 rfl (by omega)
end Go.Proofs.Ytffcaglfcnmhdaa.H
end
section
namespace Go.Proofs.Ytffcaglfcnmhdaa.H
open Go.RowKit Go.Proofs.YtffcaglfcnmhdaaW.PrintWords Go.Proofs.YtffcaglfcnmhdaaW.PrintLast Go.Proofs.YtffcaglfcnmhdaaW.PrintMore
set_option linter.unusedVariables false
set_option linter.unusedSimpArgs false
open Go.RowKit
/-- The numbers below N that p holds of. -/
def fl (N : Nat) (p : Nat → Bool) : List Int := ((List.range N).filter p).map (fun i : Nat => (i : Int))
theorem fl_succ (N : Nat) (p : Nat → Bool) : fl (N + 1) p = if p N = true then fl N p ++ [(N : Int)] else fl N p := by
  unfold fl
  rw [List.range_succ, List.filter_append]
  by_cases h : p N = true
  · rw [if_pos h]; simp [h]
  · rw [if_neg h]; simp [h]
theorem fl_len (N : Nat) (p : Nat → Bool) : (fl N p).length ≤ N := by
  unfold fl
  rw [List.length_map]
  exact Nat.le_trans (List.length_filter_le _ _) (by simp)
theorem fl_mem (N : Nat) (p : Nat → Bool) (i : Nat) : (i : Int) ∈ fl N p ↔ i < N ∧ p i = true := by
  unfold fl
  rw [List.mem_map]
  constructor
  · rintro ⟨j, hj, e⟩
    obtain rfl : j = i := by omega
    rw [List.mem_filter, List.mem_range] at hj
    exact hj
  · intro h
    exact ⟨i, List.mem_filter.2 ⟨List.mem_range.2 h.1, h.2⟩, rfl⟩
theorem fl_mem' (N : Nat) (p : Nat → Bool) (x : Int) (h : x ∈ fl N p) : 0 ≤ x ∧ x < (N : Int) := by
  unfold fl at h
  obtain ⟨j, hj, rfl⟩ := List.mem_map.1 h
  rw [List.mem_filter, List.mem_range] at hj
  omega
theorem fl_congr {N : Nat} {p q : Nat → Bool} (h : ∀ i, i < N → p i = q i) : fl N p = fl N q := by
  unfold fl
  rw [List.filter_congr (fun i hi => h i (List.mem_range.1 hi))]
theorem fl_good (N : Nat) (p : Nat → Bool) : Good N (fl N p) := by
  refine ⟨fun x hx => fl_mem' N p x hx, ?_⟩
  induction N with
  | zero => exact List.Pairwise.nil
  | succ N ih =>
    rw [fl_succ]
    split
    · rw [List.pairwise_append]
      exact ⟨ih, List.pairwise_singleton _ _, fun a ha b hb => by rw [List.mem_singleton.1 hb]; exact (fl_mem' N p a ha).2⟩
    · exact ih
/-- i is affected: it is among l, or leads to one of l. -/
def Af (g : List (List Int)) (l : List Int) (i : Nat) : Prop := (i : Int) ∈ l ∨ ∃ x : Nat, (x : Int) ∈ l ∧ Rch g i x
noncomputable def af (g : List (List Int)) (l : List Int) (i : Nat) : Bool := @decide (Af g l i) (Classical.propDecidable _)
theorem af_iff {g : List (List Int)} {l : List Int} {i : Nat} : af g l i = true ↔ Af g l i := by unfold af; exact @decide_eq_true_iff _ (Classical.propDecidable _)
noncomputable def afF (g : List (List Int)) (l : List Int) : List Int × Int × Int := if (gf g).1 = 0 then (if lc g.length none l = 0 then (fl g.length (af g l), 0, 0) else ([], lc g.length none l, -2)) else ([], (gf g).1, (gf g).2)
theorem Affected_ev (g : List (List Int)) (hl : ∀ l ∈ g, l.length ≤ 9223372036854775807) (l : List Int) (hll : l.length ≤ 9223372036854775807) : Ev (fun k => depgraph_Affected.f k g l) (afF g l) := by
  simp only [depgraph_Affected.f]
  refine Ev.bind (Validate_ev g hl) ?_
  unfold afF
  by_cases h0 : (gf g).1 = 0
  · obtain ⟨h1, hv⟩ := gf_val h0
    rw [h1]
    simp only [beq_self_eq_true, Bool.not_true, Bool.or_self, Bool.false_eq_true, ↓reduceIte]
    refine Ev.bind (list_ev g.length l hll) ?_
    by_cases h2 : lc g.length none l = 0
    · have hg := (lc_good _ _ _ h2).1
      have hle := hv.le
      simp only [h2, ↓reduceIte]
      have loop : ∀ d i, g.length - i = d → i ≤ g.length → Ev (fun k => depgraph_Affected.l0 k g l (fl i (af g l)) (i : Int)) (fl g.length (af g l)) := by
        intro d
        induction d with
        | zero =>
          intro i hd hi
          obtain rfl : i = g.length := by omega
          refine Ev.of_succ ?_
          simp only [depgraph_Affected.l0, show ¬ (g.length : Int) < (g.length : Int) from by omega, ↓reduceIte]
          exact Ev.const _
        | succ d ih =>
          intro i hd hi
          have hil : i < g.length := by omega
          obtain ⟨q, h3, h4⟩ := reach_ev hv hil
          refine Ev.of_succ ?_
          simp only [depgraph_Affected.l0, show (i : Int) < (g.length : Int) from by omega, ↓reduceIte]
          refine Ev.bind h3 ?_
          have hall : (l.all fun x => decide (0 ≤ x) && decide (x < ((tl g.length q).length : Int))) = true := by
            rw [List.all_eq_true]
            intro x hx
            have := hg.rng x hx
            rw [tl_length]
            simp [this]
          have hany : (l.any fun x => x == (i : Int) || rdOf false (tl g.length q) x) = af g l i := by
            rw [Bool.eq_iff_iff, af_iff, List.any_eq_true]
            constructor
            · rintro ⟨x, hx, h⟩
              have hr := hg.rng x hx
              rw [Bool.or_eq_true, beq_iff_eq] at h
              rcases h with h | h
              · rw [h] at hx; exact .inl hx
              · obtain ⟨n, rfl⟩ : ∃ n : Nat, x = (n : Int) := ⟨x.toNat, by omega⟩
                rw [tl_rdOf false _ _ n (by omega)] at h
                exact .inr ⟨n, hx, (h4 n (by omega)).1 h⟩
            · rintro (h | ⟨n, hx, h⟩)
              · exact ⟨i, h, by simp⟩
              · have hr := hg.rng _ hx
                refine ⟨n, hx, ?_⟩
                rw [tl_rdOf false _ _ n (by omega), (h4 n (by omega)).2 h]
                simp
          have h5 := ih (i + 1) (by omega) (by omega)
          rw [fl_succ] at h5
          have := fl_len i (af g l)
          simp only [hall, hany, ↓reduceIte, wrap_up i (by omega), show (fl i (af g l)).length < 17592186044416 from by omega]
          by_cases hc : af g l i = true
          · simp only [hc, ↓reduceIte] at h5 ⊢
            exact h5
          · simp only [hc, ↓reduceIte] at h5 ⊢
            exact h5
      refine Ev.bind (loop _ 0 rfl (by omega)) ?_
      exact Ev.const _
    · simp only [h2, ↓reduceIte]
      exact Ev.const _
  · have hb : (!((gf g).1 == 0) || !((gf g).2 == 0)) = true := by simp [h0]
    simp only [hb, h0, ↓reduceIte]
    exact Ev.const _
/-- An affected node: one of l, or with an affected neighbour. -/
theorem Af.step {g : List (List Int)} {l : List Int} {i : Nat} : Af g l i ↔ (i : Int) ∈ l ∨ ∃ m, E g i m ∧ Af g l m := by
  constructor
  · rintro (h | ⟨x, hx, hr⟩)
    · exact .inl h
    · obtain ⟨m, he, h⟩ := hr.fst
      rcases h with rfl | h
      · exact .inr ⟨m, he, .inl hx⟩
      · exact .inr ⟨m, he, .inr ⟨x, hx, h⟩⟩
  · rintro (h | ⟨m, he, h | ⟨x, hx, hr⟩⟩)
    · exact .inl h
    · exact .inr ⟨m, h, Rch.one he⟩
    · exact .inr ⟨x, hx, (Rch.one he).trans hr⟩
end Go.Proofs.Ytffcaglfcnmhdaa.H
end
section
namespace Go.Proofs.Ytffcaglfcnmhdaa.H
open Go.RowKit Go.Proofs.YtffcaglfcnmhdaaW.PrintWords Go.Proofs.YtffcaglfcnmhdaaW.PrintLast Go.Proofs.YtffcaglfcnmhdaaW.PrintMore
set_option linter.unusedVariables false
set_option linter.unusedSimpArgs false
open Go.RowKit
theorem Ints_ev {a : List Int} (ha : a.length ≤ 9223372036854775807) : Ev (fun k => changeforgeref5_Ints.f k a a) true := by
  have loop : ∀ d j, a.length - j = d → j ≤ a.length → Ev (fun k => changeforgeref5_Ints.l0 k a a (j : Int)) true := by
    intro d
    induction d with
    | zero =>
      intro j hd hj
      refine Ev.of_succ ?_
      simp only [changeforgeref5_Ints.l0, show ¬ (j : Int) < (a.length : Int) from by omega, ↓reduceIte]
      exact Ev.const _
    | succ d ih =>
      intro j hd hj
      refine Ev.of_succ ?_
      simp only [changeforgeref5_Ints.l0, show (j : Int) < (a.length : Int) from by omega, show (0 : Int) ≤ (j : Int) from by omega, ↓reduceIte, wrap_up j (by omega)]
      exact ih (j + 1) (by omega) (by omega)
  simp only [changeforgeref5_Ints.f, ↓reduceIte]
  exact loop _ 0 rfl (by omega)
end Go.Proofs.Ytffcaglfcnmhdaa.H
end
section
namespace Go.Proofs.Ytffcaglfcnmhdaa.H
open Go.RowKit Go.Proofs.YtffcaglfcnmhdaaW.PrintWords Go.Proofs.YtffcaglfcnmhdaaW.PrintLast Go.Proofs.YtffcaglfcnmhdaaW.PrintMore
set_option linter.unusedVariables false
set_option linter.unusedSimpArgs false
open Go.RowKit
theorem graphs_run : changeforgelaw6_graphs.f 60 = some true := by kernel_rfl
theorem graphs_ev : Ev (fun k => changeforgelaw6_graphs.f k) true := Ev.of_mono (fun k => changeforgelaw6_graphs.mono k) graphs_run
end Go.Proofs.Ytffcaglfcnmhdaa.H
end
section
namespace Go.Proofs.Ytffcaglfcnmhdaa.H
open Go.RowKit Go.Proofs.YtffcaglfcnmhdaaW.PrintWords Go.Proofs.YtffcaglfcnmhdaaW.PrintLast Go.Proofs.YtffcaglfcnmhdaaW.PrintMore
set_option linter.unusedVariables false
set_option linter.unusedSimpArgs false
open Go.RowKit
theorem fl_big (N : Nat) (p : Nat → Bool) (h : ∀ i, N ≤ i → p i = false) : ∀ d, fl (N + d) p = fl N p
  | 0 => rfl
  | d + 1 => by
    rw [show N + (d + 1) = (N + d) + 1 from by omega, fl_succ, if_neg (by rw [h _ (by omega)]; simp)]
    exact fl_big N p h d
theorem joined_ev (a b : List Int) (ha : a.length ≤ 9223372036854775807) (hb : b.length ≤ 9223372036854775807) : Ev (fun k => changeforgelaw6_joined.f k a b) (fl 24 fun i => decide ((i : Int) ∈ a) || decide ((i : Int) ∈ b)) := by
  have loop : ∀ d i, 24 - i = d → i ≤ 24 → Ev (fun k => changeforgelaw6_joined.l0 k a b (fl i fun i => decide ((i : Int) ∈ a) || decide ((i : Int) ∈ b)) (i : Int)) (fl 24 fun i => decide ((i : Int) ∈ a) || decide ((i : Int) ∈ b)) := by
    intro d
    induction d with
    | zero =>
      intro i hd hi
      obtain rfl : i = 24 := by omega
      refine Ev.of_succ ?_
      simp only [changeforgelaw6_joined.l0, show ¬ ((24 : Nat) : Int) < 24 from by omega, ↓reduceIte]
      exact Ev.const _
    | succ d ih =>
      intro i hd hi
      have h2 := ih (i + 1) (by omega) (by omega)
      have hl := fl_len i fun i => decide ((i : Int) ∈ a) || decide ((i : Int) ∈ b)
      rw [fl_succ] at h2
      refine Ev.of_succ ?_
      simp only [changeforgelaw6_joined.l0, show (i : Int) < 24 from by omega, ↓reduceIte]
      refine Ev.bind (Has_ev a ha (i : Int)) ?_
      by_cases h : (i : Int) ∈ a
      · simp only [h, decide_true, Bool.true_or, ↓reduceIte, show (fl i fun i => decide ((i : Int) ∈ a) || decide ((i : Int) ∈ b)).length < 17592186044416 from by omega, wrap_up i (by omega)] at h2 ⊢
        exact h2
      · simp only [h, decide_false, Bool.false_eq_true, ↓reduceIte]
        refine Ev.bind (Has_ev b hb (i : Int)) ?_
        by_cases h' : (i : Int) ∈ b
        · simp only [h, h', decide_false, decide_true, Bool.or_true, ↓reduceIte, show (fl i fun i => decide ((i : Int) ∈ a) || decide ((i : Int) ∈ b)).length < 17592186044416 from by omega, wrap_up i (by omega)] at h2 ⊢
          exact h2
        · simp only [h, h', decide_false, Bool.or_self, Bool.false_eq_true, ↓reduceIte, wrap_up i (by omega)] at h2 ⊢
          exact h2
  exact loop _ 0 rfl (by omega)
theorem joined_good {N : Nat} (hN : N ≤ 24) {a b : List Int} (ha : Good N a) (hb : Good N b) : Ev (fun k => changeforgelaw6_joined.f k a b) (fl N fun i => decide ((i : Int) ∈ a) || decide ((i : Int) ∈ b)) := by
  refine (joined_ev a b (by have := ha.len; omega) (by have := hb.len; omega)).cast ?_
  obtain ⟨d, hd⟩ : ∃ d, 24 = N + d := ⟨24 - N, by omega⟩
  rw [hd]
  refine fl_big N _ (fun i hi => ?_) d
  have h1 : ¬ (i : Int) ∈ a := fun h => by have := (ha.rng _ h).2; omega
  have h2 : ¬ (i : Int) ∈ b := fun h => by have := (hb.rng _ h).2; omega
  simp [h1, h2]
theorem Affected_good {g : List (List Int)} (hg : ∀ x ∈ g, x.length ≤ 9223372036854775807) (h0 : (gf g).1 = 0) {l : List Int} (hl : Good g.length l) : Ev (fun k => depgraph_Affected.f k g l) (fl g.length (af g l), 0, 0) := by
  have hv := (gf_val h0).2
  refine (Affected_ev g hg l (by have := hl.len; have := hv.le; omega)).cast ?_
  unfold afF
  rw [if_pos h0, if_pos (good_lc _ _ _ hl (by simp))]
theorem pf_DepgraphAffectedIsAClosure : changeforgelaw6_DepgraphAffectedIsAClosure.Pure := by
  intro g l1 l2 hg _ hl1 _ hl2 _
  refine Ev.run ?_
  have hgl : ∀ x ∈ g, x.length ≤ 9223372036854775807 := fun x hx => (hg.2 x hx).1
  simp only [changeforgelaw6_DepgraphAffectedIsAClosure.f]
  refine Ev.bind (Affected_ev g hgl l1 hl1.1) (Ev.bind (Affected_ev g hgl l2 hl2.1) (Ev.bind graphs_ev ?_))
  simp only [↓reduceIte]
  unfold afF
  by_cases h0 : (gf g).1 = 0
  · obtain ⟨h1, hv⟩ := gf_val h0
    have hle := hv.le
    simp only [h0, ↓reduceIte]
    by_cases c1 : lc g.length none l1 = 0
    · by_cases c2 : lc g.length none l2 = 0
      · have g1 := (lc_good _ _ _ c1).1
        have g2 := (lc_good _ _ _ c2).1
        simp only [c1, c2, ↓reduceIte, show ((0 : Int) != 0) = false from rfl]
        have gA1 := fl_good g.length (af g l1)
        have gA2 := fl_good g.length (af g l2)
        have hA : ∀ l (i : Nat), i < g.length → ((i : Int) ∈ fl g.length (af g l) ↔ Af g l i) := fun l i hi => by rw [fl_mem, af_iff]; exact ⟨fun h => h.2, fun h => ⟨hi, h⟩⟩
        refine Ev.of_succ ?_
        simp only [changeforgelaw6_DepgraphAffectedIsAClosure.j0, Bool.false_eq_true, ↓reduceIte]
        have gJ := fl_good g.length fun i => decide ((i : Int) ∈ l1) || decide ((i : Int) ∈ l2)
        refine Ev.bind (Affected_good hgl h0 gA1) (Ev.bind (joined_good hle g1 g2) (Ev.bind (Affected_good hgl h0 gJ) ?_))
        simp only [↓reduceIte]
        have e1 : fl g.length (af g (fl g.length (af g l1))) = fl g.length (af g l1) := by
          refine fl_congr fun i hi => ?_
          rw [Bool.eq_iff_iff, af_iff, af_iff]
          constructor
          · rintro (h | ⟨x, hx, hr⟩)
            · exact (hA l1 i hi).1 h
            · rcases (hA l1 x (hr.lt hv).2).1 hx with h | ⟨y, hy, hr2⟩
              · exact .inr ⟨x, h, hr⟩
              · exact .inr ⟨y, hy, hr.trans hr2⟩
          · exact fun h => .inl ((hA l1 i hi).2 h)
        rw [e1]
        refine Ev.bind (Ints_ev (by have := gA1.len; omega)) ?_
        simp only [↓reduceIte]
        refine Ev.bind (joined_good hle g1 gA1) ?_
        have e2 : (fl g.length fun i => decide ((i : Int) ∈ l1) || decide ((i : Int) ∈ fl g.length (af g l1))) = fl g.length (af g l1) := by
          refine fl_congr fun i hi => ?_
          rw [Bool.eq_iff_iff, af_iff, Bool.or_eq_true, decide_eq_true_iff, decide_eq_true_iff, hA l1 i hi]
          exact ⟨fun h => h.elim .inl id, .inr⟩
        rw [e2]
        refine Ev.bind (Ints_ev (by have := gA1.len; omega)) ?_
        simp only [↓reduceIte]
        refine Ev.bind (joined_good hle gA1 gA2) ?_
        have e3 : fl g.length (af g (fl g.length fun i => decide ((i : Int) ∈ l1) || decide ((i : Int) ∈ l2))) = fl g.length fun i => decide ((i : Int) ∈ fl g.length (af g l1)) || decide ((i : Int) ∈ fl g.length (af g l2)) := by
          refine fl_congr fun i hi => ?_
          have hJ : ∀ x : Nat, ((x : Int) ∈ fl g.length fun i => decide ((i : Int) ∈ l1) || decide ((i : Int) ∈ l2)) ↔ (x : Int) ∈ l1 ∨ (x : Int) ∈ l2 := fun x => by
            rw [fl_mem, Bool.or_eq_true, decide_eq_true_iff, decide_eq_true_iff]
            refine ⟨fun h => h.2, fun h => ⟨?_, h⟩⟩
            rcases h with h | h
            · have := (g1.rng _ h).2; omega
            · have := (g2.rng _ h).2; omega
          rw [Bool.eq_iff_iff, af_iff, Bool.or_eq_true, decide_eq_true_iff, decide_eq_true_iff, hA l1 i hi, hA l2 i hi]
          constructor
          · rintro (h | ⟨x, hx, hr⟩)
            · rcases (hJ i).1 h with h | h
              · exact .inl (.inl h)
              · exact .inr (.inl h)
            · rcases (hJ x).1 hx with h | h
              · exact .inl (.inr ⟨x, h, hr⟩)
              · exact .inr (.inr ⟨x, h, hr⟩)
          · rintro ((h | ⟨x, hx, hr⟩) | (h | ⟨x, hx, hr⟩))
            · exact .inl ((hJ i).2 (.inl h))
            · exact .inr ⟨x, (hJ x).2 (.inl hx), hr⟩
            · exact .inl ((hJ i).2 (.inr h))
            · exact .inr ⟨x, (hJ x).2 (.inr hx), hr⟩
        rw [e3]
        refine Ev.bind (Ints_ev (by have := (fl_good g.length fun i => decide ((i : Int) ∈ fl g.length (af g l1)) || decide ((i : Int) ∈ fl g.length (af g l2))).len; omega)) ?_
        exact Ev.const _
      · have hb : (lc g.length none l2 != 0) = true := by simp [c2]
        simp only [c1, c2, hb, ↓reduceIte]
        refine Ev.of_succ ?_
        simp only [changeforgelaw6_DepgraphAffectedIsAClosure.j0, c2, ↓reduceIte]
        exact (Ev.const _).cast (by simp)
    · simp only [c1, ↓reduceIte]
      refine Ev.of_succ ?_
      simp only [changeforgelaw6_DepgraphAffectedIsAClosure.j0, c1, ↓reduceIte, List.length_nil, show (((0 : Nat) : Int) = 0) = True from by simp]
      by_cases c2 : lc g.length none l2 = 0
      · simp only [c2, ↓reduceIte]
        exact Ev.const _
      · simp only [c2, ↓reduceIte]
        exact (Ev.const _).cast (by simp)
  · simp only [h0, ↓reduceIte]
    refine Ev.of_succ ?_
    simp only [changeforgelaw6_DepgraphAffectedIsAClosure.j0, h0, ↓reduceIte, List.length_nil, show (((0 : Nat) : Int) = 0) = True from by simp]
    exact (Ev.const _).cast (by simp)
end Go.Proofs.Ytffcaglfcnmhdaa.H
end
