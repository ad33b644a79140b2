/- Texts that the law DepgraphCyclesExplainFailures comes to, printed and by hand, what is not used left out. -/
import Derived.Test.YtffcaglfcnmhdaaCDepgraphCyclesExplainFailures9
import Derived.Deep.Slices
import Derived.ProofKit
import Derived.SizedLaws
import Derived.OpenShut
section
namespace Go.Proofs.Ytffcaglfcnmhdaa.H
open Go.RowKit Go.Proofs.YtffcaglfcnmhdaaW.PrintWords Go.Proofs.YtffcaglfcnmhdaaW.PrintLast Go.Proofs.YtffcaglfcnmhdaaW.PrintMore
set_option linter.unusedVariables false
set_option linter.unusedSimpArgs false
open Go.Deep
/-- What reads as data at type t has d's shape; F is what is then known of the value. -/
structure Opens {α : Type} (P : Program) (d : Kd α) (F : α → Prop) (t : TypeId) : Prop where
  size : P.cellsOf t = d.sz
  get : ∀ {H : Type} {enc : TypeId × Value → H} {w : World} {base : Nat} {spare : Nat → Bool} {held : Bool} {fuel : Nat} {cs : List Value} {x : DataW H × List MemPlace},
    DataW.trod enc P w base spare held fuel t cs = some x → ∃ v : α, d.K w v cs ∧ F v
theorem opens_int {P : Program} {t : TypeId} {k : IntKind} (hu : P.underlying t = some (.int k)) (hc : P.cellsOf t = 1) : Opens P (Kd.int k) (fun n => (Lit.int k n).wf = true) t :=
  ⟨hc, fun h => by
    obtain ⟨n, rfl, _, hw⟩ := DataW.trod_int hu h
    exact ⟨n, rfl, hw⟩⟩
theorem list_of {α : Type} (Q : Nat → α → Prop) : ∀ n : Nat, (∀ i, i < n → ∃ v, Q i v) → ∃ l : List α, l.length = n ∧ ∀ i v, l[i]? = some v → Q i v
  | 0, _ => ⟨[], rfl, fun i v h => by simp at h⟩
  | n + 1, h => by
    obtain ⟨l, hl, hq⟩ := list_of Q n (fun i hi => h i (by omega))
    obtain ⟨v, hv⟩ := h n (by omega)
    refine ⟨l ++ [v], by simp [hl], fun i u hu => ?_⟩
    rcases Nat.lt_or_ge i l.length with hi | hi
    · rw [List.getElem?_append_left hi] at hu
      exact hq i u hu
    · have hi' : i = n := by
        have := (List.getElem?_eq_some_iff.1 hu).1
        simp at this
        omega
      subst hi'
      have : v = u := by simpa [hl] using hu
      subst this
      exact hv
theorem opens_slice {α : Type} {P : Program} {d : Kd α} {F : α → Prop} {t e : TypeId} (hd : Opens P d F e) (hu : P.underlying t = some (.slice e)) (hc : P.cellsOf t = 1) :
    Opens P (Kd.slice e d) (fun l => l.length ≤ 9223372036854775807 ∧ ∀ x ∈ l, F x) t :=
  ⟨hc, fun {H enc w base spare held fuel cs x} h => by
    rcases open_slice hu h with ⟨rfl, _⟩ | ⟨a, len, cap, m, n, D, Pl, rfl, _, hl, hm, hmm, _, hx⟩
    · exact ⟨[], ⟨none, 0, rfl, Nat.le_refl _, Kd.C_nil _ _⟩, by simp⟩
    · unfold maxLen at hm
      have hlm : len ≤ m := by rw [hmm]; split <;> omega
      obtain ⟨l, hll, hq⟩ := list_of (fun i v => ∃ c, w.cells? base (a.add (i * P.cellsOf e)) (P.cellsOf e) = some c ∧ d.K w v c ∧ F v) len (fun i hi => by
        obtain ⟨c, h1, h2⟩ := hx i (by omega)
        obtain ⟨v, h3, h4⟩ := hd.get h2
        exact ⟨v, c, h1, h3, h4⟩)
      refine ⟨l, ⟨some a, cap, by rw [hll], by omega, rfl, by omega, fun _ => ⟨a, rfl, fun j p hj => ?_⟩⟩, by omega, fun v hv => ?_⟩
      · obtain ⟨c, h1, h2, _⟩ := hq j p hj
        refine ⟨c, d.K_len h2, h2, fun i u hi => ?_⟩
        have h5 := World.cells?_some h1
        have hlen : c.length = P.cellsOf e := by rw [d.K_len h2, hd.size]
        have hi' : i < P.cellsOf e := by rw [← hlen]; exact (List.getElem?_eq_some_iff.1 hi).1
        have ha : (a.add (j * d.sz + i)) = (a.add (j * P.cellsOf e)).add i := by
          rw [hd.size]
          unfold Addr.add
          by_cases h1 : j * d.sz = 0 <;> by_cases h2 : i = 0 <;> simp [h1, h2, Nat.add_assoc]
        rw [ha]
        obtain ⟨_, h6, h7⟩ := h5
        have h8 := h7 i hi'
        rw [hi] at h8
        exact h8
      · obtain ⟨i, hi⟩ := List.mem_iff_getElem?.1 hv
        obtain ⟨c, _, _, h3⟩ := hq i v hi
        exact h3⟩
/-- How long a slice that came in may be. -/
theorem sized_any {H : Type} {enc : TypeId × Value → H} {P : Program} {W : World} {base : Nat} {spare : Nat → Bool} {held : Bool} {t e : TypeId} {a : Option Addr} {len cap : Nat} {d : DataW H} {ps : List MemPlace} {ts : List TypeId} {ds : List (DataW H)} {j : Nat}
    (hsz : (DataW.weightsEach P ts ds).all (· ≤ reachBytes) = true) (ht : ts[j]? = some t) (hd : ds[j]? = some d) (hu : P.underlying t = some (.slice e)) {B : Nat} (hB : P.bytesOf e = B)
    (h : DataW.Trod enc P W base spare held t (.slice a len cap) d ps) : len * B ≤ 140737488351232 := by
  obtain ⟨fuel, hf⟩ := h
  rcases open_slice hu hf with ⟨hcs, _⟩ | ⟨a', len', cap', m, n, D, Pl, hcs, _, hl, hm, hmm, hx, _⟩
  · simp [Value.cells] at hcs
    obtain ⟨rfl, rfl, rfl⟩ := hcs
    simp
  · simp [Value.cells] at hcs
    obtain ⟨rfl, rfl, rfl⟩ := hcs
    obtain ⟨hx, _⟩ := Prod.mk.inj hx
    subst hx
    have z := sized_slice hsz ht hd hu
    rw [hB] at z
    simp only [List.length_map, List.length_range] at z
    exact Nat.le_trans (Nat.mul_le_mul_right _ (Nat.le_add_right _ _)) z

end Go.Proofs.Ytffcaglfcnmhdaa.H
end
section
namespace Go.Proofs.Ytffcaglfcnmhdaa.H
open Go.RowKit Go.Proofs.YtffcaglfcnmhdaaW.PrintWords Go.Proofs.YtffcaglfcnmhdaaW.PrintLast Go.Proofs.YtffcaglfcnmhdaaW.PrintMore
set_option linter.unusedVariables false
set_option linter.unusedSimpArgs false
def changeforgelaw6_DepgraphCyclesExplainFailures.Pure : Prop := ∀ (l0 : List (List Int)), (l0.length ≤ 9223372036854775807 ∧ ∀ x_ ∈ l0, x_.length ≤ 9223372036854775807 ∧ ∀ x__ ∈ x_, (Lit.int .i64 x__).wf = true) → l0.length * 24 ≤ 140737488351232 → ∃ k, changeforgelaw6_DepgraphCyclesExplainFailures.f k l0 = some true
end Go.Proofs.Ytffcaglfcnmhdaa.H
end
section
namespace Go.Proofs.Ytffcaglfcnmhdaa.H
open Go.RowKit Go.Proofs.YtffcaglfcnmhdaaW.PrintWords Go.Proofs.YtffcaglfcnmhdaaW.PrintLast Go.Proofs.YtffcaglfcnmhdaaW.PrintMore
set_option linter.unusedVariables false
set_option linter.unusedSimpArgs false
open Go.RowKit
/-- From some number of rounds on the answer is v. -/
def Ev {α : Type} (f : Nat → Option α) (v : α) : Prop := ∃ K, ∀ k, K ≤ k → f k = some v
theorem Ev.const {α : Type} (v : α) : Ev (fun _ => some v) v := ⟨0, fun _ _ => rfl⟩
theorem Ev.of_succ {α : Type} {f : Nat → Option α} {v : α} (h : Ev (fun k => f (k + 1)) v) : Ev f v := by
  obtain ⟨K, h⟩ := h
  exact ⟨K + 1, fun k hk => by obtain ⟨m, rfl⟩ : ∃ m, k = m + 1 := ⟨k - 1, by omega⟩; exact h m (by omega)⟩
theorem Ev.bind {α β : Type} {f : Nat → Option α} {g : Nat → α → Option β} {a : α} {b : β} (h : Ev f a) (h2 : Ev (fun k => g k a) b) : Ev (fun k => (f k).bind (g k)) b := by
  obtain ⟨K, h⟩ := h
  obtain ⟨M, h2⟩ := h2
  exact ⟨K + M, fun k hk => by show (f k).bind (g k) = some b; rw [h k (by omega)]; exact h2 k (by omega)⟩
theorem Ev.cast {α : Type} {f : Nat → Option α} {v v' : α} (h : Ev f v) (e : v = v') : Ev f v' := e ▸ h
theorem Ev.run {α : Type} {f : Nat → Option α} {v : α} (h : Ev f v) : ∃ k, f k = some v := by
  obtain ⟨K, h⟩ := h
  exact ⟨K, h K (Nat.le_refl _)⟩
theorem Ev.of_mono {α : Type} {f : Nat → Option α} {v : α} (hm : ∀ k, LeO (f k) (f (k + 1))) {k : Nat} (h : f k = some v) : Ev f v := by
  refine ⟨k, fun m hk => ?_⟩
  induction m with
  | zero => obtain rfl : k = 0 := by omega
            exact h
  | succ m ih =>
    by_cases e : k = m + 1
    · rw [← e]; exact h
    · exact hm m v (ih (by omega))
theorem wrap_lt {x : Int} (h0 : -9223372036854775808 ≤ x) (h1 : x < 9223372036854775808) : wrap64 x = x := by unfold wrap64; omega
theorem wrap_up (i : Nat) (h : i < 9223372036854775807) : wrap64 ((i : Int) + 1) = ((i + 1 : Nat) : Int) := by rw [wrap_lt (by omega) (by omega)]; omega
theorem rd_get (l : List Int) (j : Nat) (h : j < l.length) : rd l (j : Int) = l[j] := by simp [rd, List.getD_eq_getElem?_getD, h]
/-- A list of N values. -/
def tl {α : Type} (N : Nat) (q : Nat → α) : List α := (List.range N).map q
@[simp] theorem tl_length {α : Type} (N : Nat) (q : Nat → α) : (tl N q).length = N := by simp [tl]
theorem tl_get {α : Type} (d : α) (N : Nat) (q : Nat → α) (i : Nat) (h : i < N) : (tl N q).getD i d = q i := by
  simp [tl, List.getD_eq_getElem?_getD, h]
theorem tl_rd (N : Nat) (q : Nat → Int) (i : Nat) (h : i < N) : rd (tl N q) (i : Int) = q i := tl_get 0 N q i h
theorem tl_rdOf {α : Type} (d : α) (N : Nat) (q : Nat → α) (i : Nat) (h : i < N) : rdOf d (tl N q) (i : Int) = q i := tl_get d N q i h
theorem tl_rd_L1 (N : Nat) (q : Nat → List Int) (i : Nat) (h : i < N) : rd_L1 (tl N q) (i : Int) = q i := tl_get [] N q i h
theorem tl_congr {α : Type} {N : Nat} {p q : Nat → α} (h : ∀ i, i < N → p i = q i) : tl N p = tl N q := List.map_congr_left fun i hi => h i (List.mem_range.1 hi)
theorem tl_set {α : Type} (N : Nat) (q : Nat → α) (i : Nat) (b : α) : (tl N q).set i b = tl N (fun k => if k = i then b else q k) := by
  refine List.ext_getElem? fun j => ?_
  unfold tl
  rw [List.getElem?_set, List.getElem?_map, List.getElem?_map]
  by_cases hj : j < N
  · rw [List.getElem?_range hj]
    by_cases h : i = j
    · subst h; simp [hj]
    · have h' : ¬ j = i := fun h2 => h h2.symm
      simp [h, h']
  · rw [List.getElem?_eq_none (by simpa using hj : (List.range N).length ≤ j)]
    by_cases h : i = j
    · subst h; simp [hj]
    · simp [h]
theorem tl_const {α : Type} (N : Nat) (b : α) : List.replicate N b = tl N (fun _ => b) := by
  unfold tl
  rw [List.map_const']
  simp
theorem tl_snoc {α : Type} (N : Nat) (q : Nat → α) : tl N q ++ [q N] = tl (N + 1) q := by
  unfold tl
  rw [List.range_succ, List.map_append]
  rfl
abbrev adj (g : List (List Int)) (i : Nat) : List Int := rd_L1 g (i : Int)
/-- Nodes of a graph of N, strictly upwards. -/
structure Good (N : Nat) (l : List Int) : Prop where
  rng : ∀ x ∈ l, 0 ≤ x ∧ x < (N : Int)
  inc : l.Pairwise (· < ·)
structure Val (g : List (List Int)) : Prop where
  le : g.length ≤ 24
  ok : ∀ i, i < g.length → Good g.length (adj g i)
/-- An edge. -/
def E (g : List (List Int)) (i j : Nat) : Prop := i < g.length ∧ (j : Int) ∈ adj g i
instance (g : List (List Int)) (i j : Nat) : Decidable (E g i j) := inferInstanceAs (Decidable (_ ∧ _))
theorem E.lt {g : List (List Int)} (h : Val g) {i j : Nat} (e : E g i j) : i < g.length ∧ j < g.length := by
  have := (h.ok i e.1).rng _ e.2
  exact ⟨e.1, by omega⟩
theorem inc_le : ∀ (l : List Int), l.Pairwise (· < ·) → ∀ (a b : Int), (∀ x ∈ l, a ≤ x ∧ x < b) → a ≤ b → (l.length : Int) ≤ b - a
  | [], _, a, b, _, hab => by simp; omega
  | y :: l, hp, a, b, hr, hab => by
    have hy := hr y (by simp)
    rw [List.pairwise_cons] at hp
    have := inc_le l hp.2 (y + 1) b (fun x hx => ⟨by have := hp.1 x hx; omega, (hr x (by simp [hx])).2⟩) (by omega)
    rw [List.length_cons]
    omega
theorem Good.len {N : Nat} {l : List Int} (h : Good N l) : l.length ≤ N := by
  have := inc_le l h.inc 0 N h.rng (by omega)
  omega
/-- A walk of d edges. -/
def Wk (g : List (List Int)) : Nat → Nat → Nat → Prop
  | 0, i, j => i = j
  | d + 1, i, j => ∃ m, E g i m ∧ Wk g d m j
theorem Wk.trans {g : List (List Int)} : ∀ {a b i j k : Nat}, Wk g a i j → Wk g b j k → Wk g (a + b) i k
  | 0, b, i, j, k, h, h2 => by cases h; rw [Nat.zero_add]; exact h2
  | a + 1, b, i, j, k, ⟨m, e, h⟩, h2 => by rw [show a + 1 + b = (a + b) + 1 from by omega]; exact ⟨m, e, h.trans h2⟩
theorem Wk.one {g : List (List Int)} {i j : Nat} (e : E g i j) : Wk g 1 i j := ⟨j, e, rfl⟩
/-- A way of at least one edge. -/
def Rch (g : List (List Int)) (i j : Nat) : Prop := ∃ d, 1 ≤ d ∧ Wk g d i j
theorem Rch.one {g : List (List Int)} {i j : Nat} (e : E g i j) : Rch g i j := ⟨1, Nat.le_refl _, Wk.one e⟩
theorem Rch.trans {g : List (List Int)} {i j k : Nat} (h : Rch g i j) (h2 : Rch g j k) : Rch g i k := by
  obtain ⟨a, ha, h⟩ := h
  obtain ⟨b, hb, h2⟩ := h2
  exact ⟨a + b, by omega, h.trans h2⟩
theorem Rch.fst {g : List (List Int)} {i j : Nat} (h : Rch g i j) : ∃ m, E g i m ∧ (m = j ∨ Rch g m j) := by
  obtain ⟨a, ha, h⟩ := h
  obtain ⟨b, rfl⟩ : ∃ b, a = b + 1 := ⟨a - 1, by omega⟩
  obtain ⟨m, e, h⟩ := h
  refine ⟨m, e, ?_⟩
  by_cases hb : b = 0
  · subst hb; exact .inl h
  · exact .inr ⟨b, by omega, h⟩
theorem Rch.lst {g : List (List Int)} : ∀ {d i j : Nat}, Wk g (d + 1) i j → E g i j ∨ ∃ m, Rch g i m ∧ E g m j
  | 0, i, j, ⟨m, e, h⟩ => by cases h; exact .inl e
  | d + 1, i, j, ⟨m, e, h⟩ => by
    rcases Rch.lst h with h | ⟨q, h, e2⟩
    · exact .inr ⟨m, Rch.one e, h⟩
    · exact .inr ⟨q, (Rch.one e).trans h, e2⟩
theorem Rch.lt {g : List (List Int)} (hv : Val g) {i j : Nat} (h : Rch g i j) : i < g.length ∧ j < g.length := by
  obtain ⟨m, e, _⟩ := h.fst
  obtain ⟨a, ha, h⟩ := h
  obtain ⟨b, rfl⟩ : ∃ b, a = b + 1 := ⟨a - 1, by omega⟩
  rcases Rch.lst h with h | ⟨q, _, e2⟩
  · exact h.lt hv
  · exact ⟨e.1, (e2.lt hv).2⟩
/-- The least d ≥ 1 so that there is a walk of d edges. -/
def Hit (g : List (List Int)) (d i j : Nat) : Prop := 1 ≤ d ∧ Wk g d i j ∧ ∀ e, 1 ≤ e → e < d → ¬ Wk g e i j
theorem Hit.uniq {g : List (List Int)} {d e i j : Nat} (h : Hit g d i j) (h2 : Hit g e i j) : d = e := by
  rcases Nat.lt_trichotomy d e with hlt | heq | hgt
  · exact absurd h.2.1 (h2.2.2 d h.1 hlt)
  · exact heq
  · exact absurd h2.2.1 (h.2.2 e h2.1 hgt)
theorem Rch.hit {g : List (List Int)} {i j : Nat} (h : Rch g i j) : ∃ d, Hit g d i j := by
  obtain ⟨d, hd, h⟩ := h
  induction d using Nat.strongRecOn with
  | _ d ih =>
    by_cases hc : ∃ e, 1 ≤ e ∧ e < d ∧ Wk g e i j
    · obtain ⟨e, h1, h2, h3⟩ := hc
      exact ih e h2 h1 h3
    · exact ⟨d, hd, h, fun e h1 h2 h3 => hc ⟨e, h1, h2, h3⟩⟩
theorem Hit.rch {g : List (List Int)} {d i j : Nat} (h : Hit g d i j) : Rch g i j := ⟨d, h.1, h.2.1⟩
theorem Hit.next {g : List (List Int)} {d i j : Nat} (h : Hit g (d + 1) i j) (hd : 1 ≤ d) : ∃ m, E g i m ∧ m ≠ j ∧ Hit g d m j := by
  obtain ⟨_, ⟨m, e, hw⟩, hmin⟩ := h
  refine ⟨m, e, ?_, hd, hw, fun f h1 h2 h3 => hmin (f + 1) (by omega) (by omega) ⟨m, e, h3⟩⟩
  rintro rfl
  exact hmin 1 (Nat.le_refl _) (by omega) (Wk.one e)
theorem hole : ∀ (N : Nat) (f : Nat → Nat) (d : Nat), (∀ e, e < d → f e < N) → (∀ a b, a < d → b < d → f a = f b → a = b) → d ≤ N
  | 0, f, d, h, _ => by
    apply Classical.byContradiction
    intro hd
    have := h 0 (by omega)
    omega
  | N + 1, f, d, h, hi => by
    by_cases hc : ∃ e, e < d ∧ f e = N
    · obtain ⟨e, he, hf⟩ := hc
      have := hole N (fun a => f (if a < e then a else a + 1)) (d - 1) (fun a ha => by
        have h1 := h (if a < e then a else a + 1) (by split <;> omega)
        have h2 : f (if a < e then a else a + 1) ≠ N := fun h3 => by
          have := hi _ _ (by split <;> omega) he (h3.trans hf.symm)
          split at this <;> omega
        show f _ < N
        omega) (fun a b ha hb hab => by
        have := hi _ _ (by split <;> omega) (by split <;> omega) hab
        split at this <;> split at this <;> omega)
      omega
    · have := hole N f d (fun e he => by
        have h1 := h e he
        have h2 : f e ≠ N := fun h3 => hc ⟨e, he, h3⟩
        omega) hi
      omega
theorem Hit.down {g : List (List Int)} (hv : Val g) {i j : Nat} : ∀ {d : Nat}, Hit g d i j → ∀ e, 1 ≤ e → e ≤ d → ∃ m, m < g.length ∧ Hit g e m j := by
  intro d
  induction d generalizing i with
  | zero => intro h; exact absurd h.1 (by omega)
  | succ d ih =>
    intro h e h1 h2
    by_cases he : e = d + 1
    · subst he
      exact ⟨i, (h.rch.lt hv).1, h⟩
    · obtain ⟨m, _, _, hm⟩ := h.next (by omega)
      exact ih hm e h1 (by omega)
/-- A shortest way has no more edges than there are nodes. -/
theorem Hit.le {g : List (List Int)} (hv : Val g) {d i j : Nat} (h : Hit g d i j) : d ≤ g.length := by
  have hx : ∀ e, ∃ m, e < d → m < g.length ∧ Hit g (e + 1) m j := fun e => by
    by_cases he : e < d
    · obtain ⟨m, h1, h2⟩ := h.down hv (e + 1) (by omega) (by omega)
      exact ⟨m, fun _ => ⟨h1, h2⟩⟩
    · exact ⟨0, fun h' => absurd h' he⟩
  refine hole g.length (fun e => Classical.choose (hx e)) d (fun e he => (Classical.choose_spec (hx e) he).1) (fun a b ha hb hab => ?_)
  have h1 := (Classical.choose_spec (hx a) ha).2
  have h2 := (Classical.choose_spec (hx b) hb).2
  rw [hab] at h1
  have := h1.uniq h2
  omega
end Go.Proofs.Ytffcaglfcnmhdaa.H
end
section
namespace Go.Proofs.Ytffcaglfcnmhdaa.H
open Go.RowKit Go.Proofs.YtffcaglfcnmhdaaW.PrintWords Go.Proofs.YtffcaglfcnmhdaaW.PrintLast Go.Proofs.YtffcaglfcnmhdaaW.PrintMore
set_option linter.unusedVariables false
set_option linter.unusedSimpArgs false
open Go.RowKit
theorem Val.adj_get {g : List (List Int)} (h : Val g) {i j : Nat} (hi : i < g.length) (hj : j < (adj g i).length) : ∃ x : Nat, x < g.length ∧ rd (adj g i) (j : Int) = (x : Int) ∧ (adj g i)[j] = (x : Int) ∧ E g i x := by
  have := (h.ok i hi).rng _ (List.getElem_mem hj)
  exact ⟨(adj g i)[j].toNat, by omega, by rw [rd_get _ _ hj]; omega, by omega, hi, by rw [show (((adj g i)[j].toNat : Nat) : Int) = (adj g i)[j] from by omega]; exact List.getElem_mem hj⟩
theorem Val.len {g : List (List Int)} (h : Val g) {i : Nat} (hi : i < g.length) : (adj g i).length ≤ 24 := by
  have := (h.ok i hi).len
  have := h.le
  omega
/-- Unmarked ones below N. -/
def um (N : Nat) (q : Nat → Bool) : Nat := ((List.range N).filter (fun i => !q i)).length
theorem um_set : ∀ (N : Nat) (q : Nat → Bool) (i : Nat), i < N → q i = false → um N q = um N (fun k => if k = i then true else q k) + 1
  | 0, q, i, hi, _ => by omega
  | N + 1, q, i, hi, hq => by
    unfold um
    rw [List.range_succ, List.filter_append, List.filter_append, List.length_append, List.length_append]
    by_cases he : i = N
    · subst he
      have : (List.range i).filter (fun k => !(if k = i then true else q k)) = (List.range i).filter (fun k => !q k) := by
        refine List.filter_congr fun k hk => ?_
        rw [if_neg (by have := List.mem_range.1 hk; omega)]
      rw [this]
      simp [hq]
    · have := um_set N q i (by omega) hq
      unfold um at this
      have hN : List.filter (fun k => !(if k = i then true else q k)) [N] = List.filter (fun k => !q k) [N] := by
        refine List.filter_congr fun k hk => ?_
        rw [if_neg (by have := List.mem_singleton.1 hk; omega)]
      rw [hN, this]
      omega
theorem um_le (N : Nat) (q : Nat → Bool) : um N q ≤ N := by
  unfold um
  exact Nat.le_trans (List.length_filter_le _ _) (by simp)
/-- What reach's loop keeps: all marked and all in the queue can be reached; what is marked or is the start has its neighbours marked or queued. -/
structure Line (g : List (List Int)) (s : Nat) (q : Nat → Bool) (ln : List Int) : Prop where
  mkd : ∀ i, i < g.length → q i = true → Rch g s i
  qu : ∀ x ∈ ln, 0 ≤ x ∧ x < (g.length : Int) ∧ Rch g s x.toNat
  st : ∀ j, E g s j → q j = true ∨ (j : Int) ∈ ln
  cl : ∀ i j, i < g.length → q i = true → E g i j → q j = true ∨ (j : Int) ∈ ln
theorem Wk.snoc {g : List (List Int)} : ∀ {d i j : Nat}, Wk g (d + 1) i j → ∃ m, Wk g d i m ∧ E g m j
  | 0, i, j, ⟨m, e, h⟩ => by cases h; exact ⟨i, rfl, e⟩
  | d + 1, i, j, ⟨m, e, h⟩ => by
    obtain ⟨m', h, e'⟩ := Wk.snoc h
    exact ⟨m', ⟨m, e, h⟩, e'⟩
theorem Line.done {g : List (List Int)} (hv : Val g) {s : Nat} {q : Nat → Bool} (h : Line g s q []) (i : Nat) (hi : i < g.length) : q i = true ↔ Rch g s i := by
  refine ⟨h.mkd i hi, ?_⟩
  rintro ⟨d, hd, hw⟩
  obtain ⟨e, rfl⟩ : ∃ e, d = e + 1 := ⟨d - 1, by omega⟩
  clear hd
  induction e generalizing i with
  | zero =>
    obtain ⟨m, he, hm⟩ := hw
    cases hm
    exact (h.st _ he).resolve_right (by simp)
  | succ e ih =>
    obtain ⟨m, hm, he⟩ := hw.snoc
    have hml := (he.lt hv).1
    exact (h.cl m i hml (ih m hml hm) he).resolve_right (by simp)
theorem Line.skip {g : List (List Int)} {s : Nat} {q : Nat → Bool} {x : Nat} {ln : List Int} (h : Line g s q ((x : Int) :: ln)) (hx : q x = true) : Line g s q ln := by
  refine ⟨h.mkd, fun y hy => h.qu y (by simp [hy]), fun j hj => ?_, fun i j hi hq he => ?_⟩
  · rcases h.st j hj with h1 | h1
    · exact .inl h1
    · rcases List.mem_cons.1 h1 with h2 | h2
      · obtain rfl : j = x := by omega
        exact .inl hx
      · exact .inr h2
  · rcases h.cl i j hi hq he with h1 | h1
    · exact .inl h1
    · rcases List.mem_cons.1 h1 with h2 | h2
      · obtain rfl : j = x := by omega
        exact .inl hx
      · exact .inr h2
theorem Line.take {g : List (List Int)} (hv : Val g) {s : Nat} {q : Nat → Bool} {x : Nat} {ln : List Int} (h : Line g s q ((x : Int) :: ln)) : Line g s (fun k => if k = x then true else q k) (ln ++ adj g x) := by
  have hxr := h.qu x (by simp)
  have hxl : x < g.length := by omega
  have hrx : Rch g s x := by have := hxr.2.2; rwa [Int.toNat_natCast] at this
  refine ⟨fun i hi hq => ?_, fun y hy => ?_, fun j hj => ?_, fun i j hi hq he => ?_⟩
  · by_cases e : i = x
    · rw [e]; exact hrx
    · rw [if_neg e] at hq
      exact h.mkd i hi hq
  · rcases List.mem_append.1 hy with h1 | h1
    · exact h.qu y (by simp [h1])
    · have h2 := (hv.ok x hxl).rng y h1
      refine ⟨h2.1, h2.2, hrx.trans (Rch.one ⟨hxl, ?_⟩)⟩
      rw [show ((y.toNat : Nat) : Int) = y from by omega]
      exact h1
  · rcases h.st j hj with h1 | h1
    · left; split <;> simp_all
    · rcases List.mem_cons.1 h1 with h2 | h2
      · left; rw [if_pos (by omega)]
      · right; simp [h2]
  · by_cases e : i = x
    · right
      rw [e] at he
      exact List.mem_append.2 (.inr he.2)
    · rw [if_neg e] at hq
      rcases h.cl i j hi hq he with h1 | h1
      · left; split <;> simp_all
      · rcases List.mem_cons.1 h1 with h2 | h2
        · left; rw [if_pos (by omega)]
        · right; simp [h2]
theorem reach_loop {g : List (List Int)} (hv : Val g) (s : Nat) : ∀ (n : Nat) (q : Nat → Bool) (ln : List Int), 25 * um g.length q + ln.length = n → n ≤ 1000 → Line g s q ln → ∃ q', Ev (fun k => depgraph_reach.l0 k g (tl g.length q) ln) (tl g.length q') ∧ ∀ i, i < g.length → (q' i = true ↔ Rch g s i) := by
  intro n
  induction n using Nat.strongRecOn with
  | _ n ih =>
  intro q ln hn hb hl
  cases ln with
  | nil =>
    refine ⟨q, Ev.of_succ ?_, hl.done hv⟩
    simp only [depgraph_reach.l0, List.length_nil, show ¬ (((0 : Nat) : Int) > 0) from by omega, ↓reduceIte]
    exact Ev.const _
  | cons y ln =>
    have hy := hl.qu y (by simp)
    obtain ⟨x, rfl⟩ : ∃ x : Nat, y = (x : Int) := ⟨y.toNat, by omega⟩
    have hxl : x < g.length := by omega
    have hum := um_le g.length q
    have hle := hv.le
    by_cases hq : q x = true
    · obtain ⟨q', h1, h2⟩ := ih (25 * um g.length q + ln.length) (by rw [← hn, List.length_cons]; omega) q ln rfl (by rw [List.length_cons] at hn; omega) (hl.skip hq)
      refine ⟨q', Ev.of_succ ?_, h2⟩
      have h0 : rd ((x : Int) :: ln) 0 = (x : Int) := rfl
      simp only [depgraph_reach.l0, List.length_cons, show ((ln.length + 1 : Nat) : Int) > 0 from by omega, show (0 : Int) < ((ln.length + 1 : Nat) : Int) from by omega, show (1 : Int) ≤ ((ln.length + 1 : Nat) : Int) from by omega, Option.bind_some, h0, tl_length, show (0 : Int) ≤ (x : Int) from by omega, show (x : Int) < (g.length : Int) from by omega, tl_rdOf false _ _ _ hxl, hq, ↓reduceIte]
      exact h1
    · have hq' : q x = false := by simpa using hq
      have hu := um_set g.length q x hxl hq'
      have hal := hv.len hxl
      obtain ⟨q', h1, h2⟩ := ih (25 * um g.length (fun k => if k = x then true else q k) + (ln ++ adj g x).length) (by rw [← hn, List.length_cons, List.length_append]; omega) _ _ rfl (by rw [List.length_cons] at hn; rw [List.length_append]; omega) (hl.take hv)
      refine ⟨q', Ev.of_succ ?_, h2⟩
      have h0 : rd ((x : Int) :: ln) 0 = (x : Int) := rfl
      rw [List.length_cons] at hn
      simp only [depgraph_reach.l0, List.length_cons, show ((ln.length + 1 : Nat) : Int) > 0 from by omega, show (0 : Int) < ((ln.length + 1 : Nat) : Int) from by omega, show (1 : Int) ≤ ((ln.length + 1 : Nat) : Int) from by omega, Option.bind_some, h0, tl_length, show (0 : Int) ≤ (x : Int) from by omega, show (x : Int) < (g.length : Int) from by omega, tl_rdOf false _ _ _ hxl, hq', ↓reduceIte, Int.toNat_natCast, tl_set, Bool.false_eq_true]
      have hlen : (List.drop (Int.toNat 1) ((x : Int) :: ln)).length + (rd_L1 g (x : Int)).length < 17592186044416 := by
        show ln.length + (adj g x).length < 17592186044416
        omega
      simp only [hlen, ↓reduceIte]
      exact h1
theorem reach_ev {g : List (List Int)} (hv : Val g) {s : Nat} (hs : s < g.length) : ∃ q, Ev (fun k => depgraph_reach.f k g (s : Int)) (tl g.length q) ∧ ∀ i, i < g.length → (q i = true ↔ Rch g s i) := by
  have hle := hv.le
  have hal := hv.len hs
  obtain ⟨q, h1, h2⟩ := reach_loop hv s _ (fun _ => false) (adj g s) rfl (by have := um_le g.length (fun _ => false); omega)
    ⟨fun i _ h => by simp at h, fun x hx => by have h2 := (hv.ok s hs).rng x hx; exact ⟨h2.1, h2.2, Rch.one ⟨hs, by rw [show ((x.toNat : Nat) : Int) = x from by omega]; exact hx⟩⟩, fun j he => .inr he.2, fun i j _ h => by simp at h⟩
  refine ⟨q, ?_, h2⟩
  simp only [depgraph_reach.f, Int.toNat_natCast, show (0 : Int) ≤ (g.length : Int) from by omega, show g.length ≤ 281474976710656 from by omega, show (0 : Int) ≤ (s : Int) from by omega, show (s : Int) < (g.length : Int) from by omega, slices_Clone_int_int.f, show (rd_L1 g (s : Int)).length < 1000000000 from by show (adj g s).length < _; omega, ↓reduceIte, Option.bind_some, tl_const]
  exact h1
/-- r is the least node on a cycle, or -1. -/
def Fst (g : List (List Int)) (r : Int) : Prop := (r = -1 ∧ ∀ i, i < g.length → ¬ Rch g i i) ∨ ∃ i : Nat, i < g.length ∧ r = (i : Int) ∧ Rch g i i ∧ ∀ j, j < i → ¬ Rch g j j
theorem Fst.uniq {g : List (List Int)} {r s : Int} (h : Fst g r) (h2 : Fst g s) : r = s := by
  rcases h with ⟨h, h'⟩ | ⟨i, hi, h, hr, hm⟩ <;> rcases h2 with ⟨h2, h2'⟩ | ⟨j, hj, h2, hr2, hm2⟩
  · rw [h, h2]
  · exact absurd hr2 (h' j hj)
  · exact absurd hr (h2' i hi)
  · rcases Nat.lt_trichotomy i j with hlt | heq | hgt
    · exact absurd hr (hm2 i hlt)
    · rw [h, h2, heq]
    · exact absurd hr2 (hm j hgt)
theorem first_ev {g : List (List Int)} (hv : Val g) : ∃ r, Ev (fun k => depgraph_first.f k g) r ∧ Fst g r := by
  have hle := hv.le
  have loop : ∀ d i, g.length - i = d → i ≤ g.length → (∀ j, j < i → ¬ Rch g j j) → ∃ r, Ev (fun k => depgraph_first.l0 k g (g.length : Int) (i : Int)) r ∧ Fst g r := by
    intro d
    induction d with
    | zero =>
      intro i hd hi hn
      refine ⟨-1, Ev.of_succ ?_, .inl ⟨rfl, fun j hj => hn j (by omega)⟩⟩
      simp only [depgraph_first.l0, show ¬ (i : Int) < (g.length : Int) from by omega, ↓reduceIte]
      exact Ev.const _
    | succ d ih =>
      intro i hd hi hn
      have hil : i < g.length := by omega
      obtain ⟨q, h1, h2⟩ := reach_ev hv hil
      by_cases hq : q i = true
      · refine ⟨(i : Int), Ev.of_succ ?_, .inr ⟨i, hil, rfl, (h2 i hil).1 hq, hn⟩⟩
        simp only [depgraph_first.l0, show (i : Int) < (g.length : Int) from by omega, ↓reduceIte]
        refine Ev.bind h1 ?_
        simp only [show (0 : Int) ≤ (i : Int) from by omega, tl_length, show (i : Int) < (g.length : Int) from by omega, tl_rdOf false _ _ _ hil, hq, ↓reduceIte]
        exact Ev.const _
      · have hq' : q i = false := by simpa using hq
        obtain ⟨r, h3, h4⟩ := ih (i + 1) (by omega) (by omega) (fun j hj => by
          by_cases e : j = i
          · rw [e]; exact fun h => hq ((h2 i hil).2 h)
          · exact hn j (by omega))
        refine ⟨r, Ev.of_succ ?_, h4⟩
        simp only [depgraph_first.l0, show (i : Int) < (g.length : Int) from by omega, ↓reduceIte]
        refine Ev.bind h1 ?_
        simp only [show (0 : Int) ≤ (i : Int) from by omega, tl_length, show (i : Int) < (g.length : Int) from by omega, tl_rdOf false _ _ _ hil, hq', ↓reduceIte, Bool.false_eq_true, wrap_up i (by omega)]
        exact h3
  exact loop _ 0 rfl (by omega) (fun j hj => by omega)
/-- Whether x does not come behind what is ahead. -/
def nx (x : Int) : Option Int → Bool | none => false | some y => decide (x ≤ y)
/-- The code of a list of nodes below N; p: the node ahead. -/
def lc (N : Int) : Option Int → List Int → Int
  | _, [] => 0
  | p, x :: l => if x < 0 ∨ N ≤ x then 3 else if nx x p = true then 5 else lc N (some x) l
/-- The fault of the lists from the i-th on. -/
def gl (N : Int) : Nat → List (List Int) → Int × Int
  | _, [] => (0, 0)
  | i, l :: t => if lc N none l = 0 then gl N (i + 1) t else (lc N none l, (i : Int))
def gf (g : List (List Int)) : Int × Int := if g.length > 24 then (2, -1) else gl g.length 0 g
theorem lc_good (N : Nat) : ∀ (l : List Int) (p : Option Int), lc N p l = 0 → Good N l ∧ ∀ y, p = some y → ∀ x ∈ l, y < x
  | [], p, _ => ⟨⟨by simp, List.Pairwise.nil⟩, by simp⟩
  | x :: l, p, h => by
    unfold lc at h
    by_cases h1 : x < 0 ∨ (N : Int) ≤ x
    · rw [if_pos h1] at h; omega
    rw [if_neg h1] at h
    by_cases h2 : nx x p = true
    · rw [if_pos h2] at h; omega
    rw [if_neg h2] at h
    obtain ⟨hg, hp⟩ := lc_good N l (some x) h
    have hx := hp x rfl
    refine ⟨⟨fun y hy => ?_, List.pairwise_cons.2 ⟨hx, hg.inc⟩⟩, fun y hy z hz => ?_⟩
    · rcases List.mem_cons.1 hy with h | h
      · omega
      · exact hg.rng y h
    · subst hy
      have h2' : ¬ x ≤ y := fun h3 => h2 (decide_eq_true h3)
      rcases List.mem_cons.1 hz with h | h
      · omega
      · have := hx z h
        omega
theorem gl_zero (N : Int) : ∀ (t : List (List Int)) (i : Nat), (gl N i t).1 = 0 → gl N i t = (0, 0) ∧ ∀ l ∈ t, lc N none l = 0
  | [], _, _ => ⟨rfl, by simp⟩
  | l :: t, i, h => by
    unfold gl at h ⊢
    by_cases h1 : lc N none l = 0
    · rw [if_pos h1] at h ⊢
      obtain ⟨h2, h3⟩ := gl_zero N t (i + 1) h
      exact ⟨h2, fun y hy => by rcases List.mem_cons.1 hy with e | e; · rw [e]; exact h1
                                · exact h3 y e⟩
    · rw [if_neg h1] at h
      exact absurd h h1
theorem gf_val {g : List (List Int)} (h : (gf g).1 = 0) : gf g = (0, 0) ∧ Val g := by
  unfold gf at h ⊢
  by_cases h1 : g.length > 24
  · rw [if_pos h1] at h; simp at h
  · rw [if_neg h1] at h ⊢
    obtain ⟨h2, h3⟩ := gl_zero _ _ _ h
    refine ⟨h2, by omega, fun i hi => ?_⟩
    have : adj g i = g[i] := by simp [rd_L1, List.getD_eq_getElem?_getD, hi]
    rw [this]
    exact (lc_good _ _ _ (h3 _ (List.getElem_mem hi))).1
/-- What stands ahead of place j. -/
def pv (l : List Int) (j : Nat) : Option Int := if 0 < j then some (rd l ((j : Int) - 1)) else none
theorem pv_succ (l : List Int) (j : Nat) : pv l (j + 1) = some (rd l (j : Int)) := by
  unfold pv
  rw [if_pos (by omega), show (((j + 1 : Nat) : Int) - 1) = (j : Int) from by omega]
theorem drop_rd (l : List Int) (j : Nat) (h : j < l.length) : l.drop j = rd l (j : Int) :: l.drop (j + 1) := by rw [List.drop_eq_getElem_cons h, rd_get l j h]
theorem list_ev (N : Nat) (l : List Int) (hl : l.length ≤ 9223372036854775807) : Ev (fun k => depgraph_list.f k (N : Int) l) (lc N none l) := by
  have loop : ∀ d j, l.length - j = d → j ≤ l.length → Ev (fun k => depgraph_list.l0 k (N : Int) l l (l.length : Int) (j : Int)) (lc N (pv l j) (l.drop j)) := by
    intro d
    induction d with
    | zero =>
      intro j hd hj
      refine Ev.of_succ ?_
      simp only [depgraph_list.l0, show ¬ (j : Int) < (l.length : Int) from by omega, ↓reduceIte]
      rw [List.drop_eq_nil_of_le (by omega)]
      exact Ev.const _
    | succ d ih =>
      intro j hd hj
      have hjl : j < l.length := by omega
      refine Ev.of_succ ?_
      simp only [depgraph_list.l0, show (j : Int) < (l.length : Int) from by omega, show (0 : Int) ≤ (j : Int) from by omega, ↓reduceIte]
      rw [drop_rd l j hjl]
      unfold lc
      have next : ∀ (b : Bool), b = false → ¬ (rd l (j : Int) < 0 ∨ (N : Int) ≤ rd l (j : Int)) → Ev (fun k => depgraph_list.j1 k (N : Int) l (j : Int) (rd l (j : Int)) l (l.length : Int) (j : Int) b) (if nx (rd l (j : Int)) (pv l j) = true then 5 else lc (N : Int) (some (rd l (j : Int))) (l.drop (j + 1))) := by
        intro b hb hr
        subst hb
        refine Ev.of_succ ?_
        have h2 := ih (j + 1) (by omega) (by omega)
        rw [pv_succ] at h2
        by_cases hj0 : 0 < j
        · have e1 : pv l j = some (rd l ((j : Int) - 1)) := if_pos hj0
          rw [e1]
          by_cases hle : rd l (j : Int) ≤ rd l ((j : Int) - 1)
          · simp only [depgraph_list.j1, Bool.false_eq_true, ↓reduceIte, show (j : Int) > 0 from by omega, wrap_lt (show -9223372036854775808 ≤ (j : Int) - 1 from by omega) (by omega), show (0 : Int) ≤ (j : Int) - 1 from by omega, show (j : Int) - 1 < (l.length : Int) from by omega, hle, nx, decide_true]
            exact Ev.const _
          · simp only [depgraph_list.j1, Bool.false_eq_true, ↓reduceIte, show (j : Int) > 0 from by omega, wrap_lt (show -9223372036854775808 ≤ (j : Int) - 1 from by omega) (by omega), show (0 : Int) ≤ (j : Int) - 1 from by omega, show (j : Int) - 1 < (l.length : Int) from by omega, hle, nx, decide_false, wrap_up j (by omega)]
            exact h2
        · have e1 : pv l j = none := if_neg hj0
          rw [e1]
          simp only [depgraph_list.j1, Bool.false_eq_true, ↓reduceIte, show ¬ (j : Int) > 0 from by omega, nx, wrap_up j (by omega)]
          exact h2
      by_cases h1 : rd l (j : Int) < 0
      · simp only [h1, true_or, ↓reduceIte]
        refine Ev.of_succ ?_
        simp only [depgraph_list.j1, ↓reduceIte]
        exact Ev.const _
      · by_cases h2 : (N : Int) ≤ rd l (j : Int)
        · simp only [h1, h2, or_true, ↓reduceIte, show rd l (j : Int) ≥ (N : Int) from h2, decide_true]
          refine Ev.of_succ ?_
          simp only [depgraph_list.j1, ↓reduceIte]
          exact Ev.const _
        · simp only [h1, h2, or_self, ↓reduceIte]
          exact next _ (by simp) (by omega)
  exact loop _ 0 rfl (by omega)
theorem Validate_ev (g : List (List Int)) (hl : ∀ l ∈ g, l.length ≤ 9223372036854775807) : Ev (fun k => depgraph_Validate.f k g) (gf g) := by
  unfold gf
  by_cases hN : g.length > 24
  · simp only [depgraph_Validate.f, show (g.length : Int) > 24 from by omega, hN, ↓reduceIte]
    exact Ev.const _
  simp only [depgraph_Validate.f, show ¬ (g.length : Int) > 24 from by omega, hN, ↓reduceIte]
  have loop : ∀ d i, g.length - i = d → i ≤ g.length → Ev (fun k => depgraph_Validate.l0 k g g (g.length : Int) (i : Int)) (gl g.length i (g.drop i)) := by
    intro d
    induction d with
    | zero =>
      intro i hd hi
      refine Ev.of_succ ?_
      simp only [depgraph_Validate.l0, show ¬ (i : Int) < (g.length : Int) from by omega, ↓reduceIte]
      rw [List.drop_eq_nil_of_le (by omega)]
      exact Ev.const _
    | succ d ih =>
      intro i hd hi
      have hil : i < g.length := by omega
      refine Ev.of_succ ?_
      have e : rd_L1 g (i : Int) = g[i] := by simp [rd_L1, List.getD_eq_getElem?_getD, hil]
      simp only [depgraph_Validate.l0, show (i : Int) < (g.length : Int) from by omega, show (0 : Int) ≤ (i : Int) from by omega, ↓reduceIte, e]
      rw [List.drop_eq_getElem_cons hil]
      refine Ev.bind (list_ev g.length g[i] (hl _ (List.getElem_mem hil))) ?_
      unfold gl
      by_cases h0 : lc (g.length : Int) none g[i] = 0
      · simp only [h0, ↓reduceIte, wrap_up i (by omega)]
        exact ih (i + 1) (by omega) (by omega)
      · simp only [h0, ↓reduceIte]
        exact Ev.const _
  exact loop _ 0 rfl (by omega)
end Go.Proofs.Ytffcaglfcnmhdaa.H
end
section
namespace Go.Proofs.Ytffcaglfcnmhdaa.H
open Go.RowKit Go.Proofs.YtffcaglfcnmhdaaW.PrintWords Go.Proofs.YtffcaglfcnmhdaaW.PrintLast Go.Proofs.YtffcaglfcnmhdaaW.PrintMore
set_option linter.unusedVariables false
set_option linter.unusedSimpArgs false
open Go.RowKit
def WB (g : List (List Int)) (K : Nat) : Nat → Nat → Nat → Prop
  | 0, _, _ => False
  | 1, i, j => E g i j
  | d + 2, i, j => ∃ m, m < K ∧ E g i m ∧ WB g K (d + 1) m j
theorem WB.wk {g : List (List Int)} {K : Nat} : ∀ {d i j : Nat}, WB g K d i j → 1 ≤ d ∧ Wk g d i j
  | 0, _, _, h => h.elim
  | 1, i, j, h => ⟨Nat.le_refl _, Wk.one h⟩
  | d + 2, i, j, ⟨m, _, e, h⟩ => ⟨by omega, m, e, h.wk.2⟩
theorem WB.split {g : List (List Int)} {K : Nat} : ∀ {d i j : Nat}, WB g (K + 1) d i j → WB g K d i j ∨ ∃ a b, a + b ≤ d ∧ WB g K a i K ∧ WB g K b K j
  | 0, _, _, h => h.elim
  | 1, i, j, h => .inl h
  | d + 2, i, j, ⟨m, hm, e, h⟩ => by
    by_cases hk : m = K
    · subst hk
      rcases h.split with h | ⟨a, b, hab, _, hb⟩
      · exact .inr ⟨1, d + 1, by omega, e, h⟩
      · exact .inr ⟨1, b, by have : 1 ≤ a := WB.wk (by assumption) |>.1; omega, e, hb⟩
    · rcases h.split with h | ⟨a, b, hab, ha, hb⟩
      · exact .inl ⟨m, by omega, e, h⟩
      · obtain ⟨a', rfl⟩ : ∃ a', a = a' + 1 := ⟨a - 1, by have := ha.wk.1; omega⟩
        exact .inr ⟨a' + 2, b, by omega, ⟨m, by omega, e, ha⟩, hb⟩
theorem Has_ev (l : List Int) (hl : l.length ≤ 9223372036854775807) (x : Int) : Ev (fun k => changeforgeref5_Has.f k l x) (decide (x ∈ l)) := by
  have loop : ∀ d j, l.length - j = d → j ≤ l.length → Ev (fun k => changeforgeref5_Has.l0 k l x (j : Int)) (decide (x ∈ l.drop j)) := by
    intro d
    induction d with
    | zero =>
      intro j hd hj
      refine Ev.of_succ ?_
      simp only [changeforgeref5_Has.l0, show ¬ (j : Int) < (l.length : Int) from by omega, ↓reduceIte]
      rw [List.drop_eq_nil_of_le (by omega)]
      exact (Ev.const _).cast (by simp)
    | succ d ih =>
      intro j hd hj
      have hjl : j < l.length := by omega
      refine Ev.of_succ ?_
      rw [drop_rd l j hjl]
      by_cases h : rd l (j : Int) = x
      · simp only [changeforgeref5_Has.l0, show (j : Int) < (l.length : Int) from by omega, show (0 : Int) ≤ (j : Int) from by omega, h, ↓reduceIte]
        exact (Ev.const _).cast (by simp)
      · simp only [changeforgeref5_Has.l0, show (j : Int) < (l.length : Int) from by omega, show (0 : Int) ≤ (j : Int) from by omega, h, ↓reduceIte, wrap_up j (by omega)]
        exact (ih (j + 1) (by omega) (by omega)).cast (by simp [Ne.symm h])
  exact loop _ 0 rfl (by omega)
end Go.Proofs.Ytffcaglfcnmhdaa.H
end
section
namespace Go.Proofs.Ytffcaglfcnmhdaa.H
open Go.RowKit Go.Proofs.YtffcaglfcnmhdaaW.PrintWords Go.Proofs.YtffcaglfcnmhdaaW.PrintLast Go.Proofs.YtffcaglfcnmhdaaW.PrintMore
set_option linter.unusedVariables false
set_option linter.unusedSimpArgs false
open Go.RowKit
/-- The list of distances to s, as far as step (d, i). -/
def DQ (g : List (List Int)) (s d i : Nat) (q : Nat → Int) : Prop := ∀ a, a < g.length → (∃ e : Nat, Hit g e a s ∧ (e < d ∨ (e = d ∧ a < i)) ∧ q a = (e : Int)) ∨ (q a = -1 ∧ ∀ e, Hit g e a s → ¬ (e < d ∨ (e = d ∧ a < i)))
theorem DQ.near {g : List (List Int)} (hv : Val g) {s d i : Nat} {q : Nat → Int} (h : DQ g s d i q) (hi : i < g.length) (hs : s < g.length) (hd : 1 ≤ d) (hq : ∀ e, Hit g e i s → ¬ e < d) : ((adj g i).any (disP (s : Int) (d : Int) (tl g.length q))) = true ↔ Hit g d i s := by
  have hle := hv.le
  rw [List.any_eq_true]
  constructor
  · rintro ⟨x, hx, hp⟩
    have hr := (hv.ok i hi).rng x hx
    obtain ⟨m, rfl⟩ : ∃ m : Nat, x = (m : Int) := ⟨x.toNat, by omega⟩
    unfold disP at hp
    have he : E g i m := ⟨hi, hx⟩
    have hw : Wk g d i s := by
      by_cases e : (m : Int) = (s : Int)
      · rw [if_pos e, decide_eq_true_iff] at hp
        obtain rfl : m = s := by omega
        rw [show d = 1 from by omega]
        exact Wk.one he
      · rw [if_neg e, Bool.and_eq_true, beq_iff_eq, decide_eq_true_iff, tl_rd _ _ m (by omega)] at hp
        rcases h m (by omega) with ⟨f, hf, _, hqf⟩ | ⟨hqf, _⟩
        · obtain ⟨d', rfl⟩ : ∃ d', d = d' + 1 := ⟨d - 1, by omega⟩
          obtain rfl : f = d' := by omega
          exact ⟨m, he, hf.2.1⟩
        · omega
    obtain ⟨f, hf⟩ := (show Rch g i s from ⟨d, hd, hw⟩).hit
    have := hq f hf
    have : f = d := by
      apply Classical.byContradiction
      intro hne
      exact hf.2.2 d hd (by omega) hw
    rw [← this]
    exact hf
  · intro hh
    by_cases hd1 : d = 1
    · subst hd1
      obtain ⟨m, he, hm⟩ := hh.2.1
      cases hm
      exact ⟨(s : Int), he.2, by unfold disP; rw [if_pos rfl]; rfl⟩
    · obtain ⟨d', rfl⟩ : ∃ d', d = d' + 1 := ⟨d - 1, by omega⟩
      obtain ⟨m, he, hne, hm⟩ := hh.next (by omega)
      have hml := (he.lt hv).2
      refine ⟨(m : Int), he.2, ?_⟩
      unfold disP
      rw [if_neg (by omega), Bool.and_eq_true, beq_iff_eq, decide_eq_true_iff, tl_rd _ _ m hml]
      refine ⟨?_, by omega⟩
      rcases h m hml with ⟨f, hf, _, hqf⟩ | ⟨_, hqf⟩
      · have := hf.uniq hm
        omega
      · exact absurd (.inl (by omega)) (hqf d' hm)
theorem DQ.step {g : List (List Int)} {s d i : Nat} {q : Nat → Int} (h : DQ g s d i q) (hi : i < g.length) : (∀ e, Hit g e i s → e < d → DQ g s d (i + 1) q) ∧ ((∀ e, Hit g e i s → ¬ e < d) → Hit g d i s → DQ g s d (i + 1) (fun k => if k = i then (d : Int) else q k)) ∧ ((∀ e, Hit g e i s → ¬ e < d) → ¬ Hit g d i s → DQ g s d (i + 1) q) := by
  refine ⟨fun e he hlt a ha => ?_, fun hn hh a ha => ?_, fun hn hh a ha => ?_⟩
  · rcases h a ha with ⟨f, hf, h1, h2⟩ | ⟨h1, h2⟩
    · exact .inl ⟨f, hf, by omega, h2⟩
    · refine .inr ⟨h1, fun f hf h3 => ?_⟩
      by_cases ea : a = i
      · subst ea
        exact h2 e he (.inl hlt)
      · exact h2 f hf (by omega)
  · by_cases ea : a = i
    · subst ea
      exact .inl ⟨d, hh, .inr ⟨rfl, by omega⟩, by simp⟩
    · simp only [if_neg ea]
      rcases h a ha with ⟨f, hf, h1, h2⟩ | ⟨h1, h2⟩
      · exact .inl ⟨f, hf, by omega, h2⟩
      · exact .inr ⟨h1, fun f hf h3 => h2 f hf (by omega)⟩
  · rcases h a ha with ⟨f, hf, h1, h2⟩ | ⟨h1, h2⟩
    · exact .inl ⟨f, hf, by omega, h2⟩
    · refine .inr ⟨h1, fun f hf h3 => ?_⟩
      by_cases ea : a = i
      · subst ea
        rcases h3 with h3 | ⟨h3, _⟩
        · exact hn f hf h3
        · rw [h3] at hf; exact hh hf
      · exact h2 f hf (by omega)
theorem dis_l1 {g : List (List Int)} (hv : Val g) {s d : Nat} (hs : s < g.length) (hd : 1 ≤ d) (hd2 : d ≤ g.length) : ∀ (c i : Nat) (q : Nat → Int), g.length - i = c → i ≤ g.length → DQ g s d i q →
    ∃ q', DQ g s (d + 1) 0 q' ∧ ∀ T, Ev (fun k => depgraph_distances.l0 k g (s : Int) (tl g.length q') ((d + 1 : Nat) : Int)) T → Ev (fun k => depgraph_distances.l1 k g (s : Int) (d : Int) (tl g.length q) (i : Int)) T := by
  have hle := hv.le
  intro c
  induction c with
  | zero =>
    intro i q hc hi h
    refine ⟨q, fun a ha => ?_, fun T hT => Ev.of_succ ?_⟩
    · rcases h a ha with ⟨f, hf, h1, h2⟩ | ⟨h1, h2⟩
      · exact .inl ⟨f, hf, by omega, h2⟩
      · exact .inr ⟨h1, fun f hf h3 => h2 f hf (by omega)⟩
    · simp only [depgraph_distances.l1, show ¬ (i : Int) < (g.length : Int) from by omega, ↓reduceIte, wrap_up d (by omega)]
      exact hT
  | succ c ih =>
    intro i q hc hi h
    have hil : i < g.length := by omega
    have hok : disOk (s : Int) (tl g.length q) (rd_L1 g (i : Int)) = true := by
      unfold disOk
      rw [List.all_eq_true]
      intro x hx
      have := (hv.ok i hil).rng x hx
      rw [tl_length]
      simp [this]
    obtain ⟨s1, s2, s3⟩ := h.step hil
    have base : ∀ (Z : Nat → Option (List Int)) T, Ev Z T → True := fun _ _ _ => trivial
    by_cases hq : ∃ e, Hit g e i s ∧ e < d
    · obtain ⟨e, he, hlt⟩ := hq
      obtain ⟨q', h1, h2⟩ := ih (i + 1) q (by omega) (by omega) (s1 e he hlt)
      refine ⟨q', h1, fun T hT => Ev.of_succ ?_⟩
      have hnn : ¬ q i < 0 := by
        rcases h i hil with ⟨f, hf, _, h4⟩ | ⟨_, h4⟩
        · omega
        · exact absurd (.inl hlt) (h4 e he)
      simp only [depgraph_distances.l1, show (i : Int) < (g.length : Int) from by omega, show (0 : Int) ≤ (i : Int) from by omega, hok, tl_length, tl_rd _ _ i hil, hnn, ↓reduceIte, wrap_up i (by omega)]
      exact h2 T hT
    · have hn : ∀ e, Hit g e i s → ¬ e < d := fun e he hlt => hq ⟨e, he, hlt⟩
      have hqi : q i < 0 := by
        rcases h i hil with ⟨f, hf, h3, _⟩ | ⟨h4, _⟩
        · have := hn f hf; omega
        · omega
      have hnear := h.near hv hil hs hd hn
      by_cases hh : Hit g d i s
      · obtain ⟨q', h1, h2⟩ := ih (i + 1) _ (by omega) (by omega) (s2 hn hh)
        refine ⟨q', h1, fun T hT => Ev.of_succ ?_⟩
        simp only [depgraph_distances.l1, show (i : Int) < (g.length : Int) from by omega, show (0 : Int) ≤ (i : Int) from by omega, hok, tl_length, tl_rd _ _ i hil, hqi, hnear.2 hh, ↓reduceIte, wrap_up i (by omega), Int.toNat_natCast, tl_set]
        exact h2 T hT
      · obtain ⟨q', h1, h2⟩ := ih (i + 1) q (by omega) (by omega) (s3 hn hh)
        refine ⟨q', h1, fun T hT => Ev.of_succ ?_⟩
        simp only [depgraph_distances.l1, show (i : Int) < (g.length : Int) from by omega, show (0 : Int) ≤ (i : Int) from by omega, hok, tl_length, tl_rd _ _ i hil, hqi, show ((rd_L1 g (i : Int)).any (disP (s : Int) (d : Int) (tl g.length q)) = true) = False from eq_false fun h' => hh (hnear.1 h'), ↓reduceIte, wrap_up i (by omega)]
        exact h2 T hT
theorem dis_l0 {g : List (List Int)} (hv : Val g) {s : Nat} (hs : s < g.length) : ∀ (c d : Nat) (q : Nat → Int), g.length + 1 - d = c → 1 ≤ d → d ≤ g.length + 1 → DQ g s d 0 q →
    ∃ q', DQ g s (g.length + 1) 0 q' ∧ Ev (fun k => depgraph_distances.l0 k g (s : Int) (tl g.length q) (d : Int)) (tl g.length q') := by
  have hle := hv.le
  intro c
  induction c with
  | zero =>
    intro d q hc h1 hd h
    obtain rfl : d = g.length + 1 := by omega
    refine ⟨q, h, Ev.of_succ ?_⟩
    simp only [depgraph_distances.l0, show ¬ ((g.length + 1 : Nat) : Int) ≤ (g.length : Int) from by omega, ↓reduceIte]
    exact Ev.const _
  | succ c ih =>
    intro d q hc h1 hd h
    obtain ⟨q1, h3, h4⟩ := dis_l1 hv hs h1 (by omega) _ 0 q rfl (by omega) h
    obtain ⟨q', h5, h6⟩ := ih (d + 1) q1 (by omega) (by omega) (by omega) h3
    refine ⟨q', h5, Ev.of_succ ?_⟩
    simp only [depgraph_distances.l0, show (d : Int) ≤ (g.length : Int) from by omega, show (1 : Int) ≤ (d : Int) ∧ (d : Int) ≤ 1000000 from by omega, and_self, ↓reduceIte]
    exact h4 _ h6
/-- All distances to s, -1 for none. -/
def DS (g : List (List Int)) (s : Nat) (q : Nat → Int) : Prop := ∀ a, a < g.length → ∀ e : Nat, 1 ≤ e → (q a = (e : Int) ↔ Hit g e a s)
theorem distances_ev {g : List (List Int)} (hv : Val g) {s : Nat} (hs : s < g.length) : ∃ q, DS g s q ∧ Ev (fun k => depgraph_distances.f k g (s : Int)) (tl g.length q) := by
  have hle := hv.le
  obtain ⟨q, h1, h2⟩ := dis_l0 hv hs _ 1 (fun _ => -1) rfl (by omega) (by omega) (fun a ha => .inr ⟨rfl, fun e he h => by have := he.1; omega⟩)
  refine ⟨q, fun a ha e he => ?_, ?_⟩
  · rcases h1 a ha with ⟨f, hf, _, hqf⟩ | ⟨hqf, hn⟩
    · constructor
      · intro h; obtain rfl : e = f := by omega
        exact hf
      · intro h; rw [h.uniq hf]; exact hqf
    · constructor
      · intro h; omega
      · intro h; exact absurd (.inl (by have := h.le hv; omega)) (hn e h)
  · simp only [depgraph_distances.f, show g.length ≤ 1000000 from by omega, ↓reduceIte, tl_const]
    exact h2
end Go.Proofs.Ytffcaglfcnmhdaa.H
end
section
namespace Go.Proofs.Ytffcaglfcnmhdaa.H
open Go.RowKit Go.Proofs.YtffcaglfcnmhdaaW.PrintWords Go.Proofs.YtffcaglfcnmhdaaW.PrintLast Go.Proofs.YtffcaglfcnmhdaaW.PrintMore
set_option linter.unusedVariables false
set_option linter.unusedSimpArgs false
open Go.RowKit
theorem idxF_first (p : Int → Bool) : ∀ (l : List Int), l.Pairwise (· < ·) → (∃ x ∈ l, p x = true) → ∃ j, j < l.length ∧ idxF p l = (j : Int) ∧ p (rd l (j : Int)) = true ∧ ∀ y ∈ l, p y = true → rd l (j : Int) ≤ y
  | [], _, ⟨x, hx, _⟩ => by simp at hx
  | x :: l, hp, ⟨y, hy, hpy⟩ => by
    rw [List.pairwise_cons] at hp
    by_cases h : p x = true
    · refine ⟨0, by simp, by simp [idxF, h], h, fun z hz _ => ?_⟩
      show x ≤ z
      rcases List.mem_cons.1 hz with e | e
      · omega
      · have := hp.1 z e; omega
    · have hy' : y ∈ l := by
        rcases List.mem_cons.1 hy with e | e
        · rw [e] at hpy; exact absurd hpy h
        · exact e
      obtain ⟨j, h1, h2, h3, h4⟩ := idxF_first p l hp.2 ⟨y, hy', hpy⟩
      have hr : rd (x :: l) ((j + 1 : Nat) : Int) = rd l (j : Int) := by simp [rd]
      refine ⟨j + 1, by simpa using h1, ?_, by rw [hr]; exact h3, fun z hz hpz => ?_⟩
      · simp only [idxF, h, h2, Bool.false_eq_true, ↓reduceIte, show ¬ (j : Int) < 0 from by omega]
        omega
      · rw [hr]
        rcases List.mem_cons.1 hz with e | e
        · rw [e] at hpz; exact absurd hpz h
        · exact h4 z e hpz
/-- The least neighbour of v that is one nearer to s. -/
def Nxt (g : List (List Int)) (s L v m : Nat) : Prop := E g v m ∧ m ≠ s ∧ Hit g (L - 1) m s ∧ ∀ y, E g v y → y ≠ s → Hit g (L - 1) y s → m ≤ y
/-- The way from v, L edges away, home to s. -/
def Chn (g : List (List Int)) (s : Nat) : Nat → Nat → List Int → Prop
  | L, _, [] => L = 1
  | L, v, x :: t => 2 ≤ L ∧ ∃ m : Nat, x = (m : Int) ∧ Nxt g s L v m ∧ Chn g s (L - 1) m t
theorem nxt_ex {g : List (List Int)} (hv : Val g) {s L v : Nat} (hL : 2 ≤ L) (h : Hit g L v s) : ∃ m, Nxt g s L v m := by
  obtain ⟨L', rfl⟩ : ∃ a, L = a + 1 := ⟨L - 1, by omega⟩
  obtain ⟨m, he, hne, hm⟩ := h.next (by omega)
  have : ∀ n m, n = m → E g v m → m ≠ s → Hit g L' m s → ∃ m, Nxt g s (L' + 1) v m := by
    intro n
    induction n using Nat.strongRecOn with
    | _ n ih =>
      intro m hnm he hne hm
      by_cases hc : ∃ y, E g v y ∧ y ≠ s ∧ Hit g L' y s ∧ y < m
      · obtain ⟨y, h1, h2, h3, h4⟩ := hc
        exact ih y (by omega) y rfl h1 h2 h3
      · refine ⟨m, he, hne, hm, fun y h1 h2 h3 => ?_⟩
        apply Classical.byContradiction
        intro h4
        exact hc ⟨y, h1, h2, h3, by omega⟩
  exact this m m rfl he hne hm
theorem Cycle_l0 {g : List (List Int)} (hv : Val g) {s : Nat} {q : Nat → Int} (hq : DS g s q) : ∀ (L v : Nat) (out : List Int), v < g.length → Hit g L v s → out.length + L ≤ 1000 →
    ∃ t, Chn g s L v t ∧ Ev (fun k => depgraph_Cycle.l0 k g (s : Int) (tl g.length q) out (v : Int) (L : Int)) (out ++ t) := by
  have hle := hv.le
  intro L
  induction L with
  | zero => intro v out _ h; exact absurd h.1 (by omega)
  | succ L ih =>
    intro v out hvl h ho
    by_cases hL : L = 0
    · subst hL
      refine ⟨[], rfl, Ev.of_succ ?_⟩
      simp only [depgraph_Cycle.l0, show ¬ (1 : Int) < ((0 + 1 : Nat) : Int) from by omega, ↓reduceIte, List.append_nil]
      exact Ev.const _
    · obtain ⟨m, hm⟩ := nxt_ex hv (by omega) h
      have hml := (hm.1.lt hv).2
      obtain ⟨t, h1, h2⟩ := ih m (out ++ [(m : Int)]) hml hm.2.2.1 (by rw [List.length_append]; simp; omega)
      have hp : ∀ y : Nat, y < g.length → (cycP (s : Int) ((L + 1 : Nat) : Int) (tl g.length q) (y : Int) = true ↔ y ≠ s ∧ Hit g L y s) := by
        intro y hy
        unfold cycP
        rw [Bool.and_eq_true, bne_iff_ne, beq_iff_eq, tl_rd _ _ y hy, show (((L + 1 : Nat) : Int) - 1) = ((L : Nat) : Int) from by omega, hq y hy L (by omega)]
        exact ⟨fun h => ⟨fun e => h.1 (by rw [e]), h.2⟩, fun h => ⟨fun e => h.1 (by omega), h.2⟩⟩
      have hg := hv.ok v hvl
      obtain ⟨j, k1, k2, k3, k4⟩ := idxF_first (cycP (s : Int) ((L + 1 : Nat) : Int) (tl g.length q)) (adj g v) hg.inc ⟨(m : Int), hm.1.2, (hp m hml).2 ⟨hm.2.1, hm.2.2.1⟩⟩
      obtain ⟨x, hx1, hx2, hx3, hx4⟩ := hv.adj_get hvl k1
      have hxm : x = m := by
        rw [hx2] at k3 k4
        have h3 := (hp x hx1).1 k3
        have h4 := k4 (m : Int) hm.1.2 ((hp m hml).2 ⟨hm.2.1, hm.2.2.1⟩)
        have h5 := hm.2.2.2 x hx4 h3.1 h3.2
        omega
      subst hxm
      have hok : disOk (s : Int) (tl g.length q) (rd_L1 g (v : Int)) = true := by
        unfold disOk
        rw [List.all_eq_true]
        intro x hx
        have := hg.rng x hx
        rw [tl_length]
        simp [this]
      refine ⟨(x : Int) :: t, ⟨by omega, x, rfl, hm, h1⟩, Ev.of_succ ?_⟩
      simp only [depgraph_Cycle.l0, show (1 : Int) < ((L + 1 : Nat) : Int) from by omega, show ((L + 1 : Nat) : Int) ≤ 1000000 from by omega, show (0 : Int) ≤ (v : Int) ∧ (v : Int) < (g.length : Int) from by omega, hok, k2, hx2, show (0 : Int) ≤ (j : Int) ∧ (j : Int) < ((adj g v).length : Int) from by omega, and_self, show out.length < 17592186044416 from by omega, ↓reduceIte, show (((L + 1 : Nat) : Int) - 1) = ((L : Nat) : Int) from by omega]
      rw [List.append_assoc] at h2
      exact h2
end Go.Proofs.Ytffcaglfcnmhdaa.H
end
section
namespace Go.Proofs.Ytffcaglfcnmhdaa.H
open Go.RowKit Go.Proofs.YtffcaglfcnmhdaaW.PrintWords Go.Proofs.YtffcaglfcnmhdaaW.PrintLast Go.Proofs.YtffcaglfcnmhdaaW.PrintMore
set_option linter.unusedVariables false
set_option linter.unusedSimpArgs false
open Go.RowKit
/-- The numbers below N that p holds of. -/
def fl (N : Nat) (p : Nat → Bool) : List Int := ((List.range N).filter p).map (fun i : Nat => (i : Int))
theorem fl_succ (N : Nat) (p : Nat → Bool) : fl (N + 1) p = if p N = true then fl N p ++ [(N : Int)] else fl N p := by
  unfold fl
  rw [List.range_succ, List.filter_append]
  by_cases h : p N = true
  · rw [if_pos h]; simp [h]
  · rw [if_neg h]; simp [h]
theorem fl_len (N : Nat) (p : Nat → Bool) : (fl N p).length ≤ N := by
  unfold fl
  rw [List.length_map]
  exact Nat.le_trans (List.length_filter_le _ _) (by simp)
theorem fl_mem (N : Nat) (p : Nat → Bool) (i : Nat) : (i : Int) ∈ fl N p ↔ i < N ∧ p i = true := by
  unfold fl
  rw [List.mem_map]
  constructor
  · rintro ⟨j, hj, e⟩
    obtain rfl : j = i := by omega
    rw [List.mem_filter, List.mem_range] at hj
    exact hj
  · intro h
    exact ⟨i, List.mem_filter.2 ⟨List.mem_range.2 h.1, h.2⟩, rfl⟩
theorem fl_mem' (N : Nat) (p : Nat → Bool) (x : Int) (h : x ∈ fl N p) : 0 ≤ x ∧ x < (N : Int) := by
  unfold fl at h
  obtain ⟨j, hj, rfl⟩ := List.mem_map.1 h
  rw [List.mem_filter, List.mem_range] at hj
  omega
theorem fl_congr {N : Nat} {p q : Nat → Bool} (h : ∀ i, i < N → p i = q i) : fl N p = fl N q := by
  unfold fl
  rw [List.filter_congr (fun i hi => h i (List.mem_range.1 hi))]
theorem fl_good (N : Nat) (p : Nat → Bool) : Good N (fl N p) := by
  refine ⟨fun x hx => fl_mem' N p x hx, ?_⟩
  induction N with
  | zero => exact List.Pairwise.nil
  | succ N ih =>
    rw [fl_succ]
    split
    · rw [List.pairwise_append]
      exact ⟨ih, List.pairwise_singleton _ _, fun a ha b hb => by rw [List.mem_singleton.1 hb]; exact (fl_mem' N p a ha).2⟩
    · exact ih
/-- i is affected: it is among l, or leads to one of l. -/
def Af (g : List (List Int)) (l : List Int) (i : Nat) : Prop := (i : Int) ∈ l ∨ ∃ x : Nat, (x : Int) ∈ l ∧ Rch g i x
/-- An affected node: one of l, or with an affected neighbour. -/
theorem Af.step {g : List (List Int)} {l : List Int} {i : Nat} : Af g l i ↔ (i : Int) ∈ l ∨ ∃ m, E g i m ∧ Af g l m := by
  constructor
  · rintro (h | ⟨x, hx, hr⟩)
    · exact .inl h
    · obtain ⟨m, he, h⟩ := hr.fst
      rcases h with rfl | h
      · exact .inr ⟨m, he, .inl hx⟩
      · exact .inr ⟨m, he, .inr ⟨x, hx, h⟩⟩
  · rintro (h | ⟨m, he, h | ⟨x, hx, hr⟩⟩)
    · exact .inl h
    · exact .inr ⟨m, h, Rch.one he⟩
    · exact .inr ⟨x, hx, (Rch.one he).trans hr⟩
end Go.Proofs.Ytffcaglfcnmhdaa.H
end
section
namespace Go.Proofs.Ytffcaglfcnmhdaa.H
open Go.RowKit Go.Proofs.YtffcaglfcnmhdaaW.PrintWords Go.Proofs.YtffcaglfcnmhdaaW.PrintLast Go.Proofs.YtffcaglfcnmhdaaW.PrintMore
set_option linter.unusedVariables false
set_option linter.unusedSimpArgs false
open Go.RowKit
theorem Cycle_bad {g : List (List Int)} (hl : ∀ l ∈ g, l.length ≤ 9223372036854775807) (h0 : (gf g).1 ≠ 0) : Ev (fun k => depgraph_Cycle.f k g) ([], false, (gf g).1, (gf g).2) := by
  simp only [depgraph_Cycle.f]
  refine Ev.bind (Validate_ev g hl) ?_
  simp only [show (!((gf g).1 == 0) || !((gf g).2 == 0)) = true from by simp [h0], ↓reduceIte]
  exact Ev.const _
theorem Cycle_ev {g : List (List Int)} (hl : ∀ l ∈ g, l.length ≤ 9223372036854775807) (h0 : (gf g).1 = 0) : (∀ i, i < g.length → ¬ Rch g i i) ∧ Ev (fun k => depgraph_Cycle.f k g) ([], false, 0, 0) ∨
    ∃ (s L : Nat) (t : List Int), s < g.length ∧ (∀ j, j < s → ¬ Rch g j j) ∧ Hit g L s s ∧ Chn g s L s t ∧ Ev (fun k => depgraph_Cycle.f k g) ((s : Int) :: t, true, 0, 0) := by
  obtain ⟨h1, hv⟩ := gf_val h0
  have hle := hv.le
  obtain ⟨r, hr, hf⟩ := first_ev hv
  rcases hf with ⟨rfl, hn⟩ | ⟨s, hs, rfl, hrr, hmin⟩
  · refine .inl ⟨hn, ?_⟩
    simp only [depgraph_Cycle.f]
    refine Ev.bind (Validate_ev g hl) ?_
    rw [h1]
    simp only [beq_self_eq_true, Bool.not_true, Bool.or_self, Bool.false_eq_true, ↓reduceIte]
    refine Ev.bind hr ?_
    simp only [show ((-1 : Int) < 0) from by omega, ↓reduceIte]
    exact Ev.const _
  · obtain ⟨L, hL⟩ := hrr.hit
    have hLl := hL.le hv
    obtain ⟨q, hq, hd⟩ := distances_ev hv hs
    obtain ⟨t, ht, hc⟩ := Cycle_l0 hv hq L s [(s : Int)] hs hL (by simp; omega)
    refine .inr ⟨s, L, t, hs, hmin, hL, ht, ?_⟩
    simp only [depgraph_Cycle.f]
    refine Ev.bind (Validate_ev g hl) ?_
    rw [h1]
    simp only [beq_self_eq_true, Bool.not_true, Bool.or_self, Bool.false_eq_true, ↓reduceIte]
    refine Ev.bind hr ?_
    simp only [show ¬ ((s : Int) < 0) from by omega, ↓reduceIte]
    refine Ev.bind hd ?_
    simp only [tl_length, show (s : Int) < (g.length : Int) from by omega, ↓reduceIte, tl_rd _ _ s hs, (hq s hs L hL.1).2 hL]
    refine Ev.bind hc ?_
    exact Ev.const _
end Go.Proofs.Ytffcaglfcnmhdaa.H
end
section
namespace Go.Proofs.Ytffcaglfcnmhdaa.H
open Go.RowKit Go.Proofs.YtffcaglfcnmhdaaW.PrintWords Go.Proofs.YtffcaglfcnmhdaaW.PrintLast Go.Proofs.YtffcaglfcnmhdaaW.PrintMore
set_option linter.unusedVariables false
set_option linter.unusedSimpArgs false
open Go.RowKit
/-- a and b change places. -/
def sw (a b : Nat) (p : Nat → Int) : Nat → Int := fun k => if k = b then p a else if k = a then p b else p k
theorem tl_sw (n a b : Nat) (p : Nat → Int) : ((tl n p).set a (p b)).set b (p a) = tl n (sw a b p) := by
  rw [tl_set, tl_set]
  rfl
def ts (a b k : Nat) : Nat := if k = b then a else if k = a then b else k
theorem sw_perm {n a b : Nat} (ha : a < n) (hb : b < n) (p : Nat → Int) : (tl n (sw a b p)).Perm (tl n p) := by
  have h1 : tl n (sw a b p) = ((List.range n).map (ts a b)).map p := by
    unfold tl
    rw [List.map_map]
    refine List.map_congr_left fun k _ => ?_
    unfold sw ts
    simp only [Function.comp]
    split
    · rfl
    · split <;> rfl
  rw [h1]
  refine List.Perm.map p ?_
  refine (List.perm_ext_iff_of_nodup ?_ List.nodup_range).2 fun k => ?_
  · rw [List.Nodup, List.pairwise_map]
    refine List.Pairwise.imp ?_ (List.nodup_range (n := n))
    intro x y hxy
    unfold ts
    split <;> split <;> (try split) <;> (try split) <;> omega
  · rw [List.mem_map, List.mem_range]
    constructor
    · rintro ⟨x, hx, rfl⟩
      have := List.mem_range.1 hx
      unfold ts
      split
      · exact ha
      · split
        · exact hb
        · exact this
    · intro hk
      refine ⟨ts a b k, List.mem_range.2 ?_, ?_⟩
      · unfold ts
        split
        · exact ha
        · split
          · exact hb
          · exact hk
      · unfold ts
        split <;> (try split) <;> (try split) <;> (try split) <;> omega
/-- A heap of n. -/
def Hp (n : Nat) (p : Nat → Int) : Prop := ∀ c, 1 ≤ c → c < n → p ((c - 1) / 2) ≤ p c
theorem Hp.least {n : Nat} {p : Nat → Int} (h : Hp n p) : ∀ c, c < n → p 0 ≤ p c := by
  intro c
  induction c using Nat.strongRecOn with
  | _ c ih =>
    intro hc
    by_cases h0 : c = 0
    · rw [h0]; omega
    · have := h c (by omega) hc
      have := ih ((c - 1) / 2) (by omega) (by omega)
      omega
/-- All but j's place is right. -/
def Upw (n : Nat) (p : Nat → Int) (j : Nat) : Prop := (∀ c, 1 ≤ c → c < n → c ≠ j → p ((c - 1) / 2) ≤ p c) ∧ (∀ c, 1 ≤ c → c < n → (c - 1) / 2 = j → 1 ≤ j → p ((j - 1) / 2) ≤ p c)
theorem up_ev (n : Nat) : ∀ (j : Nat) (p : Nat → Int), j < n → Upw n p j → ∃ p', Ev (fun k => upF k (tl n p) (j : Int)) (tl n p') ∧ Hp n p' ∧ (tl n p').Perm (tl n p) := by
  intro j
  induction j using Nat.strongRecOn with
  | _ j ih =>
    intro p hj h
    by_cases h0 : j = 0
    · subst h0
      refine ⟨p, Ev.of_succ ?_, fun c h1 h2 => h.1 c h1 h2 (by omega), List.Perm.refl _⟩
      simp only [upF, tl_length, show (0 : Int) ≤ ((0 : Nat) : Int) ∧ ((0 : Nat) : Int) < (n : Int) from by omega, and_self, show (((0 : Nat) : Int) = 0) = True from by simp, ↓reduceIte]
      exact Ev.const _
    · have e : ((j : Int) - 1) / 2 = (((j - 1) / 2 : Nat) : Int) := by omega
      have hil : (j - 1) / 2 < n := by omega
      by_cases hc : p j < p ((j - 1) / 2)
      · obtain ⟨p', h1, h2, h3⟩ := ih ((j - 1) / 2) (by omega) (sw ((j - 1) / 2) j p) hil ⟨fun c hc1 hc2 hc3 => by
          unfold sw
          by_cases ej : c = j
          · subst ej
            rw [if_neg (by omega), if_pos rfl, if_pos rfl]
            omega
          · rw [if_neg ej, if_neg hc3]
            by_cases e1 : (c - 1) / 2 = j
            · rw [if_pos e1]
              exact h.2 c hc1 hc2 e1 (by omega)
            · rw [if_neg e1]
              by_cases e2 : (c - 1) / 2 = (j - 1) / 2
              · rw [if_pos e2]
                have := h.1 c hc1 hc2 ej
                rw [e2] at this
                omega
              · rw [if_neg e2]
                exact h.1 c hc1 hc2 ej, fun c hc1 hc2 hc3 hi => by
          unfold sw
          have hgi := h.1 ((j - 1) / 2) hi hil (by omega)
          rw [if_neg (by omega), if_neg (by omega)]
          by_cases ej : c = j
          · rw [if_pos ej]
            exact hgi
          · rw [if_neg ej, if_neg (by omega)]
            have := h.1 c hc1 hc2 ej
            rw [hc3] at this
            omega⟩
        refine ⟨p', Ev.of_succ ?_, h2, h3.trans (sw_perm hil hj p)⟩
        simp only [upF, tl_length, show (0 : Int) ≤ (j : Int) ∧ (j : Int) < (n : Int) from by omega, and_self, show ((j : Int) = 0) = False from eq_false (by omega), ↓reduceIte, e, tl_rd _ _ j hj, tl_rd _ _ _ hil, hc, Int.toNat_natCast, tl_sw]
        exact h1
      · refine ⟨p, Ev.of_succ ?_, fun c h1 h2 => ?_, List.Perm.refl _⟩
        · simp only [upF, tl_length, show (0 : Int) ≤ (j : Int) ∧ (j : Int) < (n : Int) from by omega, and_self, show ((j : Int) = 0) = False from eq_false (by omega), ↓reduceIte, e, tl_rd _ _ j hj, tl_rd _ _ _ hil, hc]
          exact Ev.const _
        · by_cases ej : c = j
          · subst ej; omega
          · exact h.1 c h1 h2 ej
theorem hpush_ev (n : Nat) (hn : n ≤ 1000) (p : Nat → Int) (x : Int) (h : Hp n p) : ∃ p', Ev (fun k => hpushF k (tl n p) x) (tl (n + 1) p') ∧ Hp (n + 1) p' ∧ (tl (n + 1) p').Perm (x :: tl n p) := by
  have e : tl n p ++ [x] = tl (n + 1) (fun k => if k = n then x else p k) := by
    rw [← tl_snoc]
    rw [if_pos rfl]
    congr 1
    exact tl_congr fun i hi => by rw [if_neg (by omega)]
  obtain ⟨p', h1, h2, h3⟩ := up_ev (n + 1) n (fun k => if k = n then x else p k) (by omega) ⟨fun c h1 h2 h3 => by
    dsimp only
    rw [if_neg (by omega), if_neg h3]
    exact h c h1 (by omega), fun c h1 h2 h3 h4 => by omega⟩
  refine ⟨p', ?_, h2, ?_⟩
  · simp only [hpushF, tl_length, show n ≤ 100000 from by omega, ↓reduceIte, e]
    exact h1
  · rw [← e] at h3
    exact h3.trans (List.perm_append_comm)
/-- All but i's children's places are right. -/
def Dnw (n : Nat) (p : Nat → Int) (i : Nat) : Prop := (∀ c, 1 ≤ c → c < n → (c - 1) / 2 ≠ i → p ((c - 1) / 2) ≤ p c) ∧ (∀ c, 1 ≤ c → c < n → (c - 1) / 2 = i → 1 ≤ i → p ((i - 1) / 2) ≤ p c)
theorem down_ev (N n : Nat) (hN : n ≤ N) : ∀ (d i : Nat) (p : Nat → Int), N - i = d → i < N → Dnw n p i → ∃ p', Ev (fun k => downF k (tl N p) (i : Int) (n : Int)) (tl N p') ∧ Hp n p' ∧ (tl N p').Perm (tl N p) ∧ ∀ c, n ≤ c → p' c = p c := by
  intro d
  induction d using Nat.strongRecOn with
  | _ d ih =>
    intro i p hd hi h
    by_cases h0 : n ≤ 2 * i + 1
    · refine ⟨p, Ev.of_succ ?_, fun c h1 h2 => h.1 c h1 h2 (by omega), List.Perm.refl _, fun _ _ => rfl⟩
      simp only [downF, tl_length, show (0 : Int) ≤ (i : Int) ∧ (i : Int) < (N : Int) ∧ (n : Int) ≤ (N : Int) from by omega, and_self, show (n : Int) ≤ 2 * (i : Int) + 1 from by omega, ↓reduceIte]
      exact Ev.const _
    · obtain ⟨m, hm1, hm2, hm3⟩ : ∃ m : Nat, kid (tl N p) (i : Int) (n : Int) = (m : Int) ∧ (m < n ∧ 1 ≤ m ∧ (m - 1) / 2 = i) ∧ ∀ c, 1 ≤ c → c < n → (c - 1) / 2 = i → p m ≤ p c := by
        have ha : rd (tl N p) (2 * (i : Int) + 1) = p (2 * i + 1) := by rw [show 2 * (i : Int) + 1 = ((2 * i + 1 : Nat) : Int) from by omega]; exact tl_rd _ _ _ (by omega)
        unfold kid
        by_cases h2 : 2 * (i : Int) + 2 < (n : Int)
        · have hb : rd (tl N p) (2 * (i : Int) + 2) = p (2 * i + 2) := by rw [show 2 * (i : Int) + 2 = ((2 * i + 2 : Nat) : Int) from by omega]; exact tl_rd _ _ _ (by omega)
          rw [if_pos h2, ha, hb]
          by_cases h3 : p (2 * i + 2) < p (2 * i + 1)
          · rw [if_pos h3]
            refine ⟨2 * i + 2, by omega, ⟨by omega, by omega, by omega⟩, fun c c1 c2 c3 => ?_⟩
            have : c = 2 * i + 1 ∨ c = 2 * i + 2 := by omega
            rcases this with rfl | rfl <;> omega
          · rw [if_neg h3]
            refine ⟨2 * i + 1, by omega, ⟨by omega, by omega, by omega⟩, fun c c1 c2 c3 => ?_⟩
            have : c = 2 * i + 1 ∨ c = 2 * i + 2 := by omega
            rcases this with rfl | rfl <;> omega
        · rw [if_neg h2]
          refine ⟨2 * i + 1, by omega, ⟨by omega, by omega, by omega⟩, fun c c1 c2 c3 => ?_⟩
          obtain rfl : c = 2 * i + 1 := by omega
          omega
      by_cases hc : p m < p i
      · obtain ⟨p', h1, h2, h3, h4⟩ := ih (N - m) (by omega) m (sw i m p) rfl (by omega) ⟨fun c hc1 hc2 hc3 => by
          unfold sw
          rw [if_neg hc3]
          by_cases e1 : (c - 1) / 2 = i
          · rw [if_pos e1]
            by_cases e2 : c = m
            · rw [if_pos e2]; omega
            · rw [if_neg e2, if_neg (by omega)]
              exact hm3 c hc1 hc2 e1
          · rw [if_neg e1]
            by_cases e2 : c = m
            · omega
            · rw [if_neg e2]
              by_cases e3 : c = i
              · rw [if_pos e3]
                have := h.2 m hm2.2.1 hm2.1 hm2.2.2 (by omega)
                rw [e3]
                exact this
              · rw [if_neg e3]
                exact h.1 c hc1 hc2 e1, fun c hc1 hc2 hc3 hm' => by
          unfold sw
          rw [hm2.2.2, if_neg (by omega), if_pos rfl, if_neg (by omega), if_neg (by omega)]
          have := h.1 c hc1 hc2 (by omega)
          rw [hc3] at this
          exact this⟩
        refine ⟨p', Ev.of_succ ?_, h2, h3.trans (sw_perm hi (by omega) p), fun c hcn => ?_⟩
        · simp only [downF, tl_length, show (0 : Int) ≤ (i : Int) ∧ (i : Int) < (N : Int) ∧ (n : Int) ≤ (N : Int) from by omega, and_self, show ¬ (n : Int) ≤ 2 * (i : Int) + 1 from by omega, ↓reduceIte, hm1, tl_rd _ _ i hi, tl_rd N p m (by omega), hc, Int.toNat_natCast, tl_sw]
          exact h1
        · rw [h4 c hcn]
          unfold sw
          rw [if_neg (by omega), if_neg (by omega)]
      · refine ⟨p, Ev.of_succ ?_, fun c h1 h2 => ?_, List.Perm.refl _, fun _ _ => rfl⟩
        · simp only [downF, tl_length, show (0 : Int) ≤ (i : Int) ∧ (i : Int) < (N : Int) ∧ (n : Int) ≤ (N : Int) from by omega, and_self, show ¬ (n : Int) ≤ 2 * (i : Int) + 1 from by omega, ↓reduceIte, hm1, tl_rd _ _ i hi, tl_rd N p m (by omega), hc]
          exact Ev.const _
        · by_cases e1 : (c - 1) / 2 = i
          · rw [e1]
            have := hm3 c h1 h2 e1
            omega
          · exact h.1 c h1 h2 e1
theorem hpop_ev (n : Nat) (hn : n ≤ 1000) (p : Nat → Int) (h : Hp (n + 1) p) : ∃ p', Ev (fun k => hpopF k (tl (n + 1) p)) (p 0, tl n p') ∧ Hp n p' ∧ (p 0 :: tl n p').Perm (tl (n + 1) p) := by
  obtain ⟨p', h1, h2, h3, h4⟩ := down_ev (n + 1) n (by omega) _ 0 (sw 0 n p) rfl (by omega) ⟨fun c c1 c2 c3 => by
    unfold sw
    rw [if_neg (by omega), if_neg c3, if_neg (by omega), if_neg (by omega)]
    exact h c c1 (by omega), fun c _ _ _ h => by omega⟩
  have hlast : p' n = p 0 := by rw [h4 n (Nat.le_refl _)]; unfold sw; rw [if_pos rfl]
  refine ⟨p', ?_, h2, ?_⟩
  · simp only [hpopF, tl_length, show 0 < n + 1 ∧ n + 1 ≤ 100000 from by omega, and_self, ↓reduceIte, show ((n + 1 : Nat) : Int) - 1 = (n : Int) from by omega, tl_rd (n + 1) p n (by omega), Nat.add_sub_cancel]
    have e0 : rd (tl (n + 1) p) 0 = p 0 := tl_rd (n + 1) p 0 (by omega)
    rw [e0, tl_sw]
    refine Ev.bind h1 ?_
    simp only [tl_length, ↓reduceIte, tl_rd (n + 1) p' n (by omega), hlast]
    refine (Ev.const _).cast ?_
    rw [← tl_snoc, List.take_append_of_le_length (by simp), List.take_of_length_le (by simp)]
  · have h5 : (tl (n + 1) p').Perm (tl (n + 1) p) := h3.trans (sw_perm (by omega) (by omega) p)
    rw [← tl_snoc, hlast] at h5
    exact (List.perm_append_comm (l₁ := [p 0])).trans h5
end Go.Proofs.Ytffcaglfcnmhdaa.H
end
section
namespace Go.Proofs.Ytffcaglfcnmhdaa.H
open Go.RowKit Go.Proofs.YtffcaglfcnmhdaaW.PrintWords Go.Proofs.YtffcaglfcnmhdaaW.PrintLast Go.Proofs.YtffcaglfcnmhdaaW.PrintMore
set_option linter.unusedVariables false
set_option linter.unusedSimpArgs false
open Go.RowKit
/-- All that a depends on is done. -/
def Av (g : List (List Int)) (D : Nat → Bool) (a : Nat) : Prop := D a = false ∧ ∀ m, E g a m → D m = true
/-- Those of the list O. -/
def dn (O : List Int) (a : Nat) : Bool := decide ((a : Int) ∈ O)
/-- x comes next behind O: the least available one. -/
def Nx (g : List (List Int)) (O : List Int) (x : Nat) : Prop := x < g.length ∧ Av g (dn O) x ∧ ∀ y, y < g.length → Av g (dn O) y → x ≤ y
/-- The greedy order, from its end. -/
inductive Grd (g : List (List Int)) : List Int → Prop
  | nil : Grd g []
  | snoc {O : List Int} {x : Nat} (h : Grd g O) (hx : Nx g O x) : Grd g (O ++ [(x : Int)])
theorem Nx.uniq {g : List (List Int)} {O : List Int} {x y : Nat} (h : Nx g O x) (h2 : Nx g O y) : x = y := by
  have := h.2.2 y h2.1 h2.2.1
  have := h2.2.2 x h.1 h.2.1
  omega
theorem Grd.uniq {g : List (List Int)} : ∀ {O P : List Int}, Grd g O → Grd g P → O.length = P.length → O = P := by
  intro O P h
  induction h generalizing P with
  | nil => intro _ hl; exact (List.length_eq_zero_iff.1 hl.symm).symm
  | snoc h hx ih =>
    intro h2 hl
    cases h2 with
    | nil => simp at hl
    | snoc h3 hy =>
      have := ih h3 (by simpa using hl)
      subst this
      rw [hx.uniq hy]
theorem Grd.rng {g : List (List Int)} {O : List Int} (h : Grd g O) : ∀ x ∈ O, 0 ≤ x ∧ x < (g.length : Int) := by
  induction h with
  | nil => simp
  | snoc h hx ih =>
    intro y hy
    rcases List.mem_append.1 hy with h1 | h1
    · exact ih y h1
    · have := List.mem_singleton.1 h1
      have := hx.1
      omega
theorem Grd.nodup {g : List (List Int)} {O : List Int} (h : Grd g O) : O.Nodup := by
  induction h with
  | nil => exact List.Pairwise.nil
  | @snoc O x h hx ih =>
    rw [List.Nodup, List.pairwise_append]
    refine ⟨ih, List.pairwise_singleton _ _, fun a ha b hb => ?_⟩
    rw [List.mem_singleton.1 hb]
    rintro rfl
    have := hx.2.1.1
    unfold dn at this
    rw [decide_eq_false_iff_not] at this
    exact this ha
/-- Dependencies come first. -/
theorem Grd.deps {g : List (List Int)} {O : List Int} (h : Grd g O) : ∀ a m : Nat, (a : Int) ∈ O → E g a m → (m : Int) ∈ O := by
  induction h with
  | nil => intro a m h; simp at h
  | @snoc O x h hx ih =>
    intro a m ha he
    rcases List.mem_append.1 ha with h1 | h1
    · exact List.mem_append.2 (.inl (ih a m h1 he))
    · have e := List.mem_singleton.1 h1
      obtain rfl : a = x := by omega
      exact List.mem_append.2 (.inl (of_decide_eq_true (hx.2.1.2 m he)))
theorem nodup_le : ∀ (N : Nat) (O : List Int), O.Nodup → (∀ x ∈ O, 0 ≤ x ∧ x < (N : Int)) → O.length ≤ N := by
  intro N O hn hr
  refine hole N (fun e => (rd O (e : Int)).toNat) O.length (fun e he => ?_) (fun a b ha hb hab => ?_)
  · have := hr _ (List.getElem_mem he)
    rw [← rd_get O e he] at this
    omega
  · have h1 := hr _ (List.getElem_mem ha)
    have h2 := hr _ (List.getElem_mem hb)
    have e1 := rd_get O a ha
    have e2 := rd_get O b hb
    rw [e1, e2] at hab
    have e3 : O[a] = O[b] := by omega
    have hp := List.pairwise_iff_getElem.1 hn
    rcases Nat.lt_trichotomy a b with h | h | h
    · exact absurd e3 (hp a b ha hb h)
    · exact h
    · exact absurd e3.symm (hp b a hb ha h)
/-- In a graph without cycles something is available as long as not all is done. -/
theorem av_ex {g : List (List Int)} (hv : Val g) (hac : ∀ i, i < g.length → ¬ Rch g i i) {D : Nat → Bool} {a : Nat} (ha : a < g.length) (hD : D a = false) : ∃ x, x < g.length ∧ Av g D x := by
  apply Classical.byContradiction
  intro hn
  have hstep : ∀ b, b < g.length ∧ D b = false → ∃ m, E g b m ∧ (m < g.length ∧ D m = false) := fun b hb => by
    apply Classical.byContradiction
    intro h
    refine hn ⟨b, hb.1, hb.2, fun m he => ?_⟩
    apply Classical.byContradiction
    intro hm
    exact h ⟨m, he, (he.lt hv).2, by simpa using hm⟩
  -- an endless walk
  have hw : ∀ n, ∃ f : Nat → Nat, f 0 = a ∧ (∀ k, k < n → E g (f k) (f (k + 1))) ∧ (f n < g.length ∧ D (f n) = false) := by
    intro n
    induction n with
    | zero => exact ⟨fun _ => a, rfl, fun k hk => by omega, ha, hD⟩
    | succ n ih =>
      obtain ⟨f, h1, h2, h3⟩ := ih
      obtain ⟨m, he, hm⟩ := hstep _ h3
      refine ⟨fun k => if k = n + 1 then m else f k, by simp [h1], fun k hk => ?_, by simpa using hm⟩
      by_cases e : k = n
      · subst e; simpa using he
      · have := h2 k (by omega)
        simpa [show ¬ k = n + 1 from by omega, show ¬ k = n from e] using this
  obtain ⟨f, h1, h2, h3⟩ := hw g.length
  have hr : ∀ d k, k + d ≤ g.length → 1 ≤ d → Rch g (f k) (f (k + d)) := by
    intro d
    induction d with
    | zero => intro k _ h; omega
    | succ d ih =>
      intro k hk _
      by_cases e : d = 0
      · subst e; exact Rch.one (h2 k (by omega))
      · exact (ih k (by omega) (by omega)).trans (Rch.one (h2 (k + d) (by omega)))
  have := hole g.length f (g.length + 1) (fun e he => by
    by_cases h4 : e = g.length
    · rw [h4]; exact h3.1
    · exact (h2 e (by omega)).1) (fun x y hx hy hxy => by
    rcases Nat.lt_trichotomy x y with h | h | h
    · have := hr (y - x) x (by omega) (by omega)
      rw [show x + (y - x) = y from by omega, ← hxy] at this
      exact absurd this (hac _ (by
        by_cases h4 : x = g.length
        · omega
        · exact (h2 x (by omega)).1))
    · exact h
    · have := hr (x - y) y (by omega) (by omega)
      rw [show y + (x - y) = x from by omega, hxy] at this
      exact absurd this (hac _ (by
        by_cases h4 : y = g.length
        · omega
        · exact (h2 y (by omega)).1)))
  omega
theorem not_full {g : List (List Int)} {O : List Int} (hl : O.length < g.length) : ∃ a, a < g.length ∧ ¬ (a : Int) ∈ O := by
  apply Classical.byContradiction
  intro h
  have hm : ∀ a : Nat, a < g.length → (a : Int) ∈ O := fun a ha => by
    apply Classical.byContradiction
    exact fun h2 => h ⟨a, ha, h2⟩
  have hx : ∀ a, ∃ j, a < g.length → j < O.length ∧ rd O (j : Int) = (a : Int) := fun a => by
    by_cases ha : a < g.length
    · obtain ⟨j, hj, e⟩ := List.mem_iff_getElem.1 (hm a ha)
      exact ⟨j, fun _ => ⟨hj, by rw [rd_get O j hj]; exact e⟩⟩
    · exact ⟨0, fun h => absurd h ha⟩
  have := hole O.length (fun a => Classical.choose (hx a)) g.length (fun a ha => (Classical.choose_spec (hx a) ha).1) (fun a b ha hb hab => by
    have h1 := (Classical.choose_spec (hx a) ha).2
    have h2 := (Classical.choose_spec (hx b) hb).2
    rw [hab] at h1
    omega)
  omega
end Go.Proofs.Ytffcaglfcnmhdaa.H
end
section
namespace Go.Proofs.Ytffcaglfcnmhdaa.H
open Go.RowKit Go.Proofs.YtffcaglfcnmhdaaW.PrintWords Go.Proofs.YtffcaglfcnmhdaaW.PrintLast Go.Proofs.YtffcaglfcnmhdaaW.PrintMore
set_option linter.unusedVariables false
set_option linter.unusedSimpArgs false
open Go.RowKit
theorem top_l2 {g : List (List Int)} (hv : Val g) {O : List Int} (hO : O.length ≤ 24) {i : Nat} (hi : i < g.length) (best : Int) (T : List Int) (B : Bool) (hB : B = true ↔ Av g (dn O) i)
    (hT : Ev (fun k => changeforgeref6_Topological.l1 k g O (if B = true then (i : Int) else best) ((i : Int) - 1)) T) : ∀ (d j : Nat) (b : Bool), (adj g i).length - j = d → j ≤ (adj g i).length → (b && ((adj g i).drop j).all (fun x => decide (x ∈ O))) = B →
    Ev (fun k => changeforgeref6_Topological.l2 k g O best (i : Int) b (j : Int)) T := by
  have hal := hv.len hi
  have hle := hv.le
  have hw : wrap64 ((i : Int) - 1) = (i : Int) - 1 := wrap_lt (by omega) (by omega)
  intro d
  induction d with
  | zero =>
    intro j b hd hj hb
    rw [List.drop_eq_nil_of_le (by omega), List.all_nil, Bool.and_true] at hb
    subst hb
    refine Ev.of_succ ?_
    have hnl : ¬ (j : Int) < ((rd_L1 g (i : Int)).length : Int) := by show ¬ (j : Int) < ((adj g i).length : Int); omega
    simp only [changeforgeref6_Topological.l2, show (0 : Int) ≤ (i : Int) from by omega, show (i : Int) < (g.length : Int) from by omega, hnl, ↓reduceIte, hw]
    by_cases hbt : b = true
    · simp only [hbt, ↓reduceIte] at hT ⊢
      exact hT
    · simp only [hbt, ↓reduceIte, Bool.false_eq_true] at hT ⊢
      exact hT
  | succ d ih =>
    intro j b hd hj hb
    have hjl : j < (adj g i).length := by omega
    have hlt : (j : Int) < ((rd_L1 g (i : Int)).length : Int) := by show (j : Int) < ((adj g i).length : Int); omega
    rw [drop_rd _ j hjl, List.all_cons] at hb
    refine Ev.of_succ ?_
    by_cases hbt : b = true
    · subst hbt
      simp only [changeforgeref6_Topological.l2, show (0 : Int) ≤ (i : Int) from by omega, show (i : Int) < (g.length : Int) from by omega, hlt, show (0 : Int) ≤ (j : Int) from by omega, ↓reduceIte, wrap_up j (by omega)]
      refine Ev.bind (Has_ev O (by omega) _) ?_
      refine ih (j + 1) _ (by omega) (by omega) ?_
      rw [← hb, Bool.true_and]
    · have hbf : b = false := by simpa using hbt
      subst hbf
      simp only [changeforgeref6_Topological.l2, show (0 : Int) ≤ (i : Int) from by omega, show (i : Int) < (g.length : Int) from by omega, hlt, ↓reduceIte, wrap_up j (by omega), Bool.false_eq_true]
      refine ih (j + 1) _ (by omega) (by omega) ?_
      rw [← hb, Bool.false_and, Bool.false_and]
theorem av_all {g : List (List Int)} (hv : Val g) {O : List Int} {i : Nat} (hi : i < g.length) : (!decide ((i : Int) ∈ O) && (adj g i).all (fun x => decide (x ∈ O))) = true ↔ Av g (dn O) i := by
  unfold Av dn
  rw [Bool.and_eq_true, Bool.not_eq_true', List.all_eq_true]
  refine and_congr Iff.rfl ⟨fun h m he => h _ he.2, fun h x hx => ?_⟩
  have := (hv.ok i hi).rng x hx
  obtain ⟨m, rfl⟩ : ∃ m : Nat, x = (m : Int) := ⟨x.toNat, by omega⟩
  exact h m ⟨hi, hx⟩
theorem top_l1 {g : List (List Int)} (hv : Val g) {O : List Int} (hO : O.length ≤ 24) {x : Nat} (hx : Nx g O x) (T : List Int) (hT : Ev (fun k => changeforgeref6_Topological.l0 k g (O ++ [(x : Int)])) T) : ∀ (c : Nat) (best : Int), c ≤ g.length → (c ≤ x → best = (x : Int)) → Ev (fun k => changeforgeref6_Topological.l1 k g O best ((c : Int) - 1)) T := by
  have hle := hv.le
  intro c
  induction c with
  | zero =>
    intro best _ h
    refine Ev.of_succ ?_
    simp only [changeforgeref6_Topological.l1, show ¬ (((0 : Nat) : Int) - 1 ≥ 0) from by omega, show O.length < 17592186044416 from by omega, ↓reduceIte, h (by omega)]
    exact hT
  | succ c ih =>
    intro best hc h
    have hcl : c < g.length := by omega
    refine Ev.of_succ ?_
    simp only [changeforgeref6_Topological.l1, show ((c + 1 : Nat) : Int) - 1 = (c : Int) from by omega, show (c : Int) ≥ 0 from by omega, ↓reduceIte]
    refine Ev.bind (Has_ev O (by omega) (c : Int)) ?_
    refine top_l2 hv hO hcl best T _ (av_all hv hcl) ?_ _ 0 _ rfl (by omega) (by rw [List.drop_zero])
    refine ih _ (by omega) (fun hcx => ?_)
    split
    · rename_i hb
      have := hx.2.2 c hcl ((av_all hv hcl).1 hb)
      omega
    · rename_i hb
      by_cases e : c = x
      · subst e
        exact absurd ((av_all hv hcl).2 hx.2.1) hb
      · exact h (by omega)
theorem nx_ex {g : List (List Int)} {O : List Int} (h : ∃ x, x < g.length ∧ Av g (dn O) x) : ∃ x, Nx g O x := by
  have : ∀ n x, n = x → x < g.length → Av g (dn O) x → ∃ x, Nx g O x := by
    intro n
    induction n using Nat.strongRecOn with
    | _ n ih =>
      intro x hn hx ha
      by_cases hc : ∃ y, y < x ∧ Av g (dn O) y
      · obtain ⟨y, h1, h2⟩ := hc
        exact ih y (by omega) y rfl (by omega) h2
      · refine ⟨x, hx, ha, fun y _ h2 => ?_⟩
        apply Classical.byContradiction
        exact fun h3 => hc ⟨y, by omega, h2⟩
  obtain ⟨x, hx, ha⟩ := h
  exact this x x rfl hx ha
theorem Topological_ev {g : List (List Int)} (hv : Val g) (hac : ∀ i, i < g.length → ¬ Rch g i i) : ∃ O, Grd g O ∧ O.length = g.length ∧ Ev (fun k => changeforgeref6_Topological.f k g) O := by
  have hle := hv.le
  have loop : ∀ d O, g.length - O.length = d → O.length ≤ g.length → Grd g O → ∃ P, Grd g P ∧ P.length = g.length ∧ Ev (fun k => changeforgeref6_Topological.l0 k g O) P := by
    intro d
    induction d with
    | zero =>
      intro O hd hO h
      refine ⟨O, h, by omega, Ev.of_succ ?_⟩
      simp only [changeforgeref6_Topological.l0, show ¬ (O.length : Int) < (g.length : Int) from by omega, ↓reduceIte]
      exact Ev.const _
    | succ d ih =>
      intro O hd hO h
      obtain ⟨a, ha, hna⟩ := not_full (g := g) (O := O) (by omega)
      obtain ⟨x, hx⟩ := nx_ex (av_ex hv hac ha (show dn O a = false from by unfold dn; exact decide_eq_false hna))
      obtain ⟨P, h1, h2, h3⟩ := ih (O ++ [(x : Int)]) (by rw [List.length_append]; simp; omega) (by rw [List.length_append]; simp; omega) (.snoc h hx)
      refine ⟨P, h1, h2, Ev.of_succ ?_⟩
      simp only [changeforgeref6_Topological.l0, show (O.length : Int) < (g.length : Int) from by omega, ↓reduceIte, wrap_lt (show -9223372036854775808 ≤ (g.length : Int) - 1 from by omega) (by omega)]
      exact top_l1 hv (by omega) hx P h3 g.length (-1) (Nat.le_refl _) (fun h => by have := hx.1; omega)
  obtain ⟨O, h1, h2, h3⟩ := loop _ [] rfl (by simp) .nil
  exact ⟨O, h1, h2, by simp only [changeforgeref6_Topological.f]; exact h3⟩
end Go.Proofs.Ytffcaglfcnmhdaa.H
end
section
namespace Go.Proofs.Ytffcaglfcnmhdaa.H
open Go.RowKit Go.Proofs.YtffcaglfcnmhdaaW.PrintWords Go.Proofs.YtffcaglfcnmhdaaW.PrintLast Go.Proofs.YtffcaglfcnmhdaaW.PrintMore
set_option linter.unusedVariables false
set_option linter.unusedSimpArgs false
open Go.RowKit
/-- The users of c among the first i nodes. -/
def us (g : List (List Int)) (i c : Nat) : List Int := fl i (fun a => decide ((c : Int) ∈ adj g a))
/-- The first counts of what is missing. -/
def ms (g : List (List Int)) (i a : Nat) : Int := if a < i then ((adj g a).length : Int) else 0
/-- Nodes that depend on nothing. -/
def zr (g : List (List Int)) (a : Nat) : Bool := decide ((adj g a).length = 0)
theorem take_mem {l : List Int} (h : l.Pairwise (· < ·)) {j : Nat} (hj : j < l.length) (x : Int) : x ∈ l.take (j + 1) ↔ x ∈ l.take j ∨ x = l[j] := by
  rw [← List.take_append_getElem hj, List.mem_append, List.mem_singleton]
theorem take_not {l : List Int} (h : l.Pairwise (· < ·)) {j : Nat} (hj : j < l.length) : ¬ l[j] ∈ l.take j := by
  intro hm
  obtain ⟨i, hi, e⟩ := List.mem_take_iff_getElem.1 hm
  have := List.pairwise_iff_getElem.1 h i j (by omega) hj (by omega)
  omega
theorem ord_l1 {g : List (List Int)} (hv : Val g) {i : Nat} (hi : i < g.length) (m h : List Int) (T : List Int × Int × Int)
    (hT : Ev (fun k => if ((adj g i).length : Int) = 0 then (hpushF k h (i : Int)).bind fun y => depgraph_Order.l0 k g m (tl g.length (us g (i + 1))) y ((i + 1 : Nat) : Int) else depgraph_Order.l0 k g m (tl g.length (us g (i + 1))) h ((i + 1 : Nat) : Int)) T) :
    ∀ (d j : Nat), (adj g i).length - j = d → j ≤ (adj g i).length → Ev (fun k => depgraph_Order.l1 k g m (tl g.length fun c => us g i c ++ if (c : Int) ∈ (adj g i).take j then [(i : Int)] else []) h (i : Int) (j : Int)) T := by
  have hal := hv.len hi
  have hle := hv.le
  have hg := hv.ok i hi
  intro d
  induction d with
  | zero =>
    intro j hd hj
    have e : (tl g.length fun c => us g i c ++ if (c : Int) ∈ (adj g i).take j then [(i : Int)] else []) = tl g.length (us g (i + 1)) := by
      refine tl_congr fun c _ => ?_
      rw [List.take_of_length_le (by omega)]
      show _ = fl (i + 1) _
      rw [fl_succ]
      by_cases hc : (c : Int) ∈ adj g i
      · rw [if_pos hc, if_pos (decide_eq_true hc)]; rfl
      · rw [if_neg hc, if_neg (by simp [hc]), List.append_nil]; rfl
    rw [e]
    refine Ev.of_succ ?_
    have hnl : ¬ (j : Int) < ((rd_L1 g (i : Int)).length : Int) := by show ¬ (j : Int) < ((adj g i).length : Int); omega
    simp only [depgraph_Order.l1, hnl, ↓reduceIte, wrap_up i (by omega)]
    exact hT
  | succ d ih =>
    intro j hd hj
    have hjl : j < (adj g i).length := by omega
    obtain ⟨x, hx1, hx2, hx3, hx4⟩ := hv.adj_get hi hjl
    have hlt : (j : Int) < ((rd_L1 g (i : Int)).length : Int) := by show (j : Int) < ((adj g i).length : Int); omega
    have hnot : ¬ (x : Int) ∈ (adj g i).take j := by rw [← hx3]; exact take_not hg.inc hjl
    have h2 := ih (j + 1) (by omega) (by omega)
    have e : (tl g.length fun c => us g i c ++ if (c : Int) ∈ (adj g i).take (j + 1) then [(i : Int)] else []) = (tl g.length fun c => us g i c ++ if (c : Int) ∈ (adj g i).take j then [(i : Int)] else []).set x (us g i x ++ [(i : Int)]) := by
      rw [tl_set]
      refine tl_congr fun c _ => ?_
      by_cases ec : c = x
      · subst ec
        rw [if_pos rfl, if_pos ((take_mem hg.inc hjl _).2 (.inr hx3.symm))]
      · rw [if_neg ec]
        have : (c : Int) ∈ (adj g i).take (j + 1) ↔ (c : Int) ∈ (adj g i).take j := by
          rw [take_mem hg.inc hjl, hx3]
          exact ⟨fun h => h.resolve_right (by omega), .inl⟩
        simp only [this]
    rw [e] at h2
    refine Ev.of_succ ?_
    have hu : rd_L1 (tl g.length fun c => us g i c ++ if (c : Int) ∈ (adj g i).take j then [(i : Int)] else []) (x : Int) = us g i x := by
      rw [tl_rd_L1 _ _ x hx1, if_neg hnot, List.append_nil]
    have hul : (us g i x).length ≤ i := fl_len _ _
    simp only [depgraph_Order.l1, hlt, ↓reduceIte, show (0 : Int) ≤ (j : Int) from by omega, hx2, show (0 : Int) ≤ (x : Int) from by omega, tl_length, show (x : Int) < (g.length : Int) from by omega, hu, show (us g i x).length < 17592186044416 from by omega, Int.toNat_natCast, wrap_up j (by omega)]
    exact h2
/-- What the first loop leaves. -/
theorem ord_l0 {g : List (List Int)} (hv : Val g) (T : List Int × Int × Int)
    (hT : ∀ (n : Nat) (p : Nat → Int), n ≤ g.length → Hp n p → (tl n p).Perm (fl g.length (zr g)) → Ev (fun k => depgraph_Order.l2 k (tl g.length (ms g g.length)) (tl g.length (us g g.length)) (tl n p) []) T) :
    ∀ (d i n : Nat) (p : Nat → Int), g.length - i = d → i ≤ g.length → n ≤ i → Hp n p → (tl n p).Perm (fl i (zr g)) → Ev (fun k => depgraph_Order.l0 k g (tl g.length (ms g i)) (tl g.length (us g i)) (tl n p) (i : Int)) T := by
  have hle := hv.le
  intro d
  induction d with
  | zero =>
    intro i n p hd hi hn hp hpm
    obtain rfl : i = g.length := by omega
    refine Ev.of_succ ?_
    simp only [depgraph_Order.l0, show ¬ (g.length : Int) < (g.length : Int) from by omega, ↓reduceIte]
    exact hT n p hn hp hpm
  | succ d ih =>
    intro i n p hd hi hn hp hpm
    have hil : i < g.length := by omega
    refine Ev.of_succ ?_
    have em : (tl g.length (ms g i)).set i ((adj g i).length : Int) = tl g.length (ms g (i + 1)) := by
      rw [tl_set]
      refine tl_congr fun a _ => ?_
      unfold ms
      by_cases e : a = i
      · subst e; rw [if_pos rfl, if_pos (by omega)]
      · rw [if_neg e]
        by_cases h2 : a < i
        · rw [if_pos h2, if_pos (by omega)]
        · rw [if_neg h2, if_neg (by omega)]
    simp only [depgraph_Order.l0, show (i : Int) < (g.length : Int) from by omega, show (0 : Int) ≤ (i : Int) from by omega, tl_length, ↓reduceIte, Int.toNat_natCast, em]
    have hstart := ord_l1 hv hil (tl g.length (ms g (i + 1))) (tl n p) T (by
      by_cases hz : (adj g i).length = 0
      · obtain ⟨p', h1, h2, h3⟩ := hpush_ev n (by omega) p (i : Int) hp
        simp only [show (((adj g i).length : Int) = 0) = True from eq_true (by omega), ↓reduceIte]
        refine Ev.bind h1 (ih (i + 1) (n + 1) p' (by omega) (by omega) (by omega) h2 ?_)
        rw [fl_succ, if_pos (show zr g i = true from decide_eq_true hz)]
        exact h3.trans ((hpm.cons _).trans (List.perm_append_comm (l₁ := [(i : Int)])))
      · simp only [show (((adj g i).length : Int) = 0) = False from eq_false (by omega), ↓reduceIte]
        refine ih (i + 1) n p (by omega) (by omega) (by omega) hp ?_
        rw [fl_succ, if_neg (show ¬ zr g i = true from by unfold zr; simp [hz])]
        exact hpm) _ 0 rfl (by omega)
    have e0 : (tl g.length fun c => us g i c ++ if (c : Int) ∈ (adj g i).take 0 then [(i : Int)] else []) = tl g.length (us g i) := tl_congr fun c _ => by simp
    rw [e0] at hstart
    exact hstart
end Go.Proofs.Ytffcaglfcnmhdaa.H
end
section
namespace Go.Proofs.Ytffcaglfcnmhdaa.H
open Go.RowKit Go.Proofs.YtffcaglfcnmhdaaW.PrintWords Go.Proofs.YtffcaglfcnmhdaaW.PrintLast Go.Proofs.YtffcaglfcnmhdaaW.PrintMore
set_option linter.unusedVariables false
set_option linter.unusedSimpArgs false
open Go.RowKit
/-- How many of a's dependencies are not in O. -/
def cnt (g : List (List Int)) (O : List Int) (a : Nat) : Nat := ((adj g a).filter (fun x => !decide (x ∈ O))).length
theorem filt_same (O : List Int) (x : Int) : ∀ (l : List Int), ¬ x ∈ l → l.filter (fun y => !decide (y ∈ O ++ [x])) = l.filter (fun y => !decide (y ∈ O)) := by
  intro l hx
  refine List.filter_congr fun y hy => ?_
  have : y ≠ x := fun e => hx (e ▸ hy)
  simp [this]
theorem filt_less (O : List Int) (x : Int) (hO : ¬ x ∈ O) : ∀ (l : List Int), l.Pairwise (· < ·) → x ∈ l → (l.filter (fun y => !decide (y ∈ O))).length = (l.filter (fun y => !decide (y ∈ O ++ [x]))).length + 1
  | [], _, h => by simp at h
  | y :: l, hp, h => by
    rw [List.pairwise_cons] at hp
    by_cases e : y = x
    · subst e
      have hn : ¬ y ∈ l := fun h => by have := hp.1 y h; omega
      rw [List.filter_cons, if_pos (by simp [hO]), List.filter_cons, if_neg (by simp), filt_same O y l hn]
      simp
    · have hl : x ∈ l := (List.mem_cons.1 h).resolve_left (Ne.symm e)
      have ih := filt_less O x hO l hp.2 hl
      rw [List.filter_cons, List.filter_cons]
      by_cases hy : y ∈ O
      · rw [if_neg (by simp [hy]), if_neg (by simp [hy])]; exact ih
      · rw [if_pos (by simp [hy]), if_pos (by simp [hy, e])]
        simp only [List.length_cons]
        omega
/-- Available: not in O, nothing missing. -/
def rdy (g : List (List Int)) (O : List Int) (a : Nat) : Bool := !decide ((a : Int) ∈ O) && decide (cnt g O a = 0)
theorem rdy_av {g : List (List Int)} (hv : Val g) {O : List Int} {a : Nat} (ha : a < g.length) : rdy g O a = true ↔ Av g (dn O) a := by
  rw [← av_all hv ha]
  unfold rdy cnt
  rw [Bool.and_eq_true, Bool.and_eq_true, decide_eq_true_iff, List.length_eq_zero_iff, List.filter_eq_nil_iff, List.all_eq_true]
  refine and_congr Iff.rfl ⟨fun h x hx => ?_, fun h x hx => ?_⟩
  · have := h x hx
    simpa using this
  · have := h x hx
    simpa using this
theorem us_mem {g : List (List Int)} {x a : Nat} : (a : Int) ∈ us g g.length x ↔ E g a x := by
  unfold us E
  rw [fl_mem, decide_eq_true_iff]
theorem ord_l3 {g : List (List Int)} (hv : Val g) {O : List Int} {x : Nat} (hxO : ¬ (x : Int) ∈ O) (base : List Int) (hb : base.length ≤ 100) (T : List Int × Int × Int) (hx : x < g.length)
    (hT : ∀ (n : Nat) (p : Nat → Int), n ≤ 200 → Hp n p → (tl n p).Perm (base ++ (us g g.length x).filter (fun y => decide (cnt g (O ++ [(x : Int)]) y.toNat = 0))) → Ev (fun k => depgraph_Order.l2 k (tl g.length fun a => (cnt g (O ++ [(x : Int)]) a : Int)) (tl g.length (us g g.length)) (tl n p) (O ++ [(x : Int)])) T) :
    ∀ (d j n : Nat) (p : Nat → Int), (us g g.length x).length - j = d → j ≤ (us g g.length x).length → Hp n p → (tl n p).Perm (base ++ ((us g g.length x).take j).filter (fun y => decide (cnt g (O ++ [(x : Int)]) y.toNat = 0))) →
      Ev (fun k => depgraph_Order.l3 k (tl g.length fun a => if (a : Int) ∈ (us g g.length x).take j then (cnt g (O ++ [(x : Int)]) a : Int) else (cnt g O a : Int)) (tl g.length (us g g.length)) (tl n p) (O ++ [(x : Int)]) (x : Int) (j : Int)) T := by
  have hle := hv.le
  have hul : (us g g.length x).length ≤ g.length := fl_len _ _
  have hgood : Good g.length (us g g.length x) := fl_good _ _
  have hrow : rd_L1 (tl g.length (us g g.length)) (x : Int) = us g g.length x := tl_rd_L1 _ _ x hx
  have hnb : ∀ n p j, (tl n p).Perm (base ++ ((us g g.length x).take j).filter (fun y => decide (cnt g (O ++ [(x : Int)]) y.toNat = 0))) → n ≤ 130 := fun n p j h => by
    have h1 := h.length_eq
    rw [tl_length, List.length_append] at h1
    have h2 := List.length_filter_le (fun y => decide (cnt g (O ++ [(x : Int)]) y.toNat = 0)) ((us g g.length x).take j)
    have h3 := List.length_take_le j (us g g.length x)
    have h4 : ((us g g.length x).take j).length ≤ (us g g.length x).length := by rw [List.length_take]; omega
    omega
  intro d
  induction d with
  | zero =>
    intro j n p hd hj hp hpm
    have e : (tl g.length fun a => if (a : Int) ∈ (us g g.length x).take j then (cnt g (O ++ [(x : Int)]) a : Int) else (cnt g O a : Int)) = tl g.length fun a => (cnt g (O ++ [(x : Int)]) a : Int) := by
      refine tl_congr fun a ha => ?_
      rw [List.take_of_length_le (by omega)]
      by_cases h : (a : Int) ∈ us g g.length x
      · rw [if_pos h]
      · rw [if_neg h]
        have hn : ¬ (x : Int) ∈ adj g a := fun h2 => h (us_mem.2 ⟨ha, h2⟩)
        unfold cnt
        rw [filt_same O x _ hn]
    rw [e]
    have hpm' := hpm
    rw [List.take_of_length_le (by omega)] at hpm'
    have hnl : ¬ (j : Int) < ((us g g.length x).length : Int) := by omega
    refine Ev.of_succ ?_
    simp only [depgraph_Order.l3, hrow, hnl, ↓reduceIte]
    exact hT n p (by have := hnb n p j hpm; omega) hp hpm'
  | succ d ih =>
    intro j n p hd hj hp hpm
    have hn := hnb n p j hpm
    have hjl : j < (us g g.length x).length := by omega
    have hr := hgood.rng _ (List.getElem_mem hjl)
    obtain ⟨a, ha⟩ : ∃ a : Nat, (us g g.length x)[j] = (a : Int) := ⟨((us g g.length x)[j]).toNat, by omega⟩
    rw [ha] at hr
    have hal : a < g.length := by omega
    have hrd : rd (us g g.length x) (j : Int) = (a : Int) := by rw [rd_get _ j hjl]; exact ha
    have hE : E g a x := us_mem.1 (ha ▸ List.getElem_mem hjl)
    have hnot : ¬ (a : Int) ∈ (us g g.length x).take j := by rw [← ha]; exact take_not hgood.inc hjl
    have hc : cnt g O a = cnt g (O ++ [(x : Int)]) a + 1 := filt_less O x hxO _ (hv.ok a hal).inc hE.2
    have hcl : cnt g O a ≤ 24 := Nat.le_trans (List.length_filter_le _ _) (hv.len hal)
    have hset : (tl g.length fun b => if (b : Int) ∈ (us g g.length x).take j then (cnt g (O ++ [(x : Int)]) b : Int) else (cnt g O b : Int)).set a (cnt g (O ++ [(x : Int)]) a : Int) = tl g.length fun b => if (b : Int) ∈ (us g g.length x).take (j + 1) then (cnt g (O ++ [(x : Int)]) b : Int) else (cnt g O b : Int) := by
      rw [tl_set]
      refine tl_congr fun b _ => ?_
      by_cases e : b = a
      · subst e
        rw [if_pos rfl, if_pos ((take_mem hgood.inc hjl _).2 (.inr ha.symm))]
      · rw [if_neg e]
        have : (b : Int) ∈ (us g g.length x).take (j + 1) ↔ (b : Int) ∈ (us g g.length x).take j := by
          rw [take_mem hgood.inc hjl, ha]
          exact ⟨fun h => h.resolve_right (by omega), .inl⟩
        simp only [this]
    have hm : rd (tl g.length fun b => if (b : Int) ∈ (us g g.length x).take j then (cnt g (O ++ [(x : Int)]) b : Int) else (cnt g O b : Int)) (a : Int) = (cnt g O a : Int) := by
      rw [tl_rd _ _ a hal, if_neg hnot]
    have hw : wrap64 ((cnt g O a : Int) - 1) = (cnt g (O ++ [(x : Int)]) a : Int) := by rw [wrap_lt (by omega) (by omega)]; omega
    have hm2 : rd (tl g.length fun b => if (b : Int) ∈ (us g g.length x).take (j + 1) then (cnt g (O ++ [(x : Int)]) b : Int) else (cnt g O b : Int)) (a : Int) = (cnt g (O ++ [(x : Int)]) a : Int) := by
      rw [tl_rd _ _ a hal, if_pos ((take_mem hgood.inc hjl _).2 (.inr ha.symm))]
    have htk : ((us g g.length x).take (j + 1)).filter (fun y => decide (cnt g (O ++ [(x : Int)]) y.toNat = 0)) = ((us g g.length x).take j).filter (fun y => decide (cnt g (O ++ [(x : Int)]) y.toNat = 0)) ++ if cnt g (O ++ [(x : Int)]) a = 0 then [(a : Int)] else [] := by
      rw [← List.take_append_getElem hjl, List.filter_append, ha]
      congr 1
      by_cases h : cnt g (O ++ [(x : Int)]) a = 0
      · simp [h]
      · simp [h]
    refine Ev.of_succ ?_
    simp only [depgraph_Order.l3, hrow, show (j : Int) < ((us g g.length x).length : Int) from by omega, show (0 : Int) ≤ (j : Int) from by omega, hrd, show (0 : Int) ≤ (a : Int) from by omega, tl_length, show (a : Int) < (g.length : Int) from by omega, hm, hw, Int.toNat_natCast, hset, hm2, ↓reduceIte, wrap_up j (by omega)]
    by_cases h : cnt g (O ++ [(x : Int)]) a = 0
    · simp only [show ((cnt g (O ++ [(x : Int)]) a : Int) = 0) = True from eq_true (by omega), ↓reduceIte]
      obtain ⟨p', h1, h2, h3⟩ := hpush_ev n (by omega) p (a : Int) hp
      refine Ev.bind h1 (ih (j + 1) (n + 1) p' (by omega) (by omega) h2 ?_)
      rw [htk, if_pos h, ← List.append_assoc]
      exact h3.trans ((hpm.cons _).trans (List.perm_append_comm (l₁ := [(a : Int)])))
    · simp only [show ((cnt g (O ++ [(x : Int)]) a : Int) = 0) = False from eq_false (by omega), ↓reduceIte]
      refine ih (j + 1) n p (by omega) (by omega) hp ?_
      rw [htk, if_neg h, List.append_nil]
      exact hpm
theorem fl_nodup (N : Nat) (p : Nat → Bool) : (fl N p).Nodup := List.Pairwise.imp (fun h => Int.ne_of_lt h) (fl_good N p).inc
theorem ord_l2 {g : List (List Int)} (hv : Val g) (hac : ∀ i, i < g.length → ¬ Rch g i i) : ∀ (d : Nat) (O : List Int) (n : Nat) (p : Nat → Int), g.length - O.length = d → Grd g O → n ≤ 200 → Hp n p → (tl n p).Perm (fl g.length (rdy g O)) →
    ∃ P, Grd g P ∧ P.length = g.length ∧ Ev (fun k => depgraph_Order.l2 k (tl g.length fun a => (cnt g O a : Int)) (tl g.length (us g g.length)) (tl n p) O) (P, 0, 0) := by
  have hle := hv.le
  intro d
  induction d using Nat.strongRecOn with
  | _ d ih =>
    intro O n p hd hO hn hp hpm
    have hOl := nodup_le g.length O hO.nodup hO.rng
    cases n with
    | zero =>
      have hfull : O.length = g.length := by
        apply Classical.byContradiction
        intro hne
        obtain ⟨a, ha, hna⟩ := not_full (g := g) (O := O) (by omega)
        obtain ⟨x, hx, hav⟩ := av_ex hv hac ha (show dn O a = false from by unfold dn; exact decide_eq_false hna)
        have hm : (x : Int) ∈ fl g.length (rdy g O) := (fl_mem _ _ _).2 ⟨hx, (rdy_av hv hx).2 hav⟩
        have := hpm.mem_iff.2 hm
        simp [tl] at this
      refine ⟨O, hO, hfull, Ev.of_succ ?_⟩
      simp only [depgraph_Order.l2, tl_length, show ¬ (0 : Int) < ((0 : Nat) : Int) from by omega, ↓reduceIte]
      exact Ev.const _
    | succ n =>
      obtain ⟨p', h1, h2, h3⟩ := hpop_ev n (by omega) p hp
      have hmem : p 0 ∈ fl g.length (rdy g O) := (h3.trans hpm).mem_iff.1 (by simp)
      have hr := fl_mem' _ _ _ hmem
      obtain ⟨x, hx⟩ : ∃ x : Nat, p 0 = (x : Int) := ⟨(p 0).toNat, by omega⟩
      rw [hx] at hmem hr h3 h1
      have hxl : x < g.length := by omega
      have hxr := ((fl_mem _ _ _).1 hmem).2
      have hav := (rdy_av hv hxl).1 hxr
      have hxO : ¬ (x : Int) ∈ O := of_decide_eq_false hav.1
      have hnx : Nx g O x := ⟨hxl, hav, fun y hy hya => by
        have hm : (y : Int) ∈ fl g.length (rdy g O) := (fl_mem _ _ _).2 ⟨hy, (rdy_av hv hy).2 hya⟩
        have h4 := hpm.mem_iff.2 hm
        unfold tl at h4
        obtain ⟨c, hc, e⟩ := List.mem_map.1 h4
        have := hp.least c (List.mem_range.1 hc)
        omega⟩
      have hperm := h3.trans hpm
      have hnd : ((x : Int) :: tl n p').Nodup := hperm.nodup_iff.2 (fl_nodup _ _)
      have hnd' := List.nodup_cons.1 hnd
      have hbm : ∀ y : Int, y ∈ tl n p' ↔ y ∈ fl g.length (rdy g O) ∧ y ≠ x := fun y => by
        rw [← hperm.mem_iff]
        constructor
        · intro h
          exact ⟨by simp [h], fun e => hnd'.1 (e ▸ h)⟩
        · rintro ⟨h, hne⟩
          exact (List.mem_cons.1 h).resolve_left hne
      have hO' : Grd g (O ++ [(x : Int)]) := .snoc hO hnx
      have key : ∀ (m : Nat) (q : Nat → Int), (tl m q).Perm (tl n p' ++ (us g g.length x).filter (fun y => decide (cnt g (O ++ [(x : Int)]) y.toNat = 0))) → (tl m q).Perm (fl g.length (rdy g (O ++ [(x : Int)]))) := fun m q h => by
        refine h.trans ((List.perm_ext_iff_of_nodup ?_ (fl_nodup _ _)).2 fun y => ?_)
        · rw [List.Nodup, List.pairwise_append]
          refine ⟨hnd'.2, List.Pairwise.filter _ (fl_nodup _ _), fun a ha b hb hab => ?_⟩
          subst hab
          have h5 := ((hbm a).1 ha).1
          have hra := fl_mem' _ _ _ h5
          obtain ⟨z, rfl⟩ : ∃ z : Nat, a = (z : Int) := ⟨a.toNat, by omega⟩
          have h6 := (rdy_av hv (by omega)).1 ((fl_mem _ _ _).1 h5).2
          have h7 := us_mem.1 (List.mem_filter.1 hb).1
          exact hxO (of_decide_eq_true (h6.2 x h7))
        · rw [List.mem_append, hbm, List.mem_filter]
          constructor
          · rintro (⟨h5, hne⟩ | ⟨h5, h6⟩)
            · have hra := fl_mem' _ _ _ h5
              obtain ⟨z, rfl⟩ : ∃ z : Nat, y = (z : Int) := ⟨y.toNat, by omega⟩
              refine (fl_mem _ _ _).2 ⟨by omega, (rdy_av hv (by omega)).2 ?_⟩
              have h8 := (rdy_av hv (by omega)).1 ((fl_mem _ _ _).1 h5).2
              refine ⟨?_, fun m he => ?_⟩
              · unfold dn
                refine decide_eq_false fun h9 => ?_
                rcases List.mem_append.1 h9 with h9 | h9
                · exact of_decide_eq_false h8.1 h9
                · exact hne (List.mem_singleton.1 h9)
              · have := of_decide_eq_true (h8.2 m he)
                unfold dn
                exact decide_eq_true (List.mem_append.2 (.inl this))
            · have hra := fl_mem' _ _ _ h5
              obtain ⟨z, rfl⟩ : ∃ z : Nat, y = (z : Int) := ⟨y.toNat, by omega⟩
              have hE := us_mem.1 h5
              rw [decide_eq_true_iff, Int.toNat_natCast] at h6
              refine (fl_mem _ _ _).2 ⟨by omega, ?_⟩
              unfold rdy
              rw [Bool.and_eq_true, decide_eq_true_iff]
              refine ⟨?_, h6⟩
              rw [Bool.not_eq_true', decide_eq_false_iff_not]
              intro h9
              rcases List.mem_append.1 h9 with h9 | h9
              · exact hxO (hO.deps z x h9 hE)
              · have := List.mem_singleton.1 h9
                obtain rfl : z = x := by omega
                exact hac _ hxl (Rch.one hE)
          · intro h5
            have hra := fl_mem' _ _ _ h5
            obtain ⟨z, rfl⟩ : ∃ z : Nat, y = (z : Int) := ⟨y.toNat, by omega⟩
            have h6 := ((fl_mem _ _ _).1 h5).2
            unfold rdy at h6
            rw [Bool.and_eq_true, decide_eq_true_iff, Bool.not_eq_true', decide_eq_false_iff_not] at h6
            by_cases hE : (x : Int) ∈ adj g z
            · right
              exact ⟨us_mem.2 ⟨by omega, hE⟩, by rw [decide_eq_true_iff, Int.toNat_natCast]; exact h6.2⟩
            · left
              refine ⟨(fl_mem _ _ _).2 ⟨by omega, ?_⟩, fun e => h6.1 (by rw [e]; simp)⟩
              unfold rdy
              rw [Bool.and_eq_true, decide_eq_true_iff, Bool.not_eq_true', decide_eq_false_iff_not]
              refine ⟨fun h9 => h6.1 (by simp [h9]), ?_⟩
              have h10 := h6.2
              unfold cnt at h10 ⊢
              rw [filt_same O x _ hE] at h10
              exact h10
      have hnb : n ≤ 24 := by
        have h5 := hperm.length_eq
        have h6 := fl_len g.length (rdy g O)
        rw [List.length_cons, tl_length] at h5
        omega
      have hOl' := nodup_le g.length _ hO'.nodup hO'.rng
      rw [List.length_append, List.length_singleton] at hOl'
      have hP : ∃ P, Grd g P ∧ P.length = g.length ∧ ∀ (m : Nat) (q : Nat → Int), m ≤ 200 → Hp m q → (tl m q).Perm (tl n p' ++ (us g g.length x).filter (fun y => decide (cnt g (O ++ [(x : Int)]) y.toNat = 0))) → Ev (fun k => depgraph_Order.l2 k (tl g.length fun a => (cnt g (O ++ [(x : Int)]) a : Int)) (tl g.length (us g g.length)) (tl m q) (O ++ [(x : Int)])) (P, 0, 0) := by
        obtain ⟨P, t1, t2, _⟩ := Topological_ev hv hac
        refine ⟨P, t1, t2, fun m q hm hq hpq => ?_⟩
        obtain ⟨P', u1, u2, u3⟩ := ih (g.length - (O ++ [(x : Int)]).length) (by rw [List.length_append, List.length_singleton]; omega) (O ++ [(x : Int)]) m q rfl hO' hm hq (key m q hpq)
        rw [t1.uniq u1 (by omega)]
        exact u3
      obtain ⟨P, t1, t2, t3⟩ := hP
      refine ⟨P, t1, t2, Ev.of_succ ?_⟩
      simp only [depgraph_Order.l2, tl_length, show (0 : Int) < ((n + 1 : Nat) : Int) from by omega, ↓reduceIte]
      refine Ev.bind h1 ?_
      simp only [show O.length < 17592186044416 from by omega, show (0 : Int) ≤ (x : Int) from by omega, tl_length, show (x : Int) < (g.length : Int) from by omega, ↓reduceIte]
      have h6 := ord_l3 hv hxO (tl n p') (by rw [tl_length]; omega) (P, 0, 0) hxl t3 _ 0 n p' rfl (by omega) h2 (by simp)
      simpa using h6
theorem acyclic_ev {g : List (List Int)} (hl : ∀ l ∈ g, l.length ≤ 9223372036854775807) : ((gf g).1 ≠ 0 ∧ Ev (fun k => depgraph_acyclic.f k g) (gf g)) ∨ ((gf g).1 = 0 ∧ ∃ r, Fst g r ∧ Ev (fun k => depgraph_acyclic.f k g) (if r ≥ 0 then (20, r) else (0, 0))) := by
  by_cases h0 : (gf g).1 = 0
  · right
    obtain ⟨h1, hv⟩ := gf_val h0
    obtain ⟨r, hr, hf⟩ := first_ev hv
    refine ⟨h0, r, hf, ?_⟩
    simp only [depgraph_acyclic.f]
    refine Ev.bind (Validate_ev g hl) ?_
    rw [h1]
    simp only [beq_self_eq_true, Bool.not_true, Bool.or_self, Bool.false_eq_true, ↓reduceIte]
    refine Ev.bind hr ?_
    by_cases h2 : r ≥ 0
    · simp only [h2, ↓reduceIte]
      exact Ev.const _
    · simp only [h2, ↓reduceIte]
      exact Ev.const _
  · left
    refine ⟨h0, ?_⟩
    simp only [depgraph_acyclic.f]
    refine Ev.bind (Validate_ev g hl) ?_
    simp only [show (!((gf g).1 == 0) || !((gf g).2 == 0)) = true from by simp [h0], ↓reduceIte]
    exact Ev.const _
/-- What Order comes to: a fault, a cycle's least node, or the full greedy order. -/
theorem Order_ev {g : List (List Int)} (hl : ∀ l ∈ g, l.length ≤ 9223372036854775807) : ((gf g).1 ≠ 0 ∧ Ev (fun k => depgraph_Order.f k g) ([], (gf g).1, (gf g).2)) ∨ ((gf g).1 = 0 ∧ ∃ s : Nat, Fst g (s : Int) ∧ Ev (fun k => depgraph_Order.f k g) ([], 20, (s : Int))) ∨ ((gf g).1 = 0 ∧ Fst g (-1) ∧ ∃ P, Grd g P ∧ P.length = g.length ∧ Ev (fun k => depgraph_Order.f k g) (P, 0, 0)) := by
  rcases acyclic_ev hl with ⟨h0, ha⟩ | ⟨h0, r, hf, ha⟩
  · refine .inl ⟨h0, ?_⟩
    simp only [depgraph_Order.f]
    refine Ev.bind ha ?_
    simp only [show (!((gf g).1 == 0) || !((gf g).2 == 0)) = true from by simp [h0], ↓reduceIte]
    exact Ev.const _
  · right
    obtain ⟨h1, hv⟩ := gf_val h0
    have hle := hv.le
    by_cases hr : r ≥ 0
    · rw [if_pos hr] at ha
      obtain ⟨s, rfl⟩ : ∃ s : Nat, r = (s : Int) := ⟨r.toNat, by omega⟩
      refine .inl ⟨h0, s, hf, ?_⟩
      simp only [depgraph_Order.f]
      refine Ev.bind ha ?_
      simp only [show (!((20 : Int) == 0) || !((s : Int) == 0)) = true from by simp, ↓reduceIte]
      exact Ev.const _
    · rw [if_neg hr] at ha
      have hf1 : r = -1 := by
        rcases hf with ⟨h, _⟩ | ⟨i, _, h, _⟩
        · exact h
        · omega
      subst hf1
      have hac : ∀ i, i < g.length → ¬ Rch g i i := by
        rcases hf with ⟨_, h⟩ | ⟨i, _, h, _⟩
        · exact h
        · omega
      refine .inr ⟨h0, hf, ?_⟩
      obtain ⟨P, t1, t2, _⟩ := Topological_ev hv hac
      refine ⟨P, t1, t2, ?_⟩
      simp only [depgraph_Order.f]
      refine Ev.bind ha ?_
      simp only [beq_self_eq_true, Bool.not_true, Bool.or_self, Bool.false_eq_true, ↓reduceIte, show g.length ≤ 1000000 from by omega]
      have hz : ∀ a, a < g.length → zr g a = rdy g [] a := fun a ha => by
        unfold zr rdy cnt
        rw [Bool.eq_iff_iff, Bool.and_eq_true]
        simp only [List.not_mem_nil, decide_false, Bool.not_false, true_and, decide_eq_true_iff]
        rw [List.filter_eq_self.2 (by simp)]
      have hst := ord_l0 hv (P, 0, 0) (fun n p hn hp hpm => by
        rw [fl_congr hz] at hpm
        obtain ⟨P', u1, u2, u3⟩ := ord_l2 hv hac _ [] n p rfl .nil (by omega) hp hpm
        rw [t1.uniq u1 (by omega)]
        have em : tl g.length (ms g g.length) = tl g.length fun a => (cnt g [] a : Int) := tl_congr fun a ha => by
          unfold ms cnt
          rw [if_pos ha]
          congr 1
          rw [List.filter_eq_self.2 (by simp)]
        rw [em]
        exact u3) _ 0 0 (fun _ => 0) rfl (by omega) (by omega) (fun c _ h => by omega) (by simp [tl, fl])
      have e1 : List.replicate g.length (0 : Int) = tl g.length (ms g 0) := by
        rw [tl_const]
        exact tl_congr fun a _ => by simp [ms]
      have e2 : List.replicate g.length ([] : List Int) = tl g.length (us g 0) := by
        rw [tl_const]
        exact tl_congr fun a _ => by simp [us, fl]
      rw [e1, e2]
      exact hst
end Go.Proofs.Ytffcaglfcnmhdaa.H
end
section
namespace Go.Proofs.Ytffcaglfcnmhdaa.H
open Go.RowKit Go.Proofs.YtffcaglfcnmhdaaW.PrintWords Go.Proofs.YtffcaglfcnmhdaaW.PrintLast Go.Proofs.YtffcaglfcnmhdaaW.PrintMore
set_option linter.unusedVariables false
set_option linter.unusedSimpArgs false
open Go.RowKit
theorem position_ev {l : List Int} (hl : l.length ≤ 9223372036854775807) (hn : ∀ i j, i < l.length → j < l.length → rd l (i : Int) = rd l (j : Int) → i = j) {i : Nat} (hi : i < l.length) : Ev (fun k => changeforgelaw6_position.f k l (rd l (i : Int))) (i : Int) := by
  have loop : ∀ d j, i - j = d → j ≤ i → Ev (fun k => changeforgelaw6_position.l0 k l (rd l (i : Int)) (j : Int)) (i : Int) := by
    intro d
    induction d with
    | zero =>
      intro j hd hj
      obtain rfl : j = i := by omega
      refine Ev.of_succ ?_
      simp only [changeforgelaw6_position.l0, show (j : Int) < (l.length : Int) from by omega, show (0 : Int) ≤ (j : Int) from by omega, ↓reduceIte]
      exact Ev.const _
    | succ d ih =>
      intro j hd hj
      refine Ev.of_succ ?_
      simp only [changeforgelaw6_position.l0, show (j : Int) < (l.length : Int) from by omega, show (0 : Int) ≤ (j : Int) from by omega, show (rd l (j : Int) = rd l (i : Int)) = False from eq_false (fun e => by have := hn j i (by omega) hi e; omega), ↓reduceIte, wrap_up j (by omega)]
      exact ih (j + 1) (by omega) (by omega)
  exact loop _ 0 rfl (by omega)
end Go.Proofs.Ytffcaglfcnmhdaa.H
end
section
namespace Go.Proofs.Ytffcaglfcnmhdaa.H
open Go.RowKit Go.Proofs.YtffcaglfcnmhdaaW.PrintWords Go.Proofs.YtffcaglfcnmhdaaW.PrintLast Go.Proofs.YtffcaglfcnmhdaaW.PrintMore
set_option linter.unusedVariables false
set_option linter.unusedSimpArgs false
open Go.RowKit
theorem graphs_run : changeforgelaw6_graphs.f 60 = some true := by kernel_rfl
theorem graphs_ev : Ev (fun k => changeforgelaw6_graphs.f k) true := Ev.of_mono (fun k => changeforgelaw6_graphs.mono k) graphs_run
end Go.Proofs.Ytffcaglfcnmhdaa.H
end
section
namespace Go.Proofs.Ytffcaglfcnmhdaa.H
open Go.RowKit Go.Proofs.YtffcaglfcnmhdaaW.PrintWords Go.Proofs.YtffcaglfcnmhdaaW.PrintLast Go.Proofs.YtffcaglfcnmhdaaW.PrintMore
set_option linter.unusedVariables false
set_option linter.unusedSimpArgs false
open Go.RowKit
/-- What is said of the way t from v home to s. -/
theorem Chn.facts {g : List (List Int)} {s : Nat} : ∀ (t : List Int) (L v : Nat), Chn g s L v t → Hit g L v s → t.length + 1 = L ∧ ∀ i, i < (((v : Int) :: t)).length → ∃ m : Nat, rd ((v : Int) :: t) (i : Int) = (m : Int) ∧ Hit g (L - i) m s ∧ (1 ≤ i → m ≠ s ∧ Rch g v m) ∧ (i + 1 < ((v : Int) :: t).length → ∃ n : Nat, rd ((v : Int) :: t) ((i + 1 : Nat) : Int) = (n : Int) ∧ E g m n) ∧ (i + 1 = ((v : Int) :: t).length → E g m s)
  | [], L, v, h, hh => by
    have hL : L = 1 := h
    subst hL
    refine ⟨rfl, fun i hi => ?_⟩
    obtain rfl : i = 0 := by simp at hi; omega
    refine ⟨v, rfl, hh, fun h => by omega, fun h => by simp at h, fun _ => ?_⟩
    obtain ⟨m, he, hm⟩ := hh.2.1
    cases hm
    exact he
  | x :: t, L, v, ⟨h2, m, hx, hn, hc⟩, hh => by
    subst hx
    obtain ⟨hl, hf⟩ := Chn.facts t (L - 1) m hc hn.2.2.1
    refine ⟨by rw [List.length_cons]; omega, fun i hi => ?_⟩
    cases i with
    | zero =>
      exact ⟨v, rfl, hh, fun h => by omega, fun _ => ⟨m, rfl, hn.1⟩, fun h => by simp at h⟩
    | succ i =>
      obtain ⟨k, h3, h4, h5, h6, h7⟩ := hf i (by simpa using hi)
      have e : ∀ j : Nat, rd ((v : Int) :: (m : Int) :: t) ((j + 1 : Nat) : Int) = rd ((m : Int) :: t) (j : Int) := fun j => by simp [rd]
      refine ⟨k, by rw [e]; exact h3, by rw [show L - (i + 1) = L - 1 - i from by omega]; exact h4, fun _ => ?_, fun h => ?_, fun h => ?_⟩
      · by_cases hi0 : i = 0
        · subst hi0
          have : k = m := by have h8 : rd ((m : Int) :: t) ((0 : Nat) : Int) = (m : Int) := rfl; omega
          subst this
          exact ⟨hn.2.1, Rch.one hn.1⟩
        · have := h5 (by omega)
          exact ⟨this.1, (Rch.one hn.1).trans this.2⟩
      · rw [e]
        exact h6 (by simp at h ⊢; omega)
      · exact h7 (by simp at h ⊢; omega)
set_option maxHeartbeats 4000000 in
theorem pf_DepgraphCyclesExplainFailures : changeforgelaw6_DepgraphCyclesExplainFailures.Pure := by
  intro g hg _
  refine Ev.run ?_
  have hgl : ∀ x ∈ g, x.length ≤ 9223372036854775807 := fun x hx => (hg.2 x hx).1
  simp only [changeforgelaw6_DepgraphCyclesExplainFailures.f]
  rcases Order_ev hgl with ⟨h0, ho⟩ | ⟨h0, s, hf, ho⟩ | ⟨h0, hf, P, _, _, ho⟩
  · refine Ev.bind ho (Ev.bind (Cycle_bad hgl h0) (Ev.bind graphs_ev ?_))
    simp only [↓reduceIte, show ((gf g).1 != 0) = true from by simp [h0]]
    refine Ev.of_succ ?_
    simp only [changeforgelaw6_DepgraphCyclesExplainFailures.j0, ↓reduceIte]
    refine Ev.bind graphs_ev ?_
    simp only [↓reduceIte, Bool.false_eq_true, List.length_nil, show (((0 : Nat) : Int) = 0) = True from by simp, beq_self_eq_true, Bool.and_self]
    exact Ev.const _
  · obtain ⟨h1, hv⟩ := gf_val h0
    have hle := hv.le
    rcases Cycle_ev hgl h0 with ⟨hn, hc⟩ | ⟨s', L, t, hs, hmin, hL, ht, hc⟩
    · have := hf.uniq (.inl ⟨rfl, hn⟩); omega
    · obtain rfl : s = s' := by have := hf.uniq (.inr ⟨s', hs, rfl, hL.rch, hmin⟩); omega
      have hLl := hL.le hv
      obtain ⟨hl, hfa⟩ := Chn.facts t L s ht hL
      refine Ev.bind ho (Ev.bind hc (Ev.bind graphs_ev ?_))
      simp only [↓reduceIte, show ((0 : Int) != 0) = false from rfl]
      generalize hP : ((s : Int) :: t) = P at hfa
      have hPl : P.length = L := by rw [← hP, List.length_cons]; exact hl
      have hP0 : rd P 0 = (s : Int) := by rw [← hP]; rfl
      refine Ev.of_succ ?_
      simp only [changeforgelaw6_DepgraphCyclesExplainFailures.j0, Bool.false_eq_true, ↓reduceIte, show ((P.length : Int) = 0) = False from eq_false (by have := hL.1; omega), show (0 : Int) < (P.length : Int) from by have := hL.1; omega, changeforgelaw6_fault.f, Option.bind_some, hP0, beq_self_eq_true, Bool.not_true, Bool.or_self]
      refine Ev.of_succ ?_
      simp only [changeforgelaw6_DepgraphCyclesExplainFailures.j1, Bool.false_eq_true, ↓reduceIte]
      have hnd : ∀ i j, i < P.length → j < P.length → rd P (i : Int) = rd P (j : Int) → i = j := fun i j hi hj e => by
        obtain ⟨m, h3, h4, _⟩ := hfa i hi
        obtain ⟨n, h5, h6, _⟩ := hfa j hj
        obtain rfl : m = n := by omega
        have := h4.uniq h6
        omega
      have loop : ∀ d i, P.length - i = d → i ≤ P.length → Ev (fun k => changeforgelaw6_DepgraphCyclesExplainFailures.l0 k g P (i : Int)) true := by
        intro d
        induction d with
        | zero =>
          intro i hd hi
          refine Ev.of_succ ?_
          simp only [changeforgelaw6_DepgraphCyclesExplainFailures.l0, show ¬ (i : Int) < (P.length : Int) from by omega, ↓reduceIte]
          exact Ev.const _
        | succ d ih =>
          intro i hd hi
          have hil : i < P.length := by omega
          have hd2 : P.length - (i + 1) = d := by omega
          obtain ⟨m, h3, h4, h5, h6, h7⟩ := hfa i hil
          have hml := (h4.rch.lt hv).1
          have hms : s ≤ m := by
            by_cases hi0 : i = 0
            · subst hi0
              have : rd P ((0 : Nat) : Int) = (s : Int) := hP0
              omega
            · have hr : Rch g m m := h4.rch.trans (h5 (by omega)).2
              apply Classical.byContradiction
              exact fun hlt => hmin m (by omega) hr
          refine Ev.of_succ ?_
          simp only [changeforgelaw6_DepgraphCyclesExplainFailures.l0, show (i : Int) < (P.length : Int) from by omega, show (0 : Int) ≤ (i : Int) from by omega, h3, changeforgelaw6_in.f, show (m : Int) ≥ 0 from by omega, wrap_lt (show -9223372036854775808 ≤ (g.length : Int) - 1 from by omega) (by omega), show (m : Int) ≤ (g.length : Int) - 1 from by omega, decide_true, Option.bind_some, ↓reduceIte]
          rw [← h3]
          refine Ev.bind (position_ev (by omega) hnd hil) ?_
          simp only [h3, show (0 : Int) < (P.length : Int) from by omega, hP0, show decide ((m : Int) < (s : Int)) = false from decide_eq_false (by omega), ↓reduceIte]
          refine Ev.of_succ ?_
          have hnext : ∃ z n : Nat, z < P.length ∧ Int.tmod (wrap64 ((i : Int) + 1)) (P.length : Int) = (z : Int) ∧ rd P (z : Int) = (n : Int) ∧ E g m n := by
            rw [wrap_up i (by omega), Int.tmod_eq_emod_of_nonneg (by omega)]
            by_cases e : i + 1 = P.length
            · exact ⟨0, s, by omega, by rw [e]; simp, hP0, h7 e⟩
            · obtain ⟨n, h8, h9⟩ := h6 (by omega)
              exact ⟨i + 1, n, by omega, Int.emod_eq_of_lt (by omega) (by omega), h8, h9⟩
          obtain ⟨z, n, hb, hmod, h8, h9⟩ := hnext
          have hal := hv.len hml
          have f1 : (0 : Int) ≤ (i : Int) := Int.natCast_nonneg i
          have f2 : (i : Int) < (P.length : Int) := Int.ofNat_lt.2 hil
          have f3 : (0 : Int) ≤ (m : Int) := Int.natCast_nonneg m
          have f4 : (m : Int) < (g.length : Int) := Int.ofNat_lt.2 hml
          have f5 : ((P.length : Int) = 0) = False := eq_false (by clear hmod; omega)
          have f6 : (adj g m).length ≤ 9223372036854775807 := by clear hmod; omega
          have f7 := wrap_up i (by clear hmod; omega)
          simp only [changeforgelaw6_DepgraphCyclesExplainFailures.j3, Bool.false_eq_true, ↓reduceIte, f1, f2, h3, f3, f4, f5, hmod, show (0 : Int) ≤ (z : Int) from Int.natCast_nonneg z, show (z : Int) < (P.length : Int) from Int.ofNat_lt.2 hb, h8]
          refine Ev.bind (Has_ev (adj g m) f6 (n : Int)) ?_
          simp only [show (n : Int) ∈ adj g m from h9.2, decide_true, ↓reduceIte, f7]
          exact ih (i + 1) hd2 hil
      exact loop _ 0 rfl (by omega)
  · rcases Cycle_ev hgl h0 with ⟨hn, hc⟩ | ⟨s', L, t, hs, hmin, hL, ht, hc⟩
    · refine Ev.bind ho (Ev.bind hc (Ev.bind graphs_ev ?_))
      simp only [↓reduceIte, show ((0 : Int) != 0) = false from rfl]
      refine Ev.of_succ ?_
      simp only [changeforgelaw6_DepgraphCyclesExplainFailures.j0, Bool.false_eq_true, ↓reduceIte, List.length_nil]
      exact (Ev.const _).cast (by simp)
    · have := hf.uniq (.inr ⟨s', hs, rfl, hL.rch, hmin⟩); omega
end Go.Proofs.Ytffcaglfcnmhdaa.H
end
