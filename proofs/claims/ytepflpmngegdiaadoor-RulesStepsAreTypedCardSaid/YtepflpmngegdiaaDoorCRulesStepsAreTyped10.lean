/- Texts that the law RulesStepsAreTyped comes to, printed and by hand, what is not used left out. -/
import Derived.Test.YtepflpmngegdiaaDoorCRulesStepsAreTyped9
import Derived.SizedLaws
section
namespace Go.Proofs.YtepflpmngegdiaaDoor.H
open Go.RowKit Go.Proofs.YtepflpmngegdiaaDoorW.PrintWords Go.Proofs.YtepflpmngegdiaaDoorW.PrintLast Go.Proofs.YtepflpmngegdiaaDoorW.PrintMore
set_option linter.unusedVariables false
set_option linter.unusedSimpArgs false
open Go.Deep
/-- What reads as data at type t has d's shape; F is what is then known of the value. -/
structure Opens {α : Type} (P : Program) (d : Kd α) (F : α → Prop) (t : TypeId) : Prop where
  size : P.cellsOf t = d.sz
  get : ∀ {H : Type} {enc : TypeId × Value → H} {w : World} {base : Nat} {spare : Nat → Bool} {held : Bool} {fuel : Nat} {cs : List Value} {x : DataW H × List MemPlace},
    DataW.trod enc P w base spare held fuel t cs = some x → ∃ v : α, d.K w v cs ∧ F v
theorem opens_int {P : Program} {t : TypeId} {k : IntKind} (hu : P.underlying t = some (.int k)) (hc : P.cellsOf t = 1) : Opens P (Kd.int k) (fun n => (Lit.int k n).wf = true) t :=
  ⟨hc, fun h => by
    obtain ⟨n, rfl, _, hw⟩ := DataW.trod_int hu h
    exact ⟨n, rfl, hw⟩⟩
theorem list_of {α : Type} (Q : Nat → α → Prop) : ∀ n : Nat, (∀ i, i < n → ∃ v, Q i v) → ∃ l : List α, l.length = n ∧ ∀ i v, l[i]? = some v → Q i v
  | 0, _ => ⟨[], rfl, fun i v h => by simp at h⟩
  | n + 1, h => by
    obtain ⟨l, hl, hq⟩ := list_of Q n (fun i hi => h i (by omega))
    obtain ⟨v, hv⟩ := h n (by omega)
    refine ⟨l ++ [v], by simp [hl], fun i u hu => ?_⟩
    rcases Nat.lt_or_ge i l.length with hi | hi
    · rw [List.getElem?_append_left hi] at hu
      exact hq i u hu
    · have hi' : i = n := by
        have := (List.getElem?_eq_some_iff.1 hu).1
        simp at this
        omega
      subst hi'
      have : v = u := by simpa [hl] using hu
      subst this
      exact hv
theorem opens_slice {α : Type} {P : Program} {d : Kd α} {F : α → Prop} {t e : TypeId} (hd : Opens P d F e) (hu : P.underlying t = some (.slice e)) (hc : P.cellsOf t = 1) :
    Opens P (Kd.slice e d) (fun l => l.length ≤ 9223372036854775807 ∧ ∀ x ∈ l, F x) t :=
  ⟨hc, fun {H enc w base spare held fuel cs x} h => by
    rcases open_slice hu h with ⟨rfl, _⟩ | ⟨a, len, cap, m, n, D, Pl, rfl, _, hl, hm, hmm, _, hx⟩
    · exact ⟨[], ⟨none, 0, rfl, Nat.le_refl _, Kd.C_nil _ _⟩, by simp⟩
    · unfold maxLen at hm
      have hlm : len ≤ m := by rw [hmm]; split <;> omega
      obtain ⟨l, hll, hq⟩ := list_of (fun i v => ∃ c, w.cells? base (a.add (i * P.cellsOf e)) (P.cellsOf e) = some c ∧ d.K w v c ∧ F v) len (fun i hi => by
        obtain ⟨c, h1, h2⟩ := hx i (by omega)
        obtain ⟨v, h3, h4⟩ := hd.get h2
        exact ⟨v, c, h1, h3, h4⟩)
      refine ⟨l, ⟨some a, cap, by rw [hll], by omega, rfl, by omega, fun _ => ⟨a, rfl, fun j p hj => ?_⟩⟩, by omega, fun v hv => ?_⟩
      · obtain ⟨c, h1, h2, _⟩ := hq j p hj
        refine ⟨c, d.K_len h2, h2, fun i u hi => ?_⟩
        have h5 := World.cells?_some h1
        have hlen : c.length = P.cellsOf e := by rw [d.K_len h2, hd.size]
        have hi' : i < P.cellsOf e := by rw [← hlen]; exact (List.getElem?_eq_some_iff.1 hi).1
        have ha : (a.add (j * d.sz + i)) = (a.add (j * P.cellsOf e)).add i := by
          rw [hd.size]
          unfold Addr.add
          by_cases h1 : j * d.sz = 0 <;> by_cases h2 : i = 0 <;> simp [h1, h2, Nat.add_assoc]
        rw [ha]
        obtain ⟨_, h6, h7⟩ := h5
        have h8 := h7 i hi'
        rw [hi] at h8
        exact h8
      · obtain ⟨i, hi⟩ := List.mem_iff_getElem?.1 hv
        obtain ⟨c, _, _, h3⟩ := hq i v hi
        exact h3⟩
/-- The fields from number i on, which lie from off on. -/
structure OpensAt {α : Type} (P : Program) (fs : Array Field) (i off : Nat) (d : Kd α) (F : α → Prop) : Prop where
  get : ∀ {H : Type} {enc : TypeId × Value → H} {w : World} {base : Nat} {spare : Nat → Bool} {held : Bool} {fuel : Nat} {cs : List Value} {xs : List (DataW H × List MemPlace)},
    xs.length = fs.size → (∀ (i : Nat) (f : Field), fs[i]? = some f → DataW.trod enc P w base spare held fuel f.type ((cs.drop f.offset).take (P.cellsOf f.type)) = xs[i]?) →
    ∃ v : α, d.K w v ((cs.drop off).take d.sz) ∧ F v
theorem opensAt_one {α : Type} {P : Program} {fs : Array Field} {i off : Nat} {d : Kd α} {F : α → Prop} (f : Field) (hf : fs[i]? = some f) (ho : f.offset = off) (hd : Opens P d F f.type) : OpensAt P fs i off d F := by
  refine ⟨fun {H enc w base spare held fuel cs xs} hlen h => ?_⟩
  have h1 := h i f hf
  have hi : i < xs.length := by rw [hlen]; exact (Array.getElem?_eq_some_iff.1 hf).1
  rw [List.getElem?_eq_getElem hi, ho, hd.size] at h1
  exact hd.get h1
theorem opensAt_cons {α β : Type} {P : Program} {fs : Array Field} {i off : Nat} {a : Kd α} {b : Kd β} {F : α → Prop} {G : β → Prop} (h0 : OpensAt P fs i off a F) (h1 : OpensAt P fs (i + 1) (off + a.sz) b G) : OpensAt P fs i off (Kd.pair a b) (fun x => F x.1 ∧ G x.2) := by
  refine ⟨fun {H enc w base spare held fuel cs xs} hlen h => ?_⟩
  obtain ⟨v0, k0, f0⟩ := h0.get hlen h
  obtain ⟨v1, k1, f1⟩ := h1.get hlen h
  refine ⟨(v0, v1), ⟨_, _, ?_, k0, k1⟩, f0, f1⟩
  show (cs.drop off).take (a.sz + b.sz) = _
  rw [List.take_add, List.drop_drop]
theorem opens_struct {α : Type} {P : Program} {t : TypeId} {fs : Array Field} {d : Kd α} {F : α → Prop} (hu : P.underlying t = some (.struct fs)) (hc : P.cellsOf t = d.sz) (h : OpensAt P fs 0 0 d F) : Opens P d F t :=
  ⟨hc, fun {H enc w base spare held fuel cs x} hx => by
    obtain ⟨xs, n, _, _, hl, hlen, hf⟩ := DataW.trod_struct hu hx
    obtain ⟨v, hk, hF⟩ := h.get hlen hf
    refine ⟨v, ?_, hF⟩
    rw [List.drop_zero, List.take_of_length_le (by rw [hl, hc]; exact Nat.le_refl _)] at hk
    exact hk⟩
theorem opens_iso {α β : Type} {P : Program} {t : TypeId} {d : Kd α} {F : α → Prop} (f : β → α) (g : α → β) (hg : ∀ v, f (g v) = v) (h : Opens P d F t) : Opens P (Kd.iso d f) (fun x => F (f x)) t :=
  ⟨h.size, fun hx => by
    obtain ⟨v, hk, hF⟩ := h.get hx
    refine ⟨g v, ?_, ?_⟩
    · show d.K _ (f (g v)) _
      rw [hg]
      exact hk
    · show F (f (g v))
      rw [hg]
      exact hF⟩
/-- How long a slice that came in may be. -/
theorem sized_any {H : Type} {enc : TypeId × Value → H} {P : Program} {W : World} {base : Nat} {spare : Nat → Bool} {held : Bool} {t e : TypeId} {a : Option Addr} {len cap : Nat} {d : DataW H} {ps : List MemPlace} {ts : List TypeId} {ds : List (DataW H)} {j : Nat}
    (hsz : (DataW.weightsEach P ts ds).all (· ≤ reachBytes) = true) (ht : ts[j]? = some t) (hd : ds[j]? = some d) (hu : P.underlying t = some (.slice e)) {B : Nat} (hB : P.bytesOf e = B)
    (h : DataW.Trod enc P W base spare held t (.slice a len cap) d ps) : len * B ≤ 140737488351232 := by
  obtain ⟨fuel, hf⟩ := h
  rcases open_slice hu hf with ⟨hcs, _⟩ | ⟨a', len', cap', m, n, D, Pl, hcs, _, hl, hm, hmm, hx, _⟩
  · simp [Value.cells] at hcs
    obtain ⟨rfl, rfl, rfl⟩ := hcs
    simp
  · simp [Value.cells] at hcs
    obtain ⟨rfl, rfl, rfl⟩ := hcs
    obtain ⟨hx, _⟩ := Prod.mk.inj hx
    subst hx
    have z := sized_slice hsz ht hd hu
    rw [hB] at z
    simp only [List.length_map, List.length_range] at z
    exact Nat.le_trans (Nat.mul_le_mul_right _ (Nat.le_add_right _ _)) z
def Fit_T33 (x : S33) : Prop := ((Lit.int .i64 x.f0).wf = true) ∧ (x.f1.length ≤ 9223372036854775807 ∧ ∀ x_ ∈ x.f1, (Lit.int .i64 x_).wf = true)
theorem op_T33 : Opens Tryd.prog k33 Fit_T33 33 := by
  have h := opens_iso (fun x : S33 => (x.f0, x.f1)) (fun v => ⟨v.1, v.2⟩) (fun _ => rfl) (opens_struct Tryd.underlying33 (by kernel_rfl) (opensAt_cons (opensAt_one _ rfl rfl (opens_int Tryd.underlying3 (by kernel_rfl))) (opensAt_one _ rfl rfl (opens_slice (opens_int Tryd.underlying3 (by kernel_rfl)) Tryd.underlying29 (by kernel_rfl)))))
  exact ⟨h.size, fun hx => h.get hx⟩
end Go.Proofs.YtepflpmngegdiaaDoor.H
end
section
namespace Go.Proofs.YtepflpmngegdiaaDoor.H
open Go.RowKit Go.Proofs.YtepflpmngegdiaaDoorW.PrintWords Go.Proofs.YtepflpmngegdiaaDoorW.PrintLast Go.Proofs.YtepflpmngegdiaaDoorW.PrintMore
set_option linter.unusedVariables false
set_option linter.unusedSimpArgs false
def changeforgelaw6_RulesStepsAreTyped.Pure : Prop := ∀ (l0 : List (S33)), (l0.length ≤ 9223372036854775807 ∧ ∀ x_ ∈ l0, Fit_T33 x_) → l0.length * 32 ≤ 140737488351232 → ∃ k, changeforgelaw6_RulesStepsAreTyped.f k l0 = some true
end Go.Proofs.YtepflpmngegdiaaDoor.H
end
section
namespace Go.Proofs.YtepflpmngegdiaaDoor.H
open Go.RowKit Go.Proofs.YtepflpmngegdiaaDoorW.PrintWords Go.Proofs.YtepflpmngegdiaaDoorW.PrintLast Go.Proofs.YtepflpmngegdiaaDoorW.PrintMore
set_option linter.unusedVariables false
set_option linter.unusedSimpArgs false
open Go.RowKit
/-- From some number of rounds on the answer is v. -/
def Ev {α : Type} (f : Nat → Option α) (v : α) : Prop := ∃ K, ∀ k, K ≤ k → f k = some v
theorem Ev.const {α : Type} (v : α) : Ev (fun _ => some v) v := ⟨0, fun _ _ => rfl⟩
theorem Ev.of_succ {α : Type} {f : Nat → Option α} {v : α} (h : Ev (fun k => f (k + 1)) v) : Ev f v := by
  obtain ⟨K, h⟩ := h
  exact ⟨K + 1, fun k hk => by obtain ⟨m, rfl⟩ : ∃ m, k = m + 1 := ⟨k - 1, by omega⟩; exact h m (by omega)⟩
theorem Ev.bind {α β : Type} {f : Nat → Option α} {g : Nat → α → Option β} {a : α} {b : β} (h : Ev f a) (h2 : Ev (fun k => g k a) b) : Ev (fun k => (f k).bind (g k)) b := by
  obtain ⟨K, h⟩ := h
  obtain ⟨M, h2⟩ := h2
  exact ⟨K + M, fun k hk => by show (f k).bind (g k) = some b; rw [h k (by omega)]; exact h2 k (by omega)⟩
theorem Ev.cast {α : Type} {f : Nat → Option α} {v v' : α} (h : Ev f v) (e : v = v') : Ev f v' := e ▸ h
theorem Ev.run {α : Type} {f : Nat → Option α} {v : α} (h : Ev f v) : ∃ k, f k = some v := by
  obtain ⟨K, h⟩ := h
  exact ⟨K, h K (Nat.le_refl _)⟩
theorem wrap_lt {x : Int} (h0 : -9223372036854775808 ≤ x) (h1 : x < 9223372036854775808) : wrap64 x = x := by unfold wrap64; omega
theorem wrap_up (i : Nat) (h : i < 9223372036854775807) : wrap64 ((i : Int) + 1) = ((i + 1 : Nat) : Int) := by rw [wrap_lt (by omega) (by omega)]; omega
abbrev BR := S33
abbrev kdR (L : List BR) (i : Nat) : Int := (rd_T33 L (i : Int)).f0
abbrev inp (L : List BR) (i : Nat) : List Int := (rd_T33 L (i : Int)).f1
/-- Every rule below m has earlier rules as inputs. -/
structure Ins (L : List BR) (m : Nat) : Prop where
  len : ∀ i, i < m → (inp L i).length ≤ 8
  lt : ∀ i, i < m → ∀ x ∈ inp L i, 0 ≤ x ∧ x < (i : Int)
theorem Ins.mono {L : List BR} {m n : Nat} (h : Ins L m) (hn : n ≤ m) : Ins L n := ⟨fun i hi => h.len i (by omega), fun i hi => h.lt i (by omega)⟩
/-- Whether k is a leaf of rule i, looked for n deep. -/
def st (L : List BR) : Nat → Nat → Nat → Bool
  | 0, _, _ => false
  | n + 1, i, k => if kdR L i = 6 then (inp L i).any (fun x => st L n x.toNat k) else k == i
def leaf (L : List BR) (i k : Nat) : Bool := st L (i + 1) i k
theorem any_congr' {α : Type} {l : List α} {p q : α → Bool} (h : ∀ x ∈ l, p x = q x) : l.any p = l.any q := by
  induction l with
  | nil => rfl
  | cons a l ih => rw [List.any_cons, List.any_cons, h a (by simp), ih (fun x hx => h x (by simp [hx]))]
theorem st_fuel {L : List BR} {m : Nat} (h : Ins L m) (k : Nat) : ∀ n n' i, i < m → i < n → i < n' → st L n i k = st L n' i k := by
  intro n
  induction n with
  | zero => intro n' i _ hi; omega
  | succ n ih =>
    intro n' i hm hi hn
    obtain ⟨n', rfl⟩ : ∃ a, n' = a + 1 := ⟨n' - 1, by omega⟩
    unfold st
    split
    · refine any_congr' fun x hx => ?_
      have := h.lt i hm x hx
      exact ih n' x.toNat (by omega) (by omega) (by omega)
    · rfl
theorem leaf_group {L : List BR} {m i : Nat} (h : Ins L m) (hi : i < m) (hk : kdR L i = 6) (k : Nat) : leaf L i k = (inp L i).any fun x => leaf L x.toNat k := by
  unfold leaf
  rw [st, if_pos hk]
  refine any_congr' fun x hx => ?_
  have := h.lt i hi x hx
  exact st_fuel h k _ _ _ (by omega) (by omega) (by omega)
theorem leaf_one {L : List BR} {i : Nat} (hk : kdR L i ≠ 6) (k : Nat) : leaf L i k = (k == i) := by unfold leaf; rw [st, if_neg hk]
theorem leaf_kd {L : List BR} {m : Nat} (h : Ins L m) (k : Nat) : ∀ i, i < m → leaf L i k = true → kdR L k ≠ 6 ∧ k ≤ i := by
  intro i
  induction i using Nat.strongRecOn with
  | _ i ih =>
  intro hi hl
  by_cases hk : kdR L i = 6
  · rw [leaf_group h hi hk] at hl
    obtain ⟨x, hx, hl⟩ := List.any_eq_true.1 hl
    have := h.lt i hi x hx
    have h2 := ih x.toNat (by omega) (by omega) hl
    exact ⟨h2.1, by omega⟩
  · rw [leaf_one hk] at hl
    have : k = i := by simpa using hl
    subst this
    exact ⟨hk, Nat.le_refl _⟩
/-- A list of N marks. -/
def bl (N : Nat) (q : Nat → Bool) : List Bool := (List.range N).map q
@[simp] theorem bl_length (N : Nat) (q : Nat → Bool) : (bl N q).length = N := by simp [bl]
theorem bl_get (N : Nat) (q : Nat → Bool) (i : Nat) (h : i < N) : rdOf false (bl N q) (i : Int) = q i := by
  simp [rdOf, bl, List.getD_eq_getElem?_getD, h]
theorem bl_congr {N : Nat} {p q : Nat → Bool} (h : ∀ i, i < N → p i = q i) : bl N p = bl N q := List.map_congr_left fun i hi => h i (List.mem_range.1 hi)
theorem bl_set (N : Nat) (q : Nat → Bool) (i : Nat) (b : Bool) : (bl N q).set i b = bl N (fun k => if k = i then b else q k) := by
  refine List.ext_getElem? fun j => ?_
  unfold bl
  rw [List.getElem?_set, List.getElem?_map, List.getElem?_map]
  by_cases hj : j < N
  · rw [List.getElem?_range hj]
    by_cases h : i = j
    · subst h; simp [hj]
    · have h' : ¬ j = i := fun h2 => h h2.symm
      simp [h, h']
  · rw [List.getElem?_eq_none (by simpa using hj : (List.range N).length ≤ j)]
    by_cases h : i = j
    · subst h; simp [hj]
    · simp [h]
theorem bl_false (N : Nat) : List.replicate N false = bl N (fun _ => false) := by
  unfold bl
  rw [List.map_const']
  simp
theorem rd_get (l : List Int) (j : Nat) (h : j < l.length) : rd l (j : Int) = l[j] := by simp [rd, List.getD_eq_getElem?_getD, h]
theorem inp_rd {L : List BR} {m i j : Nat} (h : Ins L m) (hi : i < m) (hj : j < (inp L i).length) : ∃ x : Nat, x < i ∧ rd (inp L i) (j : Int) = (x : Int) ∧ (inp L i)[j] = (x : Int) := by
  have := h.lt i hi _ (List.getElem_mem hj)
  exact ⟨(inp L i)[j].toNat, by omega, by rw [rd_get _ _ hj]; omega, by omega⟩
theorem leaves_ev (L : List BR) (hN : L.length ≤ 30) {m : Nat} (hm : m ≤ L.length) (h : Ins L m) : ∀ i, i < m → ∀ q : Nat → Bool, Ev (fun k => rules_leaves.f k L i (bl L.length q)) (bl L.length fun k => q k || leaf L i k) := by
  intro i
  induction i using Nat.strongRecOn with
  | _ i ih =>
  intro hi q
  refine Ev.of_succ ?_
  have a0 : (0 : Int) ≤ (i : Int) := by omega
  have a1 : (i : Int) < (L.length : Int) := by omega
  by_cases hk : kdR L i = 6
  · simp only [rules_leaves.f, a0, a1, hk, bl_length, ↓reduceIte]
    have loop : ∀ d j (q : Nat → Bool), (inp L i).length - j = d → j ≤ (inp L i).length →
        Ev (fun k => rules_leaves.l0 k L (bl L.length q) (inp L i) ((inp L i).length : Int) j) (bl L.length fun k => q k || ((inp L i).drop j).any fun x => leaf L x.toNat k) := by
      intro d
      induction d with
      | zero =>
        intro j q hd hj
        refine Ev.of_succ ?_
        simp only [rules_leaves.l0, show ¬ (j : Int) < ((inp L i).length : Int) from by omega, ↓reduceIte]
        rw [List.drop_eq_nil_of_le (by omega)]
        simp only [List.any_nil, Bool.or_false]
        exact Ev.const _
      | succ d ihd =>
        intro j q hd hj
        refine Ev.of_succ ?_
        have hjl : j < (inp L i).length := by omega
        obtain ⟨x, hx, hr, he⟩ := inp_rd h hi hjl
        simp only [rules_leaves.l0, show (j : Int) < ((inp L i).length : Int) from by omega, show (0 : Int) ≤ (j : Int) from by omega, hr, ↓reduceIte]
        refine Ev.bind (ih x hx (by omega) q) ?_
        have h8 := h.len i hi
        rw [wrap_up j (by omega)]
        have := ihd (j + 1) (fun k => q k || leaf L x k) (by omega) (by omega)
        rw [List.drop_eq_getElem_cons hjl, he]
        simp only [List.any_cons, Int.toNat_natCast]
        simp only [Bool.or_assoc] at this
        exact this
    have := loop _ 0 q rfl (Nat.zero_le _)
    rw [List.drop_zero] at this
    simp only [leaf_group h hi hk]
    exact this
  · simp only [rules_leaves.f, a0, a1, hk, bl_length, ↓reduceIte, Int.toNat_natCast, bl_set]
    rw [bl_congr (q := fun k => q k || leaf L i k) (fun k _ => by
      rw [leaf_one hk]
      by_cases h : k = i
      · subst h; simp
      · simp [h])]
    exact Ev.const _
/-- The marked ones among 0 .. n - 1. -/
def fl (n : Nat) (q : Nat → Bool) : List Int := ((List.range n).filter q).map fun (k : Nat) => (k : Int)
theorem fl_zero (q : Nat → Bool) : fl 0 q = [] := rfl
theorem fl_succ (n : Nat) (q : Nat → Bool) : fl (n + 1) q = if q n then fl n q ++ [(n : Int)] else fl n q := by
  unfold fl
  rw [List.range_succ, List.filter_append, List.map_append]
  by_cases h : q n <;> simp [h]
theorem fl_length (n : Nat) (q : Nat → Bool) : (fl n q).length ≤ n := by
  unfold fl
  rw [List.length_map]
  exact Nat.le_trans (List.length_filter_le _ _) (by simp)
theorem fl_congr {n : Nat} {p q : Nat → Bool} (h : ∀ i, i < n → p i = q i) : fl n p = fl n q := by
  unfold fl
  rw [List.filter_congr fun i hi => h i (List.mem_range.1 hi)]
theorem mem_fl {n : Nat} {q : Nat → Bool} {x : Int} : x ∈ fl n q ↔ ∃ k : Nat, k < n ∧ q k = true ∧ x = (k : Int) := by
  unfold fl
  simp only [List.mem_map, List.mem_filter, List.mem_range]
  constructor
  · rintro ⟨k, ⟨h1, h2⟩, rfl⟩; exact ⟨k, h1, h2, rfl⟩
  · rintro ⟨k, h1, h2, rfl⟩; exact ⟨k, ⟨h1, h2⟩, rfl⟩
/-- Whether k is a leaf of an input of rule i. -/
def under (L : List BR) (i k : Nat) : Bool := (inp L i).any fun x => leaf L x.toNat k
theorem inputs_ev (L : List BR) (hN : L.length ≤ 30) {m : Nat} (hm : m ≤ L.length) (h : Ins L m) (i : Nat) (hi : i < m) : Ev (fun k => rules_inputs.f k L i) (fl L.length (under L i)) := by
  have a0 : (0 : Int) ≤ (i : Int) := by omega
  have a1 : (i : Int) < (L.length : Int) := by omega
  have h8 := h.len i hi
  have l1 : ∀ (q : Nat → Bool) d j, L.length - j = d → j ≤ L.length → Ev (fun k => rules_inputs.l1 k (fl j q) (bl L.length q) (L.length : Int) j) (fl L.length q) := by
    intro q d
    induction d with
    | zero =>
      intro j hd hj
      refine Ev.of_succ ?_
      obtain rfl : j = L.length := by omega
      simp only [rules_inputs.l1, Int.lt_irrefl, ↓reduceIte]
      exact Ev.const _
    | succ d ih =>
      intro j hd hj
      refine Ev.of_succ ?_
      have hjl : j < L.length := by omega
      have hlen := fl_length j q
      simp only [rules_inputs.l1, show (j : Int) < (L.length : Int) from by omega, show (0 : Int) ≤ (j : Int) from by omega, bl_length, bl_get _ _ _ hjl, show (fl j q).length < 17592186044416 from by omega, ↓reduceIte]
      rw [wrap_up j (by omega)]
      have := ih (j + 1) (by omega) (by omega)
      rw [fl_succ] at this
      by_cases hq : q j = true
      · simp only [hq, ↓reduceIte] at this ⊢
        exact this
      · simp only [hq, ↓reduceIte, Bool.false_eq_true] at this ⊢
        exact this
  have loop : ∀ d j (q : Nat → Bool), (inp L i).length - j = d → j ≤ (inp L i).length →
      Ev (fun k => rules_inputs.l0 k L (bl L.length q) (inp L i) ((inp L i).length : Int) j) (fl L.length fun k => q k || ((inp L i).drop j).any fun x => leaf L x.toNat k) := by
    intro d
    induction d with
    | zero =>
      intro j q hd hj
      refine Ev.of_succ ?_
      simp only [rules_inputs.l0, show ¬ (j : Int) < ((inp L i).length : Int) from by omega, ↓reduceIte, bl_length]
      rw [List.drop_eq_nil_of_le (by omega)]
      simp only [List.any_nil, Bool.or_false]
      exact l1 q _ 0 rfl (Nat.zero_le _)
    | succ d ihd =>
      intro j q hd hj
      refine Ev.of_succ ?_
      have hjl : j < (inp L i).length := by omega
      obtain ⟨x, hx, hr, he⟩ := inp_rd h hi hjl
      simp only [rules_inputs.l0, show (j : Int) < ((inp L i).length : Int) from by omega, show (0 : Int) ≤ (j : Int) from by omega, hr, ↓reduceIte]
      refine Ev.bind (leaves_ev L hN hm h x (by omega) q) ?_
      rw [wrap_up j (by omega)]
      have := ihd (j + 1) (fun k => q k || leaf L x k) (by omega) (by omega)
      rw [List.drop_eq_getElem_cons hjl, he]
      simp only [List.any_cons, Int.toNat_natCast]
      simp only [Bool.or_assoc] at this
      exact this
  unfold rules_inputs.f
  simp only [show (0 : Int) ≤ (L.length : Int) from by omega, show L.length ≤ 281474976710656 from by omega, a0, a1, ↓reduceIte, Int.toNat_natCast, bl_false]
  have := loop _ 0 (fun _ => false) rfl (Nat.zero_le _)
  simp only [List.drop_zero, Bool.false_or] at this
  exact this
/-- What the marks of a backward pass come to, below rule n still unlooked at. -/
def Sset (L : List BR) (o mk : Nat → Bool) (n k : Nat) : Prop := (∃ j, j < n ∧ (o j = true ∨ mk j = true) ∧ leaf L j k = true) ∨ (n ≤ k ∧ o k = true)
theorem Sset_step {L : List BR} {m n : Nat} (h : Ins L m) (hn : n < m) (o mk o2 : Nat → Bool) (h1 : ∀ j, j < n → (o2 j = true ↔ o j = true ∨ ((o n = true ∨ mk n = true) ∧ kdR L n = 6 ∧ (j : Int) ∈ inp L n)))
    (h2 : o2 n = true ↔ (o n = true ∨ mk n = true)) (h3 : ∀ j, n < j → o2 j = o j) (k : Nat) (hk : kdR L k ≠ 6) : Sset L o2 mk n k ↔ Sset L o mk (n + 1) k := by
  constructor
  · rintro (⟨j, hj, hm, hl⟩ | ⟨hnk, ho⟩)
    · rcases hm with hm | hm
      · rcases (h1 j hj).1 hm with h4 | ⟨h4, h5, h6⟩
        · exact .inl ⟨j, by omega, .inl h4, hl⟩
        · refine .inl ⟨n, by omega, h4, ?_⟩
          rw [leaf_group h hn h5]
          exact List.any_eq_true.2 ⟨j, h6, by simpa using hl⟩
      · exact .inl ⟨j, by omega, .inr hm, hl⟩
    · by_cases hkn : k = n
      · subst hkn
        exact .inl ⟨k, by omega, h2.1 ho, by rw [leaf_one hk]; simp⟩
      · exact .inr ⟨by omega, by rw [← h3 k (by omega)]; exact ho⟩
  · rintro (⟨j, hj, hm, hl⟩ | ⟨hnk, ho⟩)
    · by_cases hjn : j = n
      · subst hjn
        by_cases h5 : kdR L j = 6
        · rw [leaf_group h hn h5] at hl
          obtain ⟨x, hx, hl⟩ := List.any_eq_true.1 hl
          have := h.lt j hn x hx
          refine .inl ⟨x.toNat, by omega, .inl ((h1 _ (by omega)).2 (.inr ⟨hm, h5, ?_⟩)), hl⟩
          rw [show ((x.toNat : Nat) : Int) = x from by omega]
          exact hx
        · rw [leaf_one h5] at hl
          have : k = j := by simpa using hl
          subst this
          exact .inr ⟨Nat.le_refl _, h2.2 hm⟩
      · refine .inl ⟨j, by omega, ?_, hl⟩
        rcases hm with hm | hm
        · exact .inl ((h1 j (by omega)).2 (.inl hm))
        · exact .inr hm
    · exact .inr ⟨by omega, by rw [h3 k (by omega)]; exact ho⟩
/-- The rules for which marked rules stand. -/
def stands (L : List BR) (mk : Nat → Bool) (k : Nat) : Bool := (List.range L.length).any fun j => mk j && leaf L j k
theorem stands_iff {L : List BR} {mk : Nat → Bool} {k : Nat} : stands L mk k = true ↔ ∃ j, j < L.length ∧ mk j = true ∧ leaf L j k = true := by
  unfold stands
  rw [List.any_eq_true]
  simp only [List.mem_range, Bool.and_eq_true]
theorem stands_ev (L : List BR) (hN : L.length ≤ 30) (h : Ins L L.length) (mk : Nat → Bool) : Ev (fun k => changeforgeref6_StandsFor.f k L (bl L.length mk)) (bl L.length (stands L mk)) := by
  have l2 : ∀ d j (o : Nat → Bool), L.length - j = d → j ≤ L.length →
      Ev (fun k => changeforgeref6_StandsFor.l2 k L (bl L.length o) j) (bl L.length fun k => if k < j then o k else (o k && (kdR L k != 6))) := by
    intro d
    induction d with
    | zero =>
      intro j o hd hj
      obtain rfl : j = L.length := by omega
      refine Ev.of_succ ?_
      simp only [changeforgeref6_StandsFor.l2, Int.lt_irrefl, ↓reduceIte]
      exact Ev.cast (Ev.const _) (bl_congr fun i hi => (if_pos hi).symm)
    | succ d ih =>
      intro j o hd hj
      have hjl : j < L.length := by omega
      refine Ev.of_succ ?_
      simp only [changeforgeref6_StandsFor.l2, show (j : Int) < (L.length : Int) from by omega, show (0 : Int) ≤ (j : Int) from by omega, bl_length, bl_get _ _ _ hjl, bl_set, Int.toNat_natCast, ↓reduceIte]
      rw [wrap_up j (by omega)]
      have e : ∀ b, b = (o j && (kdR L j != 6)) → Ev (fun k => changeforgeref6_StandsFor.l2 k L (bl L.length fun k => if k = j then b else o k) ((j + 1 : Nat) : Int)) (bl L.length fun k => if k < j then o k else (o k && (kdR L k != 6))) := fun b hb => by
        have := ih (j + 1) (fun k => if k = j then b else o k) (by omega) (by omega)
        exact Ev.cast this (bl_congr fun i _ => by
          by_cases h1 : i = j
          · subst h1; simp [hb]
          · by_cases h2 : i < j
            · simp only [h1, h2, show i < j + 1 from by omega, ↓reduceIte]
            · simp only [h1, h2, show ¬ i < j + 1 from by omega, ↓reduceIte])
      by_cases ho : o j = true
      · simp only [ho, ↓reduceIte]
        exact e _ (by rw [ho, Bool.true_and])
      · simp only [ho, ↓reduceIte, Bool.false_eq_true]
        exact e _ (by simp [ho])
  have l1 : ∀ n, n < L.length → ∀ d j (o : Nat → Bool), (inp L n).length - j = d → j ≤ (inp L n).length → ∀ v,
      Ev (fun k => changeforgeref6_StandsFor.l0 k L (bl L.length mk) (bl L.length fun k => o k || decide ((k : Int) ∈ (inp L n).drop j)) (wrap64 ((n : Int) - 1))) v →
      Ev (fun k => changeforgeref6_StandsFor.l1 k L (bl L.length mk) (bl L.length o) n j) v := by
    intro n hn d
    induction d with
    | zero =>
      intro j o hd hj v hv
      refine Ev.of_succ ?_
      simp only [changeforgeref6_StandsFor.l1, show (0 : Int) ≤ (n : Int) from by omega, show (n : Int) < (L.length : Int) from by omega, show ¬ (j : Int) < ((inp L n).length : Int) from by omega, ↓reduceIte]
      rw [List.drop_eq_nil_of_le (by omega)] at hv
      simp only [List.not_mem_nil, decide_false, Bool.or_false] at hv
      exact hv
    | succ d ih =>
      intro j o hd hj v hv
      have hjl : j < (inp L n).length := by omega
      obtain ⟨x, hx, hr, he⟩ := inp_rd h hn hjl
      have h8 := h.len n hn
      refine Ev.of_succ ?_
      simp only [changeforgeref6_StandsFor.l1, show (0 : Int) ≤ (n : Int) from by omega, show (n : Int) < (L.length : Int) from by omega, show (j : Int) < ((inp L n).length : Int) from by omega, show (0 : Int) ≤ (j : Int) from by omega, hr,
        show (0 : Int) ≤ (x : Int) from by omega, bl_length, show (x : Int) < (L.length : Int) from by omega, bl_set, Int.toNat_natCast, ↓reduceIte]
      rw [wrap_up j (by omega)]
      refine ih (j + 1) _ (by omega) (by omega) v ?_
      rw [List.drop_eq_getElem_cons hjl, he] at hv
      rw [bl_congr (p := fun k => (if k = x then true else o k) || decide ((k : Int) ∈ (inp L n).drop (j + 1))) (q := fun k => o k || decide ((k : Int) ∈ (x : Int) :: (inp L n).drop (j + 1))) (fun i _ => by
        by_cases h1 : i = x
        · subst h1; simp
        · have h2 : ¬ (i : Int) = (x : Int) := by omega
          simp [h1, h2])]
      exact hv
  have l0 : ∀ n (o : Nat → Bool), n ≤ L.length → (∀ k, k < L.length → kdR L k ≠ 6 → (Sset L o mk n k ↔ stands L mk k = true)) →
      Ev (fun k => changeforgeref6_StandsFor.l0 k L (bl L.length mk) (bl L.length o) ((n : Int) - 1)) (bl L.length (stands L mk)) := by
    intro n
    induction n with
    | zero =>
      intro o _ hS
      refine Ev.of_succ ?_
      simp only [changeforgeref6_StandsFor.l0, show ¬ ((0 : Nat) : Int) - 1 ≥ 0 from by omega, ↓reduceIte]
      have := l2 _ 0 o rfl (Nat.zero_le _)
      exact Ev.cast this (bl_congr fun k hk => by
        rw [if_neg (by omega)]
        by_cases h6 : kdR L k = 6
        · have : stands L mk k = false := by
            rw [Bool.eq_false_iff]
            intro hs
            obtain ⟨j, hj, _, hl⟩ := stands_iff.1 hs
            exact (leaf_kd h k j hj hl).1 h6
          rw [this, h6]; simp
        · have h7 := hS k hk h6
          unfold Sset at h7
          have h8 : (kdR L k != 6) = true := bne_iff_ne.2 h6
          rw [h8, Bool.and_true, Bool.eq_iff_iff, ← h7]
          constructor
          · intro ho; exact .inr ⟨Nat.zero_le _, ho⟩
          · rintro (⟨j, hj, _⟩ | ⟨_, ho⟩)
            · omega
            · exact ho)
    | succ n ih =>
      intro o hn hS
      have hnl : n < L.length := by omega
      refine Ev.of_succ ?_
      rw [show ((n + 1 : Nat) : Int) - 1 = (n : Int) from by omega]
      have hw : wrap64 ((n : Int) - 1) = (n : Int) - 1 := wrap_lt (by omega) (by omega)
      have go : ∀ b, b = (o n || mk n) → Ev (fun k => changeforgeref6_StandsFor.j1 k L (bl L.length mk) (bl L.length fun k => if k = n then b else o k) n) (bl L.length (stands L mk)) := fun b hb => by
        refine Ev.of_succ ?_
        simp only [changeforgeref6_StandsFor.j1, show (0 : Int) ≤ (n : Int) from by omega, bl_length, show (n : Int) < (L.length : Int) from by omega, bl_get _ _ _ hnl, ↓reduceIte]
        by_cases hB : b = true
        · simp only [hB, ↓reduceIte]
          refine Ev.of_succ ?_
          by_cases h6 : kdR L n = 6
          · simp only [changeforgeref6_StandsFor.j2, h6, beq_self_eq_true, ↓reduceIte]
            have := l1 n hnl _ 0 (fun k => if k = n then true else o k) rfl (Nat.zero_le _) (bl L.length (stands L mk))
            rw [List.drop_zero, hw] at this
            refine this (ih _ (by omega) (fun k hk hk6 => (Sset_step h hnl o mk _ (fun j hj => ?_) ?_ (fun j hj => ?_) k hk6).trans (hS k hk hk6)))
            · have : ¬ j = n := by omega
              have hB' : o n = true ∨ mk n = true := by rw [hb] at hB; simpa using hB
              simp [this, h6, hB']
            · rw [hb, Bool.or_eq_true] at hB
              simp [hB]
            · have h9 : ¬ j = n := by omega
              have h10 : ¬ (j : Int) ∈ inp L n := fun hm => by have := h.lt n hnl _ hm; omega
              simp [h9, h10]
          · simp only [changeforgeref6_StandsFor.j2, show (kdR L n == 6) = false from beq_eq_false_iff_ne.2 h6, ↓reduceIte, hw, Bool.false_eq_true]
            refine ih _ (by omega) (fun k hk hk6 => (Sset_step h hnl o mk _ (fun j hj => ?_) ?_ (fun j hj => ?_) k hk6).trans (hS k hk hk6))
            · have : ¬ j = n := by omega
              simp [this, h6]
            · rw [hb, Bool.or_eq_true] at hB
              simp [hB]
            · have h9 : ¬ j = n := by omega
              simp [h9]
        · simp only [hB, ↓reduceIte, Bool.false_eq_true]
          refine Ev.of_succ ?_
          simp only [changeforgeref6_StandsFor.j2, ↓reduceIte, hw, Bool.false_eq_true]
          rw [hb] at hB
          have hB1 : o n = false := by cases ho : o n <;> simp [ho] at hB ⊢
          have hB2 : mk n = false := by cases ho : mk n <;> simp [ho] at hB ⊢
          refine ih _ (by omega) (fun k hk hk6 => (Sset_step h hnl o mk _ (fun j hj => ?_) ?_ (fun j hj => ?_) k hk6).trans (hS k hk hk6))
          · have : ¬ j = n := by omega
            simp [this, hB1, hB2]
          · simp [hB1, hB2]
          · have h9 : ¬ j = n := by omega
            simp [h9]
      simp only [changeforgeref6_StandsFor.l0, show ((n : Int) ≥ 0) = True from eq_true (by omega), show (0 : Int) ≤ (n : Int) from by omega, bl_length, show (n : Int) < (L.length : Int) from by omega, bl_get _ _ _ hnl, bl_set, Int.toNat_natCast, ↓reduceIte]
      by_cases ho : o n = true
      · simp only [ho, ↓reduceIte]
        exact go true (by rw [ho]; rfl)
      · simp only [ho, ↓reduceIte, Bool.false_eq_true]
        exact go (mk n) (by simp [ho])
  unfold changeforgeref6_StandsFor.f
  simp only [show (0 : Int) ≤ (L.length : Int) from by omega, show L.length ≤ 281474976710656 from by omega, ↓reduceIte, Int.toNat_natCast, bl_false]
  rw [wrap_lt (by omega) (by omega)]
  refine l0 L.length (fun _ => false) (Nat.le_refl _) (fun k hk hk6 => ?_)
  rw [stands_iff]
  unfold Sset
  constructor
  · rintro (⟨j, hj, hm, hl⟩ | ⟨hk2, _⟩)
    · rcases hm with hm | hm
      · cases hm
      · exact ⟨j, hj, hm, hl⟩
    · omega
  · rintro ⟨j, hj, hm, hl⟩
    exact .inl ⟨j, hj, .inr hm, hl⟩
end Go.Proofs.YtepflpmngegdiaaDoor.H
end
section
namespace Go.Proofs.YtepflpmngegdiaaDoor.H
open Go.RowKit Go.Proofs.YtepflpmngegdiaaDoorW.PrintWords Go.Proofs.YtepflpmngegdiaaDoorW.PrintLast Go.Proofs.YtepflpmngegdiaaDoorW.PrintMore
set_option linter.unusedVariables false
set_option linter.unusedSimpArgs false
theorem rule_leaves_ev (L : List BR) (hN : L.length ≤ 30) (h : Ins L L.length) (i : Nat) (hi : i < L.length) : Ev (fun k => changeforgeref6_RuleLeaves.f k L i) (fl L.length (under L i)) := by
  have h8 := h.len i hi
  have l1 : ∀ (q : Nat → Bool) d j, L.length - j = d → j ≤ L.length → Ev (fun k => changeforgeref6_RuleLeaves.l1 k L (bl L.length q) (fl j q) j) (fl L.length q) := by
    intro q d
    induction d with
    | zero =>
      intro j hd hj
      refine Ev.of_succ ?_
      obtain rfl : j = L.length := by omega
      simp only [changeforgeref6_RuleLeaves.l1, Int.lt_irrefl, ↓reduceIte]
      exact Ev.const _
    | succ d ih =>
      intro j hd hj
      refine Ev.of_succ ?_
      have hjl : j < L.length := by omega
      have hlen := fl_length j q
      simp only [changeforgeref6_RuleLeaves.l1, show (j : Int) < (L.length : Int) from by omega, show (0 : Int) ≤ (j : Int) from by omega, bl_length, bl_get _ _ _ hjl, show (fl j q).length < 17592186044416 from by omega, ↓reduceIte]
      rw [wrap_up j (by omega)]
      have := ih (j + 1) (by omega) (by omega)
      rw [fl_succ] at this
      by_cases hq : q j = true
      · simp only [hq, ↓reduceIte] at this ⊢
        exact this
      · simp only [hq, ↓reduceIte, Bool.false_eq_true] at this ⊢
        exact this
  have fin : ∀ q : Nat → Bool, (∀ k : Nat, k < L.length → (q k = true ↔ (k : Int) ∈ inp L i)) → fl L.length (stands L q) = fl L.length (under L i) := fun q hq => fl_congr fun k hk => by
    rw [Bool.eq_iff_iff, stands_iff]
    unfold under
    rw [List.any_eq_true]
    constructor
    · rintro ⟨j, hj, hm, hl⟩
      exact ⟨j, (hq j hj).1 hm, by simpa using hl⟩
    · rintro ⟨x, hx, hl⟩
      have := h.lt i hi x hx
      refine ⟨x.toNat, by omega, (hq _ (by omega)).2 ?_, hl⟩
      rw [show ((x.toNat : Nat) : Int) = x from by omega]
      exact hx
  have loop : ∀ d j (q : Nat → Bool), (inp L i).length - j = d → j ≤ (inp L i).length → (∀ k : Nat, k < L.length → (q k = true ∨ (k : Int) ∈ (inp L i).drop j ↔ (k : Int) ∈ inp L i)) →
      Ev (fun k => changeforgeref6_RuleLeaves.l0 k L i (bl L.length q) j) (fl L.length (under L i)) := by
    intro d
    induction d with
    | zero =>
      intro j q hd hj hq
      refine Ev.of_succ ?_
      rw [List.drop_eq_nil_of_le (by omega)] at hq
      simp only [changeforgeref6_RuleLeaves.l0, show (0 : Int) ≤ (i : Int) from by omega, show (i : Int) < (L.length : Int) from by omega, show ¬ (j : Int) < ((inp L i).length : Int) from by omega, ↓reduceIte]
      refine Ev.bind (stands_ev L hN h q) ?_
      have := l1 (stands L q) _ 0 rfl (Nat.zero_le _)
      rw [fl_zero, fin q (fun k hk => by have := hq k hk; simpa using this)] at this
      exact this
    | succ d ihd =>
      intro j q hd hj hq
      refine Ev.of_succ ?_
      have hjl : j < (inp L i).length := by omega
      obtain ⟨x, hx, hr, he⟩ := inp_rd h hi hjl
      simp only [changeforgeref6_RuleLeaves.l0, show (0 : Int) ≤ (i : Int) from by omega, show (i : Int) < (L.length : Int) from by omega, show (j : Int) < ((inp L i).length : Int) from by omega, show (0 : Int) ≤ (j : Int) from by omega, hr,
        show (0 : Int) ≤ (x : Int) from by omega, bl_length, show (x : Int) < (L.length : Int) from by omega, bl_set, Int.toNat_natCast, ↓reduceIte]
      rw [wrap_up j (by omega)]
      refine ihd (j + 1) _ (by omega) (by omega) (fun k hk => ?_)
      rw [← hq k hk, List.drop_eq_getElem_cons hjl, he]
      by_cases h1 : k = x
      · subst h1; simp
      · have h2 : ¬ (k : Int) = (x : Int) := by omega
        simp [h1, h2]
  unfold changeforgeref6_RuleLeaves.f
  simp only [show (0 : Int) ≤ (L.length : Int) from by omega, show L.length ≤ 281474976710656 from by omega, ↓reduceIte, Int.toNat_natCast, bl_false]
  refine loop _ 0 (fun _ => false) rfl (Nat.zero_le _) (fun k hk => ?_)
  simp
/-- The error code of the inputs of rule i as a list of numbers, from place j on. -/
def inC (i : Int) (l : List Int) : Nat → Nat → Int
  | 0, _ => 0
  | d + 1, j => if ¬ (0 ≤ rd l (j : Int) ∧ rd l (j : Int) < i) then 3 else if 0 < j ∧ rd l (j : Int) ≤ rd l ((j - 1 : Nat) : Int) then 5 else inC i l d (j + 1)
theorem inC_ok {i : Int} {l : List Int} : ∀ d j, inC i l d j = 0 → (∀ a : Nat, j ≤ a → a < j + d → 0 ≤ rd l (a : Int) ∧ rd l (a : Int) < i) ∧ (∀ a : Nat, j ≤ a → a < j + d → 0 < a → rd l ((a - 1 : Nat) : Int) < rd l (a : Int))
  | 0, j, _ => ⟨fun a h1 h2 => by omega, fun a h1 h2 => by omega⟩
  | d + 1, j, h => by
    unfold inC at h
    by_cases h1 : ¬ (0 ≤ rd l (j : Int) ∧ rd l (j : Int) < i)
    · rw [if_pos h1] at h; omega
    rw [if_neg h1] at h
    by_cases h2 : 0 < j ∧ rd l (j : Int) ≤ rd l ((j - 1 : Nat) : Int)
    · rw [if_pos h2] at h; omega
    rw [if_neg h2] at h
    obtain ⟨h3, h4⟩ := inC_ok d (j + 1) h
    refine ⟨fun a ha hb => ?_, fun a ha hb hc => ?_⟩
    · by_cases e : a = j
      · subst e; exact Decidable.not_not.1 h1
      · exact h3 a (by omega) (by omega)
    · by_cases e : a = j
      · subst e; omega
      · exact h4 a (by omega) (by omega) hc
def perm (K a : Int) : Bool := if K = 2 then a == 1 || a == 3 else if K = 3 then a == 2 else if K = 4 then a == 2 || a == 3 else if K = 5 then a == 4 else false
def req (K : Int) : Int := if K = 2 then 1 else if K = 3 then 2 else if K = 4 then 2 else if K = 5 then 4 else 0
/-- The error code of the kinds of a rule's leaves. -/
def tyC (K : Int) (ks : List Int) : Int := if ks.all (perm K) then (if (K ≠ 1 ∧ ks.any (fun a => a == req K) = false) ∨ (K = 5 ∧ ks.length ≠ 1) then 9 else 0) else 8
def ksOf (L : List BR) (l : List Int) : List Int := l.map fun x => (rd_T33 L x).f0
def tcode (L : List BR) (i : Nat) : Int := if kdR L i = 6 then (if (inp L i).length = 0 then 9 else 0) else tyC (kdR L i) (ksOf L (fl L.length (under L i)))
def formC (L : List BR) (i : Nat) : Int := if ¬ (1 ≤ kdR L i ∧ kdR L i ≤ 6) then 4 else if 8 < (inp L i).length then 2 else inC i (inp L i) (inp L i).length 0
def code (L : List BR) (i : Nat) : Int := if formC L i ≠ 0 then formC L i else tcode L i
theorem form_ev (L : List BR) (hN : L.length ≤ 30) (i : Nat) (hi : i < L.length) : Ev (fun k => rules_form.f k L i) (formC L i) := by
  have loop : ∀ K, (inp L i).length ≤ 8 → ∀ d j, (inp L i).length - j = d → j ≤ (inp L i).length → Ev (fun k => rules_form.l0 k i (inp L i) ((inp L i).length : Int) j K (inp L i)) (inC i (inp L i) d j) := by
    intro K h8 d
    induction d with
    | zero =>
      intro j hd hj
      refine Ev.of_succ ?_
      simp only [rules_form.l0, show ¬ (j : Int) < ((inp L i).length : Int) from by omega, ↓reduceIte]
      exact Ev.const _
    | succ d ih =>
      intro j hd hj
      refine Ev.of_succ ?_
      simp only [rules_form.l0, show (j : Int) < ((inp L i).length : Int) from by omega, show (0 : Int) ≤ (j : Int) from by omega, ↓reduceIte]
      unfold inC
      by_cases c1 : rd (inp L i) j < 0
      · simp only [c1, ↓reduceIte]
        rw [if_pos (by omega)]
        refine Ev.of_succ ?_
        simp only [rules_form.j2, ↓reduceIte]
        exact Ev.const _
      · simp only [c1, ↓reduceIte]
        refine Ev.of_succ ?_
        by_cases c2 : rd (inp L i) j ≥ i
        · simp only [rules_form.j2, c2, decide_true, ↓reduceIte]
          rw [if_pos (by omega)]
          exact Ev.const _
        · simp only [rules_form.j2, c2, decide_false, ↓reduceIte, Bool.false_eq_true]
          rw [if_neg (by omega)]
          have hn := ih (j + 1) (by omega) (by omega)
          rw [wrap_up j (by omega)]
          by_cases c3 : (j : Int) > 0
          · have e : wrap64 ((j : Int) - 1) = ((j - 1 : Nat) : Int) := by rw [wrap_lt (by omega) (by omega)]; omega
            simp only [c3, e, show (0 : Int) ≤ ((j - 1 : Nat) : Int) from by omega, show ((j - 1 : Nat) : Int) < ((inp L i).length : Int) from by omega, ↓reduceIte]
            by_cases c4 : rd (inp L i) j ≤ rd (inp L i) ((j - 1 : Nat) : Int)
            · simp only [c4, ↓reduceIte]
              rw [if_pos ⟨by omega, trivial⟩]
              exact Ev.const _
            · simp only [c4, ↓reduceIte]
              rw [if_neg (by simp)]
              exact hn
          · simp only [c3, ↓reduceIte]
            rw [if_neg (by omega)]
            exact hn
  unfold rules_form.f formC
  simp only [show (0 : Int) ≤ (i : Int) from by omega, show (i : Int) < (L.length : Int) from by omega, ↓reduceIte]
  by_cases c1 : kdR L i < 1
  · simp only [c1, ↓reduceIte]
    rw [if_pos (by omega)]
    refine Ev.of_succ ?_
    simp only [rules_form.j0, ↓reduceIte]
    exact Ev.const _
  · simp only [c1, ↓reduceIte]
    refine Ev.of_succ ?_
    by_cases c2 : kdR L i > 6
    · simp only [rules_form.j0, c2, decide_true, ↓reduceIte]
      rw [if_pos (by omega)]
      exact Ev.const _
    · simp only [rules_form.j0, c2, decide_false, ↓reduceIte, Bool.false_eq_true]
      rw [if_neg (by omega)]
      by_cases c3 : ((inp L i).length : Int) > 8
      · simp only [c3, ↓reduceIte]
        rw [if_pos (by omega)]
        exact Ev.const _
      · simp only [c3, ↓reduceIte]
        rw [if_neg (by omega)]
        exact loop _ (by omega) _ 0 rfl (Nat.zero_le _)
theorem index_ev (l : List Int) (a : Int) (hl : l.length ≤ 100) : Ev (fun k => slices_Contains_int_int.f k l a) (decide (a ∈ l)) := by
  have loop : ∀ d j, l.length - j = d → j ≤ l.length → ∃ r, Ev (fun k => slices_Index_int_int.l0 k l a (l.length : Int) j) r ∧ (decide (r ≥ 0) = decide (a ∈ l.drop j)) := by
    intro d
    induction d with
    | zero =>
      intro j hd hj
      refine ⟨-1, Ev.of_succ ?_, ?_⟩
      · simp only [slices_Index_int_int.l0, show ¬ (j : Int) < (l.length : Int) from by omega, ↓reduceIte]
        exact Ev.const _
      · rw [List.drop_eq_nil_of_le (by omega)]; simp
    | succ d ih =>
      intro j hd hj
      have hjl : j < l.length := by omega
      obtain ⟨r, h1, h2⟩ := ih (j + 1) (by omega) (by omega)
      by_cases c : a = rd l j
      · refine ⟨j, Ev.of_succ ?_, ?_⟩
        · simp only [slices_Index_int_int.l0, show (j : Int) < (l.length : Int) from by omega, show (0 : Int) ≤ (j : Int) from by omega, ↓reduceIte]
          rw [← c]
          simp only [↓reduceIte]
          exact Ev.const _
        · rw [List.drop_eq_getElem_cons hjl, ← rd_get _ _ hjl, ← c]
          simp
      · refine ⟨r, Ev.of_succ ?_, ?_⟩
        · simp only [slices_Index_int_int.l0, show (j : Int) < (l.length : Int) from by omega, show (0 : Int) ≤ (j : Int) from by omega, c, ↓reduceIte]
          rw [wrap_up j (by omega)]
          exact h1
        · rw [h2, List.drop_eq_getElem_cons hjl, ← rd_get _ _ hjl]
          simp [c]
  obtain ⟨r, h1, h2⟩ := loop _ 0 rfl (Nat.zero_le _)
  unfold slices_Contains_int_int.f slices_Index_int_int.f
  refine Ev.bind h1 ?_
  rw [h2]
  exact Ev.const _
end Go.Proofs.YtepflpmngegdiaaDoor.H
end
section
namespace Go.Proofs.YtepflpmngegdiaaDoor.H
open Go.RowKit Go.Proofs.YtepflpmngegdiaaDoorW.PrintWords Go.Proofs.YtepflpmngegdiaaDoorW.PrintLast Go.Proofs.YtepflpmngegdiaaDoorW.PrintMore
set_option linter.unusedVariables false
set_option linter.unusedSimpArgs false
theorem rd_ext {l : List Int} {x : Int} (hx : x ∈ l) : ∃ j : Nat, j < l.length ∧ rd l (j : Int) = x := by
  obtain ⟨j, hj, e⟩ := List.mem_iff_getElem.1 hx
  exact ⟨j, hj, by rw [rd_get _ _ hj, e]⟩
theorem ty_loop (L : List BR) (hN : L.length ≤ 30) (l may : List Int) (must : Int) (one : Bool) (hl : l.length ≤ 30) (hr : ∀ x ∈ l, 0 ≤ x ∧ x < L.length) (hmay : may.length ≤ 100) :
    ∀ d j (found : Bool), l.length - j = d → j ≤ l.length → Ev (fun k => rules_typed.l0 k L l found l (l.length : Int) j may must one)
      (if (ksOf L (l.drop j)).all (fun a => decide (a ∈ may)) then (if (found || (ksOf L (l.drop j)).any (· == must)) = false ∨ (one = true ∧ l.length ≠ 1) then 9 else 0) else 8) := by
  intro d
  induction d with
  | zero =>
    intro j found hd hj
    refine Ev.of_succ ?_
    rw [List.drop_eq_nil_of_le (by omega)]
    simp only [rules_typed.l0, show ¬ (j : Int) < (l.length : Int) from by omega, ↓reduceIte, ksOf, List.map_nil, List.all_nil, List.any_nil, Bool.or_false]
    by_cases h1 : found = true
    · by_cases h2 : one = true
      · by_cases h3 : l.length = 1
        · simp only [h1, h2, h3, ↓reduceIte, show ((1 : Nat) : Int) = 1 from rfl, ne_eq, not_true_eq_false, and_false, Bool.true_eq_false, or_self]
          exact Ev.const _
        · have h4 : ¬ (l.length : Int) = 1 := by omega
          simp only [h1, h2, h3, h4, ↓reduceIte, ne_eq, not_false_eq_true, and_self, or_true]
          exact Ev.const _
      · simp only [h1, h2, ↓reduceIte, Bool.false_eq_true, false_and, Bool.true_eq_false, or_self]
        exact Ev.const _
    · simp only [h1, ↓reduceIte, Bool.false_eq_true]
      rw [if_pos (.inl trivial)]
      exact Ev.const _
  | succ d ih =>
    intro j found hd hj
    refine Ev.of_succ ?_
    have hjl : j < l.length := by omega
    have hm := hr _ (List.getElem_mem hjl)
    rw [← rd_get _ _ hjl] at hm
    have ek : ksOf L (l.drop j) = (rd_T33 L (rd l (j : Int))).f0 :: ksOf L (l.drop (j + 1)) := by
      rw [List.drop_eq_getElem_cons hjl, ← rd_get _ _ hjl]; rfl
    rw [ek, List.all_cons, List.any_cons]
    simp only [rules_typed.l0, show (j : Int) < (l.length : Int) from by omega, show (0 : Int) ≤ (j : Int) from by omega, hm.1, hm.2, ↓reduceIte]
    refine Ev.bind (index_ev may _ hmay) ?_
    by_cases c : (rd_T33 L (rd l (j : Int))).f0 ∈ may
    · simp only [decide_eq_true c, Bool.true_and, ↓reduceIte]
      rw [wrap_up j (by omega)]
      by_cases hf : found = true
      · simp only [hf, ↓reduceIte, Bool.true_or]
        have := ih (j + 1) true (by omega) (by omega)
        simp only [Bool.true_or] at this
        exact this
      · have hf' : found = false := by simpa using hf
        simp only [hf', ↓reduceIte, Bool.false_or, Bool.false_eq_true]
        exact ih (j + 1) _ (by omega) (by omega)
    · simp only [decide_eq_false c, Bool.false_and, ↓reduceIte, Bool.false_eq_true]
      exact Ev.const _
theorem fl_range (L : List BR) (q : Nat → Bool) : ∀ x ∈ fl L.length q, 0 ≤ x ∧ x < L.length := fun x hx => by
  obtain ⟨k, h1, _, rfl⟩ := mem_fl.1 hx
  omega
theorem ksOf_len (L : List BR) (l : List Int) : (ksOf L l).length = l.length := by simp [ksOf]
theorem all_congr' {α : Type} {l : List α} {p q : α → Bool} (h : ∀ x ∈ l, p x = q x) : l.all p = l.all q := by
  induction l with
  | nil => rfl
  | cons a l ih => rw [List.all_cons, List.all_cons, h a (by simp), ih (fun x hx => h x (by simp [hx]))]
theorem typed_ev (L : List BR) (hN : L.length ≤ 30) (i : Nat) (hi : i < L.length) (h : Ins L (i + 1)) (k1 : 1 ≤ kdR L i) (k6 : kdR L i ≤ 6) : Ev (fun k => rules_typed.f k L i) (tcode L i) := by
  unfold rules_typed.f tcode
  simp only [show (0 : Int) ≤ (i : Int) from by omega, show (i : Int) < (L.length : Int) from by omega, ↓reduceIte]
  by_cases h6 : kdR L i = 6
  · simp only [h6, ↓reduceIte]
    by_cases h0 : (inp L i).length = 0
    · simp only [h0, ↓reduceIte, show ((0 : Nat) : Int) = 0 from rfl]
      exact Ev.const _
    · have : ¬ ((inp L i).length : Int) = 0 := by omega
      simp only [h0, this, ↓reduceIte]
      exact Ev.const _
  · simp only [h6, show (0 : Int) ≤ kdR L i from by omega, show kdR L i < 7 from by omega, ↓reduceIte]
    refine Ev.bind (inputs_ev L hN (by omega : i + 1 ≤ L.length) h i (by omega)) ?_
    have hl := fl_length L.length (under L i)
    have hr := fl_range L (under L i)
    generalize fl L.length (under L i) = l at *
    have main : ∀ (may : List Int) (must : Int) (one : Bool) (K : Int), may.length ≤ 100 → (∀ a, perm K a = decide (a ∈ may)) → req K = must → (must = 0 ↔ K = 1) → (one = true ↔ K = 5) →
        Ev (fun k => rules_typed.l0 k L l (must == 0) l (l.length : Int) 0 may must one) (tyC K (ksOf L l)) := fun may must one K hm e1 e2 e3 e4 => by
      have := ty_loop L hN l may must one (by omega) hr hm _ 0 (must == 0) rfl (Nat.zero_le _)
      rw [List.drop_zero] at this
      refine Ev.cast this ?_
      unfold tyC
      rw [e2, ksOf_len, all_congr' (fun a _ => (e1 a).symm)]
      have e5 : ((must == 0 || (ksOf L l).any (· == must)) = false ∨ (one = true ∧ l.length ≠ 1)) ↔ ((K ≠ 1 ∧ (ksOf L l).any (fun a => a == must) = false) ∨ (K = 5 ∧ l.length ≠ 1)) := by
        rw [e4, Bool.or_eq_false_iff, beq_eq_false_iff_ne, ne_eq, e3]
      by_cases c : (ksOf L l).all (perm K) = true
      · rw [if_pos c, if_pos c]
        by_cases c2 : (K ≠ 1 ∧ (ksOf L l).any (fun a => a == must) = false) ∨ (K = 5 ∧ l.length ≠ 1)
        · rw [if_pos c2, if_pos (e5.2 c2)]
        · rw [if_neg c2, if_neg (fun h => c2 (e5.1 h))]
      · rw [if_neg c, if_neg c]
    have hK : kdR L i = 1 ∨ kdR L i = 2 ∨ kdR L i = 3 ∨ kdR L i = 4 ∨ kdR L i = 5 := by omega
    rcases hK with e | e | e | e | e
    · simp only [kdR] at e ⊢
      rw [e]
      exact main [] 0 false 1 (by decide) (fun a => by rw [Bool.eq_iff_iff]; simp [perm]) rfl (by decide) (by decide)
    · simp only [kdR] at e ⊢
      rw [e]
      exact main [1, 3] 1 false 2 (by decide) (fun a => by rw [Bool.eq_iff_iff]; simp [perm]) rfl (by decide) (by decide)
    · simp only [kdR] at e ⊢
      rw [e]
      exact main [2] 2 false 3 (by decide) (fun a => by rw [Bool.eq_iff_iff]; simp [perm]) rfl (by decide) (by decide)
    · simp only [kdR] at e ⊢
      rw [e]
      exact main [2, 3] 2 false 4 (by decide) (fun a => by rw [Bool.eq_iff_iff]; simp [perm]) rfl (by decide) (by decide)
    · simp only [kdR] at e ⊢
      rw [e]
      exact main [4] 4 true 5 (by decide) (fun a => by rw [Bool.eq_iff_iff]; simp [perm]) rfl (by decide) (by decide)
theorem ev_in (a b c : Int) : Ev (fun _ => changeforgeref6_in.f a b c) (decide (b ≤ a ∧ a ≤ c)) := by
  unfold changeforgeref6_in.f
  by_cases h : a ≥ b
  · rw [if_pos h, show decide (b ≤ a ∧ a ≤ c) = decide (a ≤ c) from by simp [show b ≤ a from h]]
    exact Ev.const _
  · rw [if_neg h, show decide (b ≤ a ∧ a ≤ c) = false from by simp [show ¬ b ≤ a from h]]
    exact Ev.const _
theorem ev_perm (a b : Int) : Ev (fun _ => changeforgeref6_permitted.f a b) (perm a b) := by
  unfold changeforgeref6_permitted.f perm
  by_cases h2 : a = 2
  · simp only [h2, ↓reduceIte]
    by_cases c : b = 1
    · simp only [c, ↓reduceIte]; exact Ev.const _
    · simp only [c, ↓reduceIte, show (b == 1) = false from beq_eq_false_iff_ne.2 c, Bool.false_or]; exact Ev.const _
  simp only [h2, ↓reduceIte]
  by_cases h3 : a = 3
  · simp only [h3, ↓reduceIte]; exact Ev.const _
  simp only [h3, ↓reduceIte]
  by_cases h4 : a = 4
  · simp only [h4, ↓reduceIte]
    by_cases c : b = 2
    · simp only [c, ↓reduceIte]; exact Ev.const _
    · simp only [c, ↓reduceIte, show (b == 2) = false from beq_eq_false_iff_ne.2 c, Bool.false_or]; exact Ev.const _
  simp only [h4, ↓reduceIte]
  by_cases h5 : a = 5
  · simp only [h5, ↓reduceIte]; exact Ev.const _
  simp only [h5, ↓reduceIte]
  exact Ev.const _
theorem rd_take (L : List BR) (n j : Nat) (h : j < n) : rd_T33 (L.take n) (j : Int) = rd_T33 L (j : Int) := by
  unfold rd_T33
  rw [List.getD_eq_getElem?_getD, List.getD_eq_getElem?_getD, List.getElem?_take, if_pos (by omega)]
theorem Ins.take {L : List BR} {n m : Nat} (h : Ins L m) (hm : m ≤ n) : Ins (L.take n) m := by
  refine ⟨fun i hi => ?_, fun i hi => ?_⟩
  · unfold inp; rw [rd_take L n i (by omega)]; exact h.len i hi
  · unfold inp; rw [rd_take L n i (by omega)]; exact h.lt i hi
theorem under_lt {L : List BR} {m i k : Nat} (h : Ins L m) (hi : i < m) (hk : under L i k = true) : k < i ∧ kdR L k ≠ 6 := by
  obtain ⟨x, hx, hl⟩ := List.any_eq_true.1 hk
  have := h.lt i hi x hx
  have := leaf_kd h k _ (by omega) hl
  exact ⟨by omega, this.1⟩
theorem formC_ok {L : List BR} {i : Nat} (h : formC L i = 0) : 1 ≤ kdR L i ∧ kdR L i ≤ 6 ∧ (inp L i).length ≤ 8 ∧ (∀ x ∈ inp L i, 0 ≤ x ∧ x < (i : Int)) ∧ (∀ a : Nat, 0 < a → a < (inp L i).length → rd (inp L i) ((a - 1 : Nat) : Int) < rd (inp L i) (a : Int)) := by
  unfold formC at h
  by_cases c1 : ¬ (1 ≤ kdR L i ∧ kdR L i ≤ 6)
  · rw [if_pos c1] at h; omega
  rw [if_neg c1] at h
  by_cases c2 : 8 < (inp L i).length
  · rw [if_pos c2] at h; omega
  rw [if_neg c2] at h
  obtain ⟨h1, h2⟩ := inC_ok _ _ h
  refine ⟨by omega, by omega, by omega, fun x hx => ?_, fun a ha hb => h2 a (by omega) (by omega) ha⟩
  obtain ⟨j, hj, rfl⟩ := rd_ext hx
  exact h1 j (by omega) (by omega)
theorem Ins.next {L : List BR} {i : Nat} (h : Ins L i) (hf : formC L i = 0) : Ins L (i + 1) := by
  obtain ⟨_, _, h8, hx, _⟩ := formC_ok hf
  refine ⟨fun j hj => ?_, fun j hj => ?_⟩
  · by_cases e : j = i
    · subst e; exact h8
    · exact h.len j (by omega)
  · by_cases e : j = i
    · subst e; exact hx
    · exact h.lt j (by omega)
/-- The codes from rule i on. -/
def vFrom (L : List BR) : Nat → Nat → Int × Int
  | 0, _ => (0, 0)
  | d + 1, i => if code L i = 0 then vFrom L d (i + 1) else (code L i, i)
def vf (L : List BR) : Int × Int := if 30 < L.length then (2, -1) else vFrom L L.length 0
theorem code_form {L : List BR} {i : Nat} (h : code L i = 0) : formC L i = 0 ∧ tcode L i = 0 := by
  unfold code at h
  by_cases c : formC L i ≠ 0
  · rw [if_pos c] at h; exact absurd h c
  · rw [if_neg c] at h; exact ⟨Decidable.not_not.1 c, h⟩
theorem Validate_ev (L : List BR) : Ev (fun k => rules_Validate.f k L) (vf L) := by
  unfold rules_Validate.f vf
  by_cases h30 : (L.length : Int) > 30
  · rw [if_pos (by omega)]
    simp only [h30, ↓reduceIte]
    exact Ev.const _
  rw [if_neg (by omega)]
  simp only [h30, ↓reduceIte]
  have loop : ∀ d i, L.length - i = d → i ≤ L.length → Ins L i → Ev (fun k => rules_Validate.l0 k L (L.length : Int) i) (vFrom L d i) := by
    intro d
    induction d with
    | zero =>
      intro i hd hi _
      refine Ev.of_succ ?_
      simp only [rules_Validate.l0, show ¬ (i : Int) < (L.length : Int) from by omega, ↓reduceIte]
      exact Ev.const _
    | succ d ih =>
      intro i hd hi hI
      refine Ev.of_succ ?_
      simp only [rules_Validate.l0, show (i : Int) < (L.length : Int) from by omega, ↓reduceIte]
      refine Ev.bind (form_ev L (by omega) i (by omega)) ?_
      unfold vFrom
      by_cases hf : formC L i = 0
      · simp only [hf, ↓reduceIte]
        have hI' := hI.next hf
        obtain ⟨k1, k6, _⟩ := formC_ok hf
        refine Ev.bind (typed_ev L (by omega) i (by omega) hI' k1 k6) ?_
        have hc : code L i = tcode L i := by unfold code; rw [if_neg (not_not_intro hf)]
        rw [hc]
        by_cases ht : tcode L i = 0
        · simp only [ht, ↓reduceIte]
          rw [wrap_up i (by omega)]
          exact ih (i + 1) (by omega) (by omega) hI'
        · simp only [ht, ↓reduceIte]
          exact Ev.const _
      · simp only [hf, ↓reduceIte]
        have hc : code L i = formC L i := by unfold code; rw [if_pos hf]
        rw [hc, if_neg hf]
        exact Ev.const _
  exact loop _ 0 rfl (Nat.zero_le _) ⟨fun i hi => by omega, fun i hi => by omega⟩
end Go.Proofs.YtepflpmngegdiaaDoor.H
end
section
namespace Go.Proofs.YtepflpmngegdiaaDoor.H
open Go.RowKit Go.Proofs.YtepflpmngegdiaaDoorW.PrintWords Go.Proofs.YtepflpmngegdiaaDoorW.PrintLast Go.Proofs.YtepflpmngegdiaaDoorW.PrintMore
set_option linter.unusedVariables false
set_option linter.unusedSimpArgs false
/-- A valid list of rules. -/
structure Ok (L : List BR) : Prop where
  len : L.length ≤ 30
  code : ∀ i, i < L.length → code L i = 0
theorem Ok.form {L : List BR} (h : Ok L) {i : Nat} (hi : i < L.length) : formC L i = 0 := (code_form (h.code i hi)).1
theorem Ok.ins {L : List BR} (h : Ok L) : Ins L L.length := by
  refine ⟨fun i hi => (formC_ok (h.form hi)).2.2.1, fun i hi => (formC_ok (h.form hi)).2.2.2.1⟩
theorem vFrom_ok (L : List BR) : ∀ d i, L.length - i = d → i ≤ L.length → (vFrom L d i).1 = 0 → vFrom L d i = (0, 0) ∧ ∀ j, i ≤ j → j < L.length → code L j = 0
  | 0, i, hd, hi, _ => ⟨rfl, fun j h1 h2 => by omega⟩
  | d + 1, i, hd, hi, h => by
    unfold vFrom at h ⊢
    by_cases hc : code L i = 0
    · rw [if_pos hc] at h ⊢
      obtain ⟨h1, h2⟩ := vFrom_ok L d (i + 1) (by omega) (by omega) h
      refine ⟨h1, fun j ha hb => ?_⟩
      by_cases e : j = i
      · subst e; exact hc
      · exact h2 j (by omega) hb
    · rw [if_neg hc] at h; exact absurd h hc
theorem vf_ok {L : List BR} (h : (vf L).1 = 0) : vf L = (0, 0) ∧ Ok L := by
  unfold vf at h ⊢
  by_cases h30 : 30 < L.length
  · rw [if_pos h30] at h; simp at h
  rw [if_neg h30] at h ⊢
  obtain ⟨h1, h2⟩ := vFrom_ok L _ 0 rfl (Nat.zero_le _) h
  exact ⟨h1, ⟨by omega, fun i hi => h2 i (Nat.zero_le _) hi⟩⟩
theorem vFrom_zero (L : List BR) : ∀ d i, (∀ j, i ≤ j → j < i + d → code L j = 0) → vFrom L d i = (0, 0)
  | 0, i, _ => rfl
  | d + 1, i, h => by
    unfold vFrom
    rw [if_pos (h i (by omega) (by omega))]
    exact vFrom_zero L d (i + 1) (fun j ha hb => h j (by omega) (by omega))
theorem Ok.vf {L : List BR} (h : Ok L) : vf L = (0, 0) := by
  unfold Go.Proofs.YtepflpmngegdiaaDoor.H.vf
  rw [if_neg (by have := h.len; omega)]
  exact vFrom_zero L _ 0 (fun j _ hj => h.code j (by omega))
/-- No group. -/
abbrev ng (L : List BR) (k : Nat) : Bool := kdR L k != 6
def pos (L : List BR) (i : Nat) : Nat := (fl i (ng L)).length
theorem pos_succ (L : List BR) (i : Nat) : pos L (i + 1) = pos L i + if ng L i then 1 else 0 := by
  unfold pos
  rw [fl_succ]
  by_cases h : ng L i = true
  · rw [if_pos h, if_pos h, List.length_append]; rfl
  · rw [if_neg h, if_neg h]; rfl
theorem pos_le (L : List BR) (i : Nat) : pos L i ≤ i := fl_length i _
abbrev BS := S44
def stepI (L : List BR) (l : List Int) : List Int := l.map fun x => (pos L x.toNat : Int)
def exS (L : List BR) (i : Nat) : BS := ⟨(i : Int), kdR L i, stepI L (fl L.length (under L i))⟩
/-- The steps of the rules below n. -/
def expF (L : List BR) (n : Nat) : List BS := ((List.range n).filter (ng L)).map (exS L)
theorem expF_succ (L : List BR) (n : Nat) : expF L (n + 1) = if ng L n then expF L n ++ [exS L n] else expF L n := by
  unfold expF
  rw [List.range_succ, List.filter_append, List.map_append]
  by_cases h : ng L n <;> simp [h]
theorem expF_length (L : List BR) (n : Nat) : (expF L n).length = pos L n := by unfold expF pos fl; rw [List.length_map, List.length_map]
theorem rd_set (l : List Int) (i j : Nat) (x : Int) (h : i < l.length) : rd (l.set i x) j = if i = j then x else rd l j := by
  simp only [rd, Int.toNat_natCast, List.getD_eq_getElem?_getD, List.getElem?_set]
  by_cases h1 : i = j
  · subst h1; simp [h]
  · simp [h1]
theorem Expand_ev (L : List BR) : Ev (fun k => rules_Expand.f k L) (if (vf L).1 ≠ 0 then ([], vf L) else (expF L L.length, 0, 0)) := by
  unfold rules_Expand.f
  refine Ev.bind (Validate_ev L) ?_
  by_cases hc : (vf L).1 = 0
  · obtain ⟨hv, hok⟩ := vf_ok hc
    have hN := hok.len
    rw [hv]
    simp only [beq_self_eq_true, Bool.not_true, Bool.or_self, Bool.false_eq_true, ↓reduceIte, ne_eq, not_true_eq_false, show (0 : Int) ≤ (L.length : Int) from by omega, Int.toNat_natCast, show L.length ≤ 35184372088832 from by omega]
    have l1 : ∀ (x5 : List BS) (A : List Int) (i : Nat) (K : Int) (l : List Int), x5.length ≤ 30 → l.length ≤ 30 → (∀ x ∈ l, 0 ≤ x ∧ x < A.length ∧ rd A x = (pos L x.toNat : Int)) → i < 100 → ∀ d j (acc : List Int), l.length - j = d → j ≤ l.length → acc.length ≤ j → ∀ v,
        Ev (fun k => rules_Expand.l0 k L (x5 ++ [⟨i, K, acc ++ stepI L (l.drop j)⟩]) A L (L.length : Int) ((i + 1 : Nat) : Int)) v → Ev (fun k => rules_Expand.l1 k L x5 A L (L.length : Int) i l (l.length : Int) j i K acc) v := by
      intro x5 A i K l h5 hl hA hi d
      induction d with
      | zero =>
        intro j acc hd hj hacc v hv
        refine Ev.of_succ ?_
        simp only [rules_Expand.l1, show ¬ (j : Int) < (l.length : Int) from by omega, show x5.length < 3518437208883 from by omega, ↓reduceIte]
        rw [wrap_up i (by omega)]
        rw [List.drop_eq_nil_of_le (by omega)] at hv
        simp only [stepI, List.map_nil, List.append_nil] at hv
        exact hv
      | succ d ih =>
        intro j acc hd hj hacc v hv
        refine Ev.of_succ ?_
        have hjl : j < l.length := by omega
        have hm := hA _ (List.getElem_mem hjl)
        rw [← rd_get _ _ hjl] at hm
        simp only [rules_Expand.l1, show (j : Int) < (l.length : Int) from by omega, show (0 : Int) ≤ (j : Int) from by omega, hm.1, hm.2.1, hm.2.2, show acc.length < 17592186044416 from by omega, ↓reduceIte]
        rw [wrap_up j (by omega)]
        refine ih (j + 1) _ (by omega) (by omega) (by rw [List.length_append, List.length_singleton]; omega) v ?_
        rw [List.append_assoc]
        have e : stepI L (l.drop j) = (pos L (rd l (j : Int)).toNat : Int) :: stepI L (l.drop (j + 1)) := by
          rw [List.drop_eq_getElem_cons hjl, ← rd_get _ _ hjl]; rfl
        rw [e] at hv
        exact hv
    have loop : ∀ d i (A : List Int), L.length - i = d → i ≤ L.length → A.length = L.length → (∀ k : Nat, k < i → kdR L k ≠ 6 → rd A (k : Int) = (pos L k : Int)) → Ev (fun k => rules_Expand.l0 k L (expF L i) A L (L.length : Int) i) (expF L L.length, 0, 0) := by
      intro d
      induction d with
      | zero =>
        intro i A hd hi _ _
        obtain rfl : i = L.length := by omega
        refine Ev.of_succ ?_
        simp only [rules_Expand.l0, Int.lt_irrefl, ↓reduceIte]
        exact Ev.const _
      | succ d ih =>
        intro i A hd hi hAl hA
        refine Ev.of_succ ?_
        simp only [rules_Expand.l0, show (i : Int) < (L.length : Int) from by omega, show (0 : Int) ≤ (i : Int) from by omega, ↓reduceIte]
        by_cases h6 : kdR L i = 6
        · simp only [h6, ↓reduceIte]
          rw [wrap_up i (by omega)]
          have := ih (i + 1) A (by omega) (by omega) hAl (fun k hk hk6 => by
            by_cases e : k = i
            · subst e; exact absurd h6 hk6
            · exact hA k (by omega) hk6)
          rw [expF_succ, if_neg (by simp [ng, h6])] at this
          exact this
        · simp only [h6, hAl, show (i : Int) < (L.length : Int) from by omega, ↓reduceIte, Int.toNat_natCast]
          refine Ev.bind (inputs_ev L hN (Nat.le_refl _) hok.ins i (by omega)) ?_
          have hle := fl_length L.length (under L i)
          have hpl := pos_le L i
          have hset : ∀ k : Nat, k < i + 1 → kdR L k ≠ 6 → rd (A.set i ((expF L i).length : Int)) (k : Int) = (pos L k : Int) := fun k hk hk6 => by
            rw [rd_set _ _ _ _ (by omega)]
            by_cases e : i = k
            · rw [if_pos e, expF_length, e]
            · rw [if_neg e]; exact hA k (by omega) hk6
          refine l1 (expF L i) _ i (kdR L i) _ (by rw [expF_length]; omega) (by omega) (fun x hx => ?_) (by omega) _ 0 [] rfl (Nat.zero_le _) (Nat.le_refl _) _ ?_
          · obtain ⟨k, h1, h2, rfl⟩ := mem_fl.1 hx
            obtain ⟨h3, h4⟩ := under_lt hok.ins (by omega) h2
            refine ⟨by omega, by rw [List.length_set]; omega, ?_⟩
            rw [hset k (by omega) h4, Int.toNat_natCast]
          · have := ih (i + 1) (A.set i ((expF L i).length : Int)) (by omega) (by omega) (by rw [List.length_set]; exact hAl) hset
            rw [expF_succ, if_pos (by simp [ng, h6])] at this
            exact this
    exact loop _ 0 _ rfl (Nat.zero_le _) (by simp) (fun k hk => by omega)
  · rw [if_pos hc]
    simp only [show ((vf L).1 == 0) = false from beq_eq_false_iff_ne.2 hc, Bool.not_false, Bool.true_or, ↓reduceIte]
    exact Ev.const _
theorem ev_expands : Ev (fun k => changeforgelaw6_expands.f k) true := ⟨60, fun k hk => at_rounds (fun k => changeforgelaw6_expands.mono k) hk (by kernel_rfl)⟩
end Go.Proofs.YtepflpmngegdiaaDoor.H
end
section
namespace Go.Proofs.YtepflpmngegdiaaDoor.H
open Go.RowKit Go.Proofs.YtepflpmngegdiaaDoorW.PrintWords Go.Proofs.YtepflpmngegdiaaDoorW.PrintLast Go.Proofs.YtepflpmngegdiaaDoorW.PrintMore
set_option linter.unusedVariables false
set_option linter.unusedSimpArgs false
theorem pos_mono (L : List BR) {a b : Nat} (h : a ≤ b) : pos L a ≤ pos L b := by
  induction h with
  | refl => exact Nat.le_refl _
  | step _ ih => exact Nat.le_trans ih (by rw [pos_succ]; omega)
theorem pos_lt (L : List BR) {a b : Nat} (h : a < b) (ha : ng L a = true) : pos L a < pos L b := by
  have := pos_mono L (show a + 1 ≤ b from h)
  rw [pos_succ, if_pos ha] at this
  omega
theorem expF_at (L : List BR) (m : Nat) (hm : ng L m = true) : ∀ n, m < n → (expF L n)[pos L m]? = some (exS L m)
  | 0, h => by omega
  | n + 1, h => by
    rw [expF_succ]
    by_cases e : m = n
    · subst e
      rw [if_pos hm, ← expF_length L m, List.getElem?_append_right (Nat.le_refl _)]
      simp
    · have ih := expF_at L m hm n (by omega)
      by_cases hn : ng L n = true
      · rw [if_pos hn, List.getElem?_append_left (by rw [expF_length]; exact pos_lt L (by omega) hm)]
        exact ih
      · rw [if_neg hn]; exact ih
theorem expF_of (L : List BR) : ∀ n i, i < pos L n → ∃ r, r < n ∧ ng L r = true ∧ pos L r = i
  | 0, i, h => by simp [pos, fl_zero] at h
  | n + 1, i, h => by
    rw [pos_succ] at h
    by_cases hi : i < pos L n
    · obtain ⟨r, h1, h2, h3⟩ := expF_of L n i hi
      exact ⟨r, by omega, h2, h3⟩
    · by_cases hn : ng L n = true
      · rw [if_pos hn] at h
        exact ⟨n, by omega, hn, by omega⟩
      · rw [if_neg hn] at h; omega
theorem rd_step (X : List BS) (i : Nat) {s : BS} (h : X[i]? = some s) : rd_T44 X (i : Int) = s := by
  simp [rd_T44, List.getD_eq_getElem?_getD, h]
theorem fl_sorted (n : Nat) (q : Nat → Bool) : (fl n q).Pairwise (· < ·) := by
  unfold fl
  rw [List.pairwise_map]
  refine List.Pairwise.imp (fun h => ?_) (List.Pairwise.filter q List.pairwise_lt_range)
  exact Int.ofNat_lt.2 h
/-- The list of the inputs of the step of rule r. -/
abbrev ins (L : List BR) (r : Nat) : List Int := stepI L (fl L.length (under L r))
theorem ins_sorted {L : List BR} (hok : Ok L) {r : Nat} (hr : r < L.length) : (ins L r).Pairwise (· < ·) := by
  unfold ins stepI
  rw [List.pairwise_map]
  have := fl_sorted L.length (under L r)
  refine List.Pairwise.imp_of_mem (fun ha hb h => ?_) this
  obtain ⟨a, _, h2, rfl⟩ := mem_fl.1 ha
  obtain ⟨b, _, h4, rfl⟩ := mem_fl.1 hb
  rw [Int.toNat_natCast, Int.toNat_natCast]
  exact Int.ofNat_lt.2 (pos_lt L (by omega) (bne_iff_ne.2 (under_lt hok.ins hr h2).2))
theorem ins_mem {L : List BR} (hok : Ok L) {r : Nat} (hr : r < L.length) {x : Int} (hx : x ∈ ins L r) : ∃ m : Nat, m < r ∧ ng L m = true ∧ under L r m = true ∧ x = (pos L m : Int) := by
  unfold ins stepI at hx
  obtain ⟨y, hy, rfl⟩ := List.mem_map.1 hx
  obtain ⟨m, h1, h2, rfl⟩ := mem_fl.1 hy
  obtain ⟨h3, h4⟩ := under_lt hok.ins hr h2
  exact ⟨m, h3, bne_iff_ne.2 h4, h2, by rw [Int.toNat_natCast]⟩
theorem ins_len (L : List BR) (r : Nat) : (ins L r).length = (fl L.length (under L r)).length := by unfold ins stepI; rw [List.length_map]
/-- What the validity of rule r says of its leaves. -/
theorem typed_of {L : List BR} (hok : Ok L) {r : Nat} (hr : r < L.length) (h6 : kdR L r ≠ 6) :
    (1 ≤ kdR L r ∧ kdR L r ≤ 5) ∧ (∀ m : Nat, m < L.length → under L r m = true → perm (kdR L r) (kdR L m) = true) ∧ (kdR L r ≠ 1 → 0 < (ins L r).length) ∧ (kdR L r = 5 → (ins L r).length = 1) ∧ (kdR L r = 1 → (ins L r).length = 0) := by
  obtain ⟨hf, ht⟩ := code_form (hok.code r hr)
  obtain ⟨k1, k6, _⟩ := formC_ok hf
  unfold tcode at ht
  rw [if_neg h6] at ht
  unfold tyC at ht
  by_cases ha : (ksOf L (fl L.length (under L r))).all (perm (kdR L r)) = true
  · rw [if_pos ha] at ht
    have hp : ∀ m : Nat, m < L.length → under L r m = true → perm (kdR L r) (kdR L m) = true := fun m hm hu => by
      rw [List.all_eq_true] at ha
      exact ha _ (List.mem_map.2 ⟨(m : Int), mem_fl.2 ⟨m, hm, hu, rfl⟩, rfl⟩)
    by_cases hc : (kdR L r ≠ 1 ∧ (ksOf L (fl L.length (under L r))).any (fun a => a == req (kdR L r)) = false) ∨ (kdR L r = 5 ∧ (ksOf L (fl L.length (under L r))).length ≠ 1)
    · rw [if_pos hc] at ht; omega
    · rw [ksOf_len] at hc
      refine ⟨by omega, hp, fun h1 => ?_, fun h5 => ?_, fun h1 => ?_⟩
      · rw [ins_len]
        rcases Nat.eq_zero_or_pos (fl L.length (under L r)).length with h | h
        · refine absurd (.inl ⟨h1, ?_⟩) hc
          rw [List.eq_nil_of_length_eq_zero h]
          rfl
        · exact h
      · rw [ins_len]
        exact Decidable.not_not.1 fun h => hc (.inr ⟨h5, h⟩)
      · rw [ins_len]
        rcases Nat.eq_zero_or_pos (fl L.length (under L r)).length with h | h
        · exact h
        · obtain ⟨m, hm, hu, _⟩ := mem_fl.1 (List.getElem_mem h)
          have := hp m hm hu
          rw [h1] at this
          simp [perm] at this
  · rw [if_neg ha] at ht; omega
theorem sorted_rd {l : List Int} (h : l.Pairwise (· < ·)) {a : Nat} (h0 : 0 < a) (ha : a < l.length) : rd l ((a - 1 : Nat) : Int) < rd l (a : Int) := by
  rw [rd_get _ _ (show a - 1 < l.length by omega), rd_get _ _ ha]
  exact List.pairwise_iff_getElem.1 h _ _ (by omega) ha (by omega)
end Go.Proofs.YtepflpmngegdiaaDoor.H
end
section
namespace Go.Proofs.YtepflpmngegdiaaDoor.H
open Go.RowKit Go.Proofs.YtepflpmngegdiaaDoorW.PrintWords Go.Proofs.YtepflpmngegdiaaDoorW.PrintLast Go.Proofs.YtepflpmngegdiaaDoorW.PrintMore
set_option linter.unusedVariables false
set_option linter.unusedSimpArgs false
theorem ev_may (a b : Int) : Ev (fun _ => changeforgelaw6_may.f a b) (perm a b) := ev_perm a b
theorem pf_RulesStepsAreTyped : changeforgelaw6_RulesStepsAreTyped.Pure := by
  intro L _ _
  refine Ev.run ?_
  unfold changeforgelaw6_RulesStepsAreTyped.f
  refine Ev.bind (Expand_ev L) (Ev.bind ev_expands ?_)
  simp only [↓reduceIte]
  by_cases hc : (vf L).1 = 0
  · obtain ⟨hv, hok⟩ := vf_ok hc
    have hN := hok.len
    simp only [hv, ne_eq, not_true_eq_false, ↓reduceIte]
    refine Ev.of_succ ?_
    simp only [changeforgelaw6_RulesStepsAreTyped.j0, Bool.false_eq_true, ↓reduceIte]
    have hXl : (expF L L.length).length = pos L L.length := expF_length L _
    have hpl := pos_le L L.length
    have at_ : ∀ r, r < L.length → ng L r = true → rd_T44 (expF L L.length) (pos L r : Int) = exS L r := fun r hr hg => rd_step _ _ (expF_at L r hg _ hr)
    generalize expF L L.length = X at *
    have loop : ∀ d i, X.length - i = d → i ≤ X.length → Ev (fun k => changeforgelaw6_RulesStepsAreTyped.l0 k X i) true := by
      intro d
      induction d with
      | zero =>
        intro i hd hi
        refine Ev.of_succ ?_
        simp only [changeforgelaw6_RulesStepsAreTyped.l0, show ¬ (i : Int) < (X.length : Int) from by omega, ↓reduceIte]
        exact Ev.const _
      | succ d ih =>
        intro i hd hi
        obtain ⟨r, hr, hg, e⟩ := expF_of L L.length i (by omega)
        subst e
        have hs := at_ r hr hg
        have h6 : kdR L r ≠ 6 := bne_iff_ne.1 hg
        obtain ⟨hk, hp, t1, t5, t0⟩ := typed_of hok hr h6
        have hins : (ins L r).length = (stepI L (fl L.length (under L r))).length := rfl
        have hlen : (ins L r).length ≤ 30 := by rw [ins_len]; have := fl_length L.length (under L r); omega
        have l1 : ∀ d2 j, (ins L r).length - j = d2 → j ≤ (ins L r).length → Ev (fun k => changeforgelaw6_RulesStepsAreTyped.l1 k X (pos L r : Int) j) true := by
          intro d2
          induction d2 with
          | zero =>
            intro j hd2 hj
            refine Ev.of_succ ?_
            simp only [changeforgelaw6_RulesStepsAreTyped.l1, hs, exS, show (0 : Int) ≤ (pos L r : Int) from by omega, show (pos L r : Int) < (X.length : Int) from by omega, show ¬ (j : Int) < ((stepI L (fl L.length (under L r))).length : Int) from by omega, ↓reduceIte]
            rw [wrap_up _ (by omega)]
            exact ih (pos L r + 1) (by omega) (by omega)
          | succ d2 ih2 =>
            intro j hd2 hj
            refine Ev.of_succ ?_
            have hjl : j < (ins L r).length := by omega
            obtain ⟨m, h1, h2, h3, h4⟩ := ins_mem hok hr (List.getElem_mem hjl)
            rw [← rd_get _ _ hjl] at h4
            have hm := at_ m (by omega) h2
            have hlt := pos_lt L h1 h2
            simp only [changeforgelaw6_RulesStepsAreTyped.l1, hs, exS, show (0 : Int) ≤ (pos L r : Int) from by omega, show (pos L r : Int) < (X.length : Int) from by omega, show (j : Int) < ((stepI L (fl L.length (under L r))).length : Int) from by omega, show (0 : Int) ≤ (j : Int) from by omega, h4, ↓reduceIte]
            rw [wrap_lt (by omega) (by omega)]
            refine Ev.bind (ev_in _ _ _) ?_
            rw [decide_eq_true (show (0 : Int) ≤ (pos L m : Int) ∧ (pos L m : Int) ≤ (pos L r : Int) - 1 from by omega)]
            simp only [show (0 : Int) ≤ (pos L m : Int) from by omega, show (pos L m : Int) < (X.length : Int) from by omega, hm, exS, ↓reduceIte]
            refine Ev.bind (ev_may _ _) ?_
            simp only [hp m (by omega) h3, ↓reduceIte]
            have hn := ih2 (j + 1) (by omega) (by omega)
            rw [wrap_up j (by omega)]
            by_cases c3 : (j : Int) > 0
            · have e : wrap64 ((j : Int) - 1) = ((j - 1 : Nat) : Int) := by rw [wrap_lt (by omega) (by omega)]; omega
              have hso := sorted_rd (ins_sorted hok hr) (a := j) (by omega) hjl
              rw [h4] at hso
              have hso' : ¬ (pos L m : Int) ≤ rd (stepI L (fl L.length (under L r))) ((j - 1 : Nat) : Int) := Int.not_le.2 hso
              simp only [c3, e, show (0 : Int) ≤ ((j - 1 : Nat) : Int) from by omega, show ((j - 1 : Nat) : Int) < ((stepI L (fl L.length (under L r))).length : Int) from by omega, hso', ↓reduceIte]
              exact hn
            · simp only [c3, ↓reduceIte]
              exact hn
        have j2 : Ev (fun k => changeforgelaw6_RulesStepsAreTyped.j2 k X (pos L r : Int) false) true := by
          refine Ev.of_succ ?_
          simp only [changeforgelaw6_RulesStepsAreTyped.j2, Bool.false_eq_true, ↓reduceIte]
          exact l1 _ 0 rfl (Nat.zero_le _)
        have hx : (((kdR L r) == 1) != (((ins L r).length : Int) == 0)) = false := by
          by_cases h1 : kdR L r = 1
          · rw [t0 h1, h1]; rfl
          · have := t1 h1
            rw [show (kdR L r == 1) = false from beq_eq_false_iff_ne.2 h1, show (((ins L r).length : Int) == 0) = false from beq_eq_false_iff_ne.2 (by omega)]
            rfl
        refine Ev.of_succ ?_
        simp only [changeforgelaw6_RulesStepsAreTyped.l0, show (pos L r : Int) < (X.length : Int) from by omega, show (0 : Int) ≤ (pos L r : Int) from by omega, hs, exS, ↓reduceIte]
        refine Ev.bind (ev_in _ _ _) ?_
        rw [decide_eq_true hk]
        simp only [↓reduceIte]
        by_cases h5 : kdR L r = 5
        · have e5 : ((stepI L (fl L.length (under L r))).length : Int) = 1 := by have := t5 h5; omega
          simp only [h5, e5, ↓reduceIte]
          exact j2
        · simp only [h5, ↓reduceIte]
          rw [show ((kdR L r == 1) != (((stepI L (fl L.length (under L r))).length : Int) == 0)) = false from hx]
          exact j2
    exact loop _ 0 rfl (Nat.zero_le _)
  · simp only [hc, ne_eq, not_false_eq_true, ↓reduceIte, List.length_nil, Int.natCast_zero, gt_iff_lt, Int.lt_irrefl, decide_false]
    refine Ev.of_succ ?_
    simp only [changeforgelaw6_RulesStepsAreTyped.j0, Bool.false_eq_true, ↓reduceIte]
    refine Ev.of_succ ?_
    simp only [changeforgelaw6_RulesStepsAreTyped.l0, List.length_nil, Int.natCast_zero, Int.lt_irrefl, ↓reduceIte]
    exact Ev.const _
end Go.Proofs.YtepflpmngegdiaaDoor.H
end
