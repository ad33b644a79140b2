/- Texts that the law WorkersNextMatchesSpec comes to, printed and by hand, what is not used left out. -/
import Derived.Test.YtepflpmngegdiaaCWorkersNextMatchesSpec9
import Derived.Deep.Slices
import Derived.ProofKit
import Derived.SizedLaws
import Derived.OpenShut
section
namespace Go.Proofs.Ytepflpmngegdiaa.H
open Go.RowKit Go.Proofs.YtepflpmngegdiaaW.PrintWords Go.Proofs.YtepflpmngegdiaaW.PrintLast Go.Proofs.YtepflpmngegdiaaW.PrintMore
set_option linter.unusedVariables false
set_option linter.unusedSimpArgs false
open Go.Deep
/-- What reads as data at type t has d's shape; F is what is then known of the value. -/
structure Opens {α : Type} (P : Program) (d : Kd α) (F : α → Prop) (t : TypeId) : Prop where
  size : P.cellsOf t = d.sz
  get : ∀ {H : Type} {enc : TypeId × Value → H} {w : World} {base : Nat} {spare : Nat → Bool} {held : Bool} {fuel : Nat} {cs : List Value} {x : DataW H × List MemPlace},
    DataW.trod enc P w base spare held fuel t cs = some x → ∃ v : α, d.K w v cs ∧ F v
theorem opens_int {P : Program} {t : TypeId} {k : IntKind} (hu : P.underlying t = some (.int k)) (hc : P.cellsOf t = 1) : Opens P (Kd.int k) (fun n => (Lit.int k n).wf = true) t :=
  ⟨hc, fun h => by
    obtain ⟨n, rfl, _, hw⟩ := DataW.trod_int hu h
    exact ⟨n, rfl, hw⟩⟩
theorem list_of {α : Type} (Q : Nat → α → Prop) : ∀ n : Nat, (∀ i, i < n → ∃ v, Q i v) → ∃ l : List α, l.length = n ∧ ∀ i v, l[i]? = some v → Q i v
  | 0, _ => ⟨[], rfl, fun i v h => by simp at h⟩
  | n + 1, h => by
    obtain ⟨l, hl, hq⟩ := list_of Q n (fun i hi => h i (by omega))
    obtain ⟨v, hv⟩ := h n (by omega)
    refine ⟨l ++ [v], by simp [hl], fun i u hu => ?_⟩
    rcases Nat.lt_or_ge i l.length with hi | hi
    · rw [List.getElem?_append_left hi] at hu
      exact hq i u hu
    · have hi' : i = n := by
        have := (List.getElem?_eq_some_iff.1 hu).1
        simp at this
        omega
      subst hi'
      have : v = u := by simpa [hl] using hu
      subst this
      exact hv
theorem opens_slice {α : Type} {P : Program} {d : Kd α} {F : α → Prop} {t e : TypeId} (hd : Opens P d F e) (hu : P.underlying t = some (.slice e)) (hc : P.cellsOf t = 1) :
    Opens P (Kd.slice e d) (fun l => l.length ≤ 9223372036854775807 ∧ ∀ x ∈ l, F x) t :=
  ⟨hc, fun {H enc w base spare held fuel cs x} h => by
    rcases open_slice hu h with ⟨rfl, _⟩ | ⟨a, len, cap, m, n, D, Pl, rfl, _, hl, hm, hmm, _, hx⟩
    · exact ⟨[], ⟨none, 0, rfl, Nat.le_refl _, Kd.C_nil _ _⟩, by simp⟩
    · unfold maxLen at hm
      have hlm : len ≤ m := by rw [hmm]; split <;> omega
      obtain ⟨l, hll, hq⟩ := list_of (fun i v => ∃ c, w.cells? base (a.add (i * P.cellsOf e)) (P.cellsOf e) = some c ∧ d.K w v c ∧ F v) len (fun i hi => by
        obtain ⟨c, h1, h2⟩ := hx i (by omega)
        obtain ⟨v, h3, h4⟩ := hd.get h2
        exact ⟨v, c, h1, h3, h4⟩)
      refine ⟨l, ⟨some a, cap, by rw [hll], by omega, rfl, by omega, fun _ => ⟨a, rfl, fun j p hj => ?_⟩⟩, by omega, fun v hv => ?_⟩
      · obtain ⟨c, h1, h2, _⟩ := hq j p hj
        refine ⟨c, d.K_len h2, h2, fun i u hi => ?_⟩
        have h5 := World.cells?_some h1
        have hlen : c.length = P.cellsOf e := by rw [d.K_len h2, hd.size]
        have hi' : i < P.cellsOf e := by rw [← hlen]; exact (List.getElem?_eq_some_iff.1 hi).1
        have ha : (a.add (j * d.sz + i)) = (a.add (j * P.cellsOf e)).add i := by
          rw [hd.size]
          unfold Addr.add
          by_cases h1 : j * d.sz = 0 <;> by_cases h2 : i = 0 <;> simp [h1, h2, Nat.add_assoc]
        rw [ha]
        obtain ⟨_, h6, h7⟩ := h5
        have h8 := h7 i hi'
        rw [hi] at h8
        exact h8
      · obtain ⟨i, hi⟩ := List.mem_iff_getElem?.1 hv
        obtain ⟨c, _, _, h3⟩ := hq i v hi
        exact h3⟩
/-- The fields from number i on, which lie from off on. -/
structure OpensAt {α : Type} (P : Program) (fs : Array Field) (i off : Nat) (d : Kd α) (F : α → Prop) : Prop where
  get : ∀ {H : Type} {enc : TypeId × Value → H} {w : World} {base : Nat} {spare : Nat → Bool} {held : Bool} {fuel : Nat} {cs : List Value} {xs : List (DataW H × List MemPlace)},
    xs.length = fs.size → (∀ (i : Nat) (f : Field), fs[i]? = some f → DataW.trod enc P w base spare held fuel f.type ((cs.drop f.offset).take (P.cellsOf f.type)) = xs[i]?) →
    ∃ v : α, d.K w v ((cs.drop off).take d.sz) ∧ F v
theorem opensAt_one {α : Type} {P : Program} {fs : Array Field} {i off : Nat} {d : Kd α} {F : α → Prop} (f : Field) (hf : fs[i]? = some f) (ho : f.offset = off) (hd : Opens P d F f.type) : OpensAt P fs i off d F := by
  refine ⟨fun {H enc w base spare held fuel cs xs} hlen h => ?_⟩
  have h1 := h i f hf
  have hi : i < xs.length := by rw [hlen]; exact (Array.getElem?_eq_some_iff.1 hf).1
  rw [List.getElem?_eq_getElem hi, ho, hd.size] at h1
  exact hd.get h1
theorem opensAt_cons {α β : Type} {P : Program} {fs : Array Field} {i off : Nat} {a : Kd α} {b : Kd β} {F : α → Prop} {G : β → Prop} (h0 : OpensAt P fs i off a F) (h1 : OpensAt P fs (i + 1) (off + a.sz) b G) : OpensAt P fs i off (Kd.pair a b) (fun x => F x.1 ∧ G x.2) := by
  refine ⟨fun {H enc w base spare held fuel cs xs} hlen h => ?_⟩
  obtain ⟨v0, k0, f0⟩ := h0.get hlen h
  obtain ⟨v1, k1, f1⟩ := h1.get hlen h
  refine ⟨(v0, v1), ⟨_, _, ?_, k0, k1⟩, f0, f1⟩
  show (cs.drop off).take (a.sz + b.sz) = _
  rw [List.take_add, List.drop_drop]
theorem opens_struct {α : Type} {P : Program} {t : TypeId} {fs : Array Field} {d : Kd α} {F : α → Prop} (hu : P.underlying t = some (.struct fs)) (hc : P.cellsOf t = d.sz) (h : OpensAt P fs 0 0 d F) : Opens P d F t :=
  ⟨hc, fun {H enc w base spare held fuel cs x} hx => by
    obtain ⟨xs, n, _, _, hl, hlen, hf⟩ := DataW.trod_struct hu hx
    obtain ⟨v, hk, hF⟩ := h.get hlen hf
    refine ⟨v, ?_, hF⟩
    rw [List.drop_zero, List.take_of_length_le (by rw [hl, hc]; exact Nat.le_refl _)] at hk
    exact hk⟩
theorem opens_iso {α β : Type} {P : Program} {t : TypeId} {d : Kd α} {F : α → Prop} (f : β → α) (g : α → β) (hg : ∀ v, f (g v) = v) (h : Opens P d F t) : Opens P (Kd.iso d f) (fun x => F (f x)) t :=
  ⟨h.size, fun hx => by
    obtain ⟨v, hk, hF⟩ := h.get hx
    refine ⟨g v, ?_, ?_⟩
    · show d.K _ (f (g v)) _
      rw [hg]
      exact hk
    · show F (f (g v))
      rw [hg]
      exact hF⟩
/-- How long a slice that came in may be. -/
theorem sized_any {H : Type} {enc : TypeId × Value → H} {P : Program} {W : World} {base : Nat} {spare : Nat → Bool} {held : Bool} {t e : TypeId} {a : Option Addr} {len cap : Nat} {d : DataW H} {ps : List MemPlace} {ts : List TypeId} {ds : List (DataW H)} {j : Nat}
    (hsz : (DataW.weightsEach P ts ds).all (· ≤ reachBytes) = true) (ht : ts[j]? = some t) (hd : ds[j]? = some d) (hu : P.underlying t = some (.slice e)) {B : Nat} (hB : P.bytesOf e = B)
    (h : DataW.Trod enc P W base spare held t (.slice a len cap) d ps) : len * B ≤ 140737488351232 := by
  obtain ⟨fuel, hf⟩ := h
  rcases open_slice hu hf with ⟨hcs, _⟩ | ⟨a', len', cap', m, n, D, Pl, hcs, _, hl, hm, hmm, hx, _⟩
  · simp [Value.cells] at hcs
    obtain ⟨rfl, rfl, rfl⟩ := hcs
    simp
  · simp [Value.cells] at hcs
    obtain ⟨rfl, rfl, rfl⟩ := hcs
    obtain ⟨hx, _⟩ := Prod.mk.inj hx
    subst hx
    have z := sized_slice hsz ht hd hu
    rw [hB] at z
    simp only [List.length_map, List.length_range] at z
    exact Nat.le_trans (Nat.mul_le_mul_right _ (Nat.le_add_right _ _)) z
def Fit_T44 (x : S44) : Prop := ((Lit.int .i64 x.f0).wf = true) ∧ ((Lit.int .i64 x.f1).wf = true) ∧ ((Lit.int .i64 x.f2).wf = true) ∧ ((Lit.int .i64 x.f3).wf = true)
theorem op_T44 : Opens Try.prog k44 Fit_T44 44 := by
  have h := opens_iso (fun x : S44 => (x.f0, x.f1, x.f2, x.f3)) (fun v => ⟨v.1, v.2.1, v.2.2.1, v.2.2.2⟩) (fun _ => rfl) (opens_struct Try.underlying44 (by kernel_rfl) (opensAt_cons (opensAt_one _ rfl rfl (opens_int Try.underlying3 (by kernel_rfl))) (opensAt_cons (opensAt_one _ rfl rfl (opens_int Try.underlying3 (by kernel_rfl))) (opensAt_cons (opensAt_one _ rfl rfl (opens_int Try.underlying3 (by kernel_rfl))) (opensAt_one _ rfl rfl (opens_int Try.underlying3 (by kernel_rfl)))))))
  exact ⟨h.size, fun hx => h.get hx⟩
end Go.Proofs.Ytepflpmngegdiaa.H
end
section
namespace Go.Proofs.Ytepflpmngegdiaa.H
open Go.RowKit Go.Proofs.YtepflpmngegdiaaW.PrintWords Go.Proofs.YtepflpmngegdiaaW.PrintLast Go.Proofs.YtepflpmngegdiaaW.PrintMore
set_option linter.unusedVariables false
set_option linter.unusedSimpArgs false
def changeforgelaw6_WorkersNextMatchesSpec.Pure : Prop := ∀ (a0 : Int) (a1 : Int) (a2 : Int) (l3 : List (S44)), ((Lit.int .i64 a0).wf = true) → ((Lit.int .i64 a1).wf = true) → ((Lit.int .i64 a2).wf = true) → (l3.length ≤ 9223372036854775807 ∧ ∀ x_ ∈ l3, Fit_T44 x_) → l3.length * 32 ≤ 140737488351232 → ∃ k, changeforgelaw6_WorkersNextMatchesSpec.f k a0 a1 a2 l3 = some true
end Go.Proofs.Ytepflpmngegdiaa.H
end
section
namespace Go.Proofs.Ytepflpmngegdiaa.H
open Go.RowKit Go.Proofs.YtepflpmngegdiaaW.PrintWords Go.Proofs.YtepflpmngegdiaaW.PrintLast Go.Proofs.YtepflpmngegdiaaW.PrintMore
set_option linter.unusedVariables false
set_option linter.unusedSimpArgs false

def changeforgeref5_Has.l0 : Nat → List Int → Int → Int → Option (Bool)
  | 0, _, _, _ => none
  | k + 1, x0, x1, x5 => if x5 < (x0.length : Int) then (if 0 ≤ x5 then (if (rd x0 x5) = x1 then (some true) else (changeforgeref5_Has.l0 k x0 x1 (wrap64 (x5 + 1)))) else (none)) else (some false)
def changeforgeref5_Has.f (k : Nat) (l0 : List Int) (a1 : Int) : Option (Bool) := changeforgeref5_Has.l0 k l0 a1 0
theorem changeforgeref5_Has.mono_l : ∀ k, (∀ y0 y1 y2, LeO (changeforgeref5_Has.l0 k y0 y1 y2) (changeforgeref5_Has.l0 (k + 1) y0 y1 y2))
  | 0 => fun _ _ _ r h => by simp [changeforgeref5_Has.l0] at h
  | k + 1 => by
    have ih0 := changeforgeref5_Has.mono_l k
    · intro y0 y1 y2
      unfold changeforgeref5_Has.l0
      repeat' first
      | (with_reducible exact ih0 _ _ _)
      | (with_reducible exact LeO.refl _)
      | (with_reducible exact LeO.none _)
      | (with_reducible refine LeO.ite ?_ ?_)
      | (with_reducible refine LeO.bind ?_ (fun _ => ?_))
      | exact ih0 _ _ _
      | exact LeO.none _
      | refine LeO.ite ?_ ?_
      | refine LeO.bind ?_ (fun _ => ?_)
theorem changeforgeref5_Has.mono : ∀ a0 a1 k, LeO (changeforgeref5_Has.f k a0 a1) (changeforgeref5_Has.f (k + 1) a0 a1) := by
  intro a0 a1 k
  have ih0 := changeforgeref5_Has.mono_l k
  unfold changeforgeref5_Has.f
  repeat' first
      | (with_reducible exact ih0 _ _ _)
      | (with_reducible exact LeO.refl _)
      | (with_reducible exact LeO.none _)
      | (with_reducible refine LeO.ite ?_ ?_)
      | (with_reducible refine LeO.bind ?_ (fun _ => ?_))
      | exact ih0 _ _ _
      | exact LeO.none _
      | refine LeO.ite ?_ ?_
      | refine LeO.bind ?_ (fun _ => ?_)
end Go.Proofs.Ytepflpmngegdiaa.H
end
section
namespace Go.Proofs.Ytepflpmngegdiaa.H
open Go.RowKit Go.Proofs.YtepflpmngegdiaaW.PrintWords Go.Proofs.YtepflpmngegdiaaW.PrintLast Go.Proofs.YtepflpmngegdiaaW.PrintMore
set_option linter.unusedVariables false
set_option linter.unusedSimpArgs false
open Go.RowKit
abbrev WE := S44
theorem wrap_lt {x : Int} (h0 : -9223372036854775808 ≤ x) (h1 : x < 9223372036854775808) : wrap64 x = x := by unfold wrap64; omega
def wStep (w now : Int) (e : WE) : Int := if e.f1 = w then (if e.f0 = 1 then e.f2 else if e.f0 = 3 then -2 else -1) else now
def workingOn (l : List WE) (w : Int) : Int := l.foldl (wStep w) (-1)
abbrev Lim (l : List WE) : Prop := l.length ≤ 4398046511104
theorem wo_l0 (l : List WE) (w : Int) (hl : Lim l) : ∀ (d i : Nat) (now : Int) (k : Nat), l.length - i = d → i ≤ l.length → d < k → changeforgeref6_WorkingOn.l0 k l w now i = some ((l.drop i).foldl (wStep w) now) := by
  intro d
  induction d with
  | zero =>
    intro i now k hd hi hk
    obtain ⟨k, rfl⟩ : ∃ m, k = m + 1 := ⟨k - 1, by omega⟩
    simp only [changeforgeref6_WorkingOn.l0]
    rw [if_neg (by omega), List.drop_eq_nil_of_le (by omega)]
    rfl
  | succ d ih =>
    intro i now k hd hi hk
    obtain ⟨k, rfl⟩ : ∃ m, k = m + 1 := ⟨k - 1, by omega⟩
    simp only [changeforgeref6_WorkingOn.l0]
    rw [if_pos (by omega), if_pos (by omega), wrap_lt (by omega) (by omega), drop_at l i (by omega), List.foldl_cons]
    have hn := fun now => ih (i + 1) now k (by omega) (by omega) (by omega)
    rw [show ((i : Int) + 1) = ((i + 1 : Nat) : Int) from by omega]
    by_cases h1 : (rd_T44 l i).f1 = w
    · rw [if_pos h1]
      by_cases h2 : (rd_T44 l i).f0 = 1
      · rw [if_pos h2, hn, show wStep w now (rd_T44 l i) = (rd_T44 l i).f2 from by unfold wStep; rw [if_pos h1, if_pos h2]]
      · rw [if_neg h2]
        by_cases h3 : (rd_T44 l i).f0 = 3
        · rw [if_pos h3, hn, show wStep w now (rd_T44 l i) = -2 from by unfold wStep; rw [if_pos h1, if_neg h2, if_pos h3]]
        · rw [if_neg h3, hn, show wStep w now (rd_T44 l i) = -1 from by unfold wStep; rw [if_pos h1, if_neg h2, if_neg h3]]
    · rw [if_neg h1, hn, show wStep w now (rd_T44 l i) = now from by unfold wStep; rw [if_neg h1]]
theorem ev_WorkingOn (l : List WE) (w : Int) (hl : Lim l) (k : Nat) (hk : l.length < k) : changeforgeref6_WorkingOn.f k l w = some (workingOn l w) := by
  unfold changeforgeref6_WorkingOn.f workingOn
  have := wo_l0 l w hl l.length 0 (-1) k (by omega) (by omega) hk
  simpa using this
/-- The first report of worker w for job j among the events behind p. -/
def repFrom (w j : Int) : List WE → List WE → Option Int
  | _, [] => none
  | p, e :: es => if e.f0 = 2 ∧ e.f1 = w ∧ workingOn p w = j then some e.f3 else repFrom w j (p ++ [e]) es
def reportedO (l : List WE) (w j : Int) : Option Int := repFrom w j [] l
def reported (l : List WE) (w j : Int) : Int := (reportedO l w j).getD (-1)
theorem take_succ_rd (l : List WE) (i : Nat) (h : i < l.length) : l.take (i + 1) = l.take i ++ [rd_T44 l i] := by
  rw [List.take_succ_eq_append_getElem h]
  congr 2
  simp [rd_T44, List.getD_eq_getElem?_getD, h]
theorem rep_l0 (l : List WE) (w j : Int) (hl : Lim l) : ∀ (d i : Nat) (k : Nat), l.length - i = d → i ≤ l.length → l.length + 1 + d < k → changeforgeref6_Reported.l0 k l w j i = some ((repFrom w j (l.take i) (l.drop i)).getD (-1)) := by
  intro d
  induction d with
  | zero =>
    intro i k hd hi hk
    obtain ⟨k, rfl⟩ : ∃ m, k = m + 1 := ⟨k - 1, by omega⟩
    simp only [changeforgeref6_Reported.l0]
    rw [if_neg (by omega), List.drop_eq_nil_of_le (by omega)]
    rfl
  | succ d ih =>
    intro i k hd hi hk
    obtain ⟨k, rfl⟩ : ∃ m, k = m + 1 := ⟨k - 1, by omega⟩
    simp only [changeforgeref6_Reported.l0]
    rw [if_pos (by omega), if_pos (by omega), wrap_lt (by omega) (by omega), drop_at l i (by omega)]
    have hn := ih (i + 1) k (by omega) (by omega) (by omega)
    rw [show ((i : Int) + 1) = ((i + 1 : Nat) : Int) from by omega, hn, take_succ_rd l i (by omega)]
    show _ = some ((if _ then _ else _ : Option Int).getD (-1))
    by_cases h1 : (rd_T44 l i).f0 = 2
    · rw [if_pos h1]
      by_cases h2 : (rd_T44 l i).f1 = w
      · rw [if_pos h2, if_pos (by omega), Int.toNat_natCast, ev_WorkingOn (l.take i) w (by unfold Lim at *; rw [List.length_take]; omega) k (by rw [List.length_take]; omega)]
        simp only [Option.bind_some]
        by_cases h3 : workingOn (l.take i) w = j
        · rw [if_pos h3, if_pos ⟨h1, h2, h3⟩]; rfl
        · rw [if_neg h3, if_neg (fun h => h3 h.2.2)]
      · rw [if_neg h2, if_neg (fun h => h2 h.2.1)]
    · rw [if_neg h1, if_neg (fun h => h1 h.1)]
theorem ev_Reported (l : List WE) (w j : Int) (hl : Lim l) (k : Nat) (hk : 2 * l.length + 1 < k) : changeforgeref6_Reported.f k l w j = some (reported l w j) := by
  unfold changeforgeref6_Reported.f reported reportedO
  have := rep_l0 l w j hl l.length 0 k (by omega) (by omega) (by omega)
  simpa using this
def cntR (l : List WE) (N : Nat) (j v : Int) : Nat := (List.range N).countP fun (w : Nat) => decide (reported l w j = v)
def accFrom (N : Nat) (need j : Int) : List WE → List WE → Option Int
  | _, [] => none
  | p, e :: es => if e.f0 = 2 ∧ workingOn p e.f1 = j ∧ need ≤ (cntR (p ++ [e]) N j e.f3 : Int) then some e.f3 else accFrom N need j (p ++ [e]) es
def acceptedO (l : List WE) (N : Nat) (need j : Int) : Option Int := accFrom N need j [] l
def accepted (l : List WE) (N : Nat) (need j : Int) : Int := (acceptedO l N need j).getD (-1)
theorem countP_range_succ (p : Nat → Bool) (n : Nat) : (List.range (n + 1)).countP p = (List.range n).countP p + if p n then 1 else 0 := by
  rw [List.range_succ, List.countP_append]
  simp [List.countP_cons, List.countP_nil]
theorem acc_l1 (l : List WE) (N : Nat) (need j : Int) (hl : Lim l) (hN : N ≤ 8) (i : Nat) (hi : i < l.length) (A : Int) (k0 : Nat)
    (hA : ∀ k, k0 ≤ k → changeforgeref6_Accepted.l0 k l N need j ((i + 1 : Nat) : Int) = some A) : ∀ (d x : Nat) (k : Nat), N - x = d → x ≤ N → k0 + 2 * l.length + 3 + d < k →
    changeforgeref6_Accepted.l1 k l N need j i (((List.range x).countP fun (w : Nat) => decide (reported (l.take (i + 1)) w j = (rd_T44 l i).f3) : Nat) : Int) x =
      some (if need ≤ (cntR (l.take (i + 1)) N j (rd_T44 l i).f3 : Int) then (rd_T44 l i).f3 else A) := by
  intro d
  induction d with
  | zero =>
    intro x k hd hx hk
    obtain rfl : x = N := by omega
    obtain ⟨k, rfl⟩ : ∃ m, k = m + 1 := ⟨k - 1, by omega⟩
    simp only [changeforgeref6_Accepted.l1]
    rw [if_neg (by omega), wrap_lt (by omega) (by omega)]
    by_cases h : need ≤ (cntR (l.take (i + 1)) x j (rd_T44 l i).f3 : Int)
    · rw [if_pos h, if_pos (by exact h), if_pos (by omega), if_pos (by omega)]
    · rw [if_neg h, if_neg (by exact h), show ((i : Int) + 1) = ((i + 1 : Nat) : Int) from by omega, hA k (by omega)]
  | succ d ih =>
    intro x k hd hx hk
    obtain ⟨k, rfl⟩ : ∃ m, k = m + 1 := ⟨k - 1, by omega⟩
    simp only [changeforgeref6_Accepted.l1]
    have hc : (List.range x).countP (fun (w : Nat) => decide (reported (l.take (i + 1)) w j = (rd_T44 l i).f3)) ≤ x := Nat.le_trans List.countP_le_length (by simp)
    rw [if_pos (by omega), wrap_lt (x := (i : Int) + 1) (by omega) (by omega), if_pos (by omega), if_pos (by omega), show ((i : Int) + 1).toNat = i + 1 from by omega,
      ev_Reported (l.take (i + 1)) x j (by unfold Lim at *; rw [List.length_take]; omega) k (by rw [List.length_take]; omega)]
    simp only [Option.bind_some]
    rw [if_pos (by omega), if_pos (by omega), wrap_lt (x := (x : Int) + 1) (by omega) (by omega)]
    have hn := ih (x + 1) k (by omega) (by omega) (by omega)
    rw [countP_range_succ] at hn
    by_cases h : reported (l.take (i + 1)) x j = (rd_T44 l i).f3
    · rw [if_pos h, wrap_lt (by omega) (by omega)]
      rw [if_pos (by simpa using h)] at hn
      exact hn
    · rw [if_neg h]
      rw [if_neg (by simpa using h)] at hn
      exact hn
theorem acc_l0 (l : List WE) (N : Nat) (need j : Int) (hl : Lim l) (hN : N ≤ 8) : ∀ (d i : Nat) (k : Nat), l.length - i = d → i ≤ l.length → (d + 1) * (2 * l.length + 20) < k →
    changeforgeref6_Accepted.l0 k l N need j i = some ((accFrom N need j (l.take i) (l.drop i)).getD (-1)) := by
  intro d
  induction d with
  | zero =>
    intro i k hd hi hk
    obtain ⟨k, rfl⟩ : ∃ m, k = m + 1 := ⟨k - 1, by omega⟩
    simp only [changeforgeref6_Accepted.l0]
    rw [if_neg (by omega), List.drop_eq_nil_of_le (by omega)]
    rfl
  | succ d ih =>
    intro i k hd hi hk
    have hmul : (d + 1 + 1) * (2 * l.length + 20) = (d + 1) * (2 * l.length + 20) + (2 * l.length + 20) := Nat.succ_mul _ _
    rw [hmul] at hk
    clear hmul
    generalize (d + 1) * (2 * l.length + 20) = M at *
    obtain ⟨k, rfl⟩ : ∃ m, k = m + 1 := ⟨k - 1, by omega⟩
    simp only [changeforgeref6_Accepted.l0]
    rw [if_pos (by omega), if_pos (by omega), drop_at l i (by omega)]
    have hn := fun k (hk : M + 1 ≤ k) => ih (i + 1) k (by omega) (by omega) (by omega)
    rw [take_succ_rd l i (by omega)] at hn
    have hskip : ∀ k, M + 3 ≤ k → changeforgeref6_Accepted.j1 k l N need j i true = some ((accFrom N need j (l.take i ++ [rd_T44 l i]) (l.drop (i + 1))).getD (-1)) := fun k hk => by
      obtain ⟨k, rfl⟩ : ∃ m, k = m + 1 := ⟨k - 1, by omega⟩
      simp only [changeforgeref6_Accepted.j1]
      rw [if_pos trivial, wrap_lt (by omega) (by omega), show ((i : Int) + 1) = ((i + 1 : Nat) : Int) from by omega]
      exact hn k (by omega)
    show _ = some ((if _ then _ else _ : Option Int).getD (-1))
    by_cases h1 : (rd_T44 l i).f0 = 2
    · rw [if_pos h1, if_pos (by omega), Int.toNat_natCast, ev_WorkingOn (l.take i) _ (by unfold Lim at *; rw [List.length_take]; omega) k (by rw [List.length_take]; omega)]
      simp only [Option.bind_some]
      by_cases h2 : workingOn (l.take i) (rd_T44 l i).f1 = j
      · rw [show (workingOn (l.take i) (rd_T44 l i).f1 != j) = false from bne_eq_false_iff_eq.mpr h2]
        obtain ⟨k, rfl⟩ : ∃ m, k = m + 1 := ⟨k - 1, by omega⟩
        simp only [changeforgeref6_Accepted.j1]
        rw [if_neg (by simp)]
        have h3 := acc_l1 l N need j hl hN i (by omega) _ (M + 1) hn N 0 k (by omega) (by omega) (by omega)
        simp only [List.range_zero, List.countP_nil] at h3
        refine Eq.trans h3 ?_
        rw [take_succ_rd l i (by omega)]
        by_cases h4 : need ≤ (cntR (l.take i ++ [rd_T44 l i]) N j (rd_T44 l i).f3 : Int)
        · rw [if_pos h4, if_pos ⟨h1, h2, h4⟩]; rfl
        · rw [if_neg h4, if_neg (fun h => h4 h.2.2)]
      · rw [show (workingOn (l.take i) (rd_T44 l i).f1 != j) = true from bne_iff_ne.mpr h2, hskip k (by omega), if_neg (fun h => h2 h.2.1)]
    · rw [if_neg h1, hskip k (by omega), if_neg (fun h => h1 h.1)]
theorem ev_Accepted (l : List WE) (N : Nat) (need j : Int) (hl : Lim l) (hN : N ≤ 8) (k : Nat) (hk : (l.length + 1) * (2 * l.length + 20) < k) : changeforgeref6_Accepted.f k l N need j = some (accepted l N need j) := by
  unfold changeforgeref6_Accepted.f accepted acceptedO
  have := acc_l0 l N need j hl hN l.length 0 k (by omega) (by omega) hk
  simpa using this
theorem ev_in6 (a b c : Int) : changeforgeref6_in.f a b c = some (decide (b ≤ a ∧ a ≤ c)) := by
  unfold changeforgeref6_in.f
  by_cases h : a ≥ b
  · rw [if_pos h]; simp [show b ≤ a from h]
  · rw [if_neg h]; simp [show ¬ b ≤ a from h]
abbrev badState (k now : Int) : Prop := (k = 1 ∧ now ≠ -1) ∨ (k = 2 ∧ now < 0) ∨ (k = 3 ∧ now = -2) ∨ (k = 4 ∧ now ≠ -2)
/-- The error code of an event behind the events p. -/
def evCode (J N : Int) (p : List WE) (e : WE) : Int :=
  if ¬ (1 ≤ e.f0 ∧ e.f0 ≤ 4) then 4 else if ¬ (0 ≤ e.f1 ∧ e.f1 ≤ N - 1) then 3 else if (e.f0 ≠ 1 ∧ e.f2 ≠ 0) ∨ (e.f0 ≠ 2 ∧ e.f3 ≠ 0) then 5 else
    if (e.f0 = 1 ∧ ¬ (0 ≤ e.f2 ∧ e.f2 ≤ J - 1)) ∨ (e.f0 = 2 ∧ ¬ (0 ≤ e.f3 ∧ e.f3 ≤ 1000000000)) then 3 else
      if badState e.f0 (workingOn p e.f1) then 11 else if e.f0 = 1 ∧ 0 ≤ reported p e.f1 e.f2 then 7 else 0
theorem ec_j2 (l : List WE) (i : Nat) (hi : i < l.length) (hl : Lim l) (b : Bool) (f0 f1 f2 f3 : Int) (k : Nat) (hk : 2 * l.length + 2 < k) :
    changeforgeref6_eventCode.j2 k l i b f0 f1 f2 f3 = some (if b = true then 11 else if f0 = 1 ∧ 0 ≤ reported (l.take i) f1 f2 then 7 else 0) := by
  obtain ⟨k, rfl⟩ : ∃ m, k = m + 1 := ⟨k - 1, by omega⟩
  simp only [changeforgeref6_eventCode.j2]
  cases b
  · by_cases h : f0 = 1
    · rw [if_neg (by simp), if_pos h, if_pos (by omega), if_pos (by omega), Int.toNat_natCast, ev_Reported (l.take i) _ _ (by unfold Lim at *; rw [List.length_take]; omega) k (by rw [List.length_take]; omega)]
      simp only [Option.bind_some]
      by_cases h2 : 0 ≤ reported (l.take i) f1 f2
      · rw [if_pos h2, if_neg (by simp), if_pos ⟨h, h2⟩]
      · rw [if_neg h2, if_neg (by simp), if_neg (fun h => h2 h.2)]
    · rw [if_neg (by simp), if_neg h, if_neg (by simp), if_neg (fun h2 => h h2.1)]
  · rw [if_pos (by trivial), if_pos (by trivial)]
theorem ec_j1 (l : List WE) (i : Nat) (hi : i < l.length) (hl : Lim l) (b : Bool) (f0 f1 f2 f3 : Int) (k : Nat) (hk : 2 * l.length + 3 < k) :
    changeforgeref6_eventCode.j1 k l i b f0 f1 f2 f3 = some (if b = true then 3 else if badState f0 (workingOn (l.take i) f1) then 11 else if f0 = 1 ∧ 0 ≤ reported (l.take i) f1 f2 then 7 else 0) := by
  obtain ⟨k, rfl⟩ : ∃ m, k = m + 1 := ⟨k - 1, by omega⟩
  have h2 := fun b => ec_j2 l i hi hl b f0 f1 f2 f3 k (by omega)
  simp only [changeforgeref6_eventCode.j1, h2]
  cases b
  · rw [if_neg (by simp), if_pos (by omega), if_pos (by omega), Int.toNat_natCast, ev_WorkingOn (l.take i) _ (by unfold Lim at *; rw [List.length_take]; omega) k (by rw [List.length_take]; omega)]
    simp only [Option.bind_some]
    generalize workingOn (l.take i) f1 = now
    by_cases a1 : f0 = 1
    · subst a1
      by_cases n1 : now = -1 <;> simp [badState, n1]
    by_cases a2 : f0 = 2
    · subst a2
      by_cases n1 : now < 0 <;> simp [badState, n1]
    by_cases a3 : f0 = 3
    · subst a3
      by_cases n1 : now = -2 <;> simp [badState, n1]
    by_cases a4 : f0 = 4
    · subst a4
      by_cases n1 : now = -2 <;> simp [badState, n1]
    · simp [badState, a1, a2, a3, a4]
  · simp
theorem ec_j0 (J : Int) (l : List WE) (i : Nat) (hi : i < l.length) (hl : Lim l) (b : Bool) (f0 f1 f2 f3 : Int) (k : Nat) (hk : 2 * l.length + 4 < k) (h0 : 0 ≤ J) (h12 : J ≤ 12) :
    changeforgeref6_eventCode.j0 k J l i b f0 f1 f2 f3 = some (if b = true then 5 else if (f0 = 1 ∧ ¬ (0 ≤ f2 ∧ f2 ≤ J - 1)) ∨ (f0 = 2 ∧ ¬ (0 ≤ f3 ∧ f3 ≤ 1000000000)) then 3 else
      if badState f0 (workingOn (l.take i) f1) then 11 else if f0 = 1 ∧ 0 ≤ reported (l.take i) f1 f2 then 7 else 0) := by
  obtain ⟨k, rfl⟩ : ∃ m, k = m + 1 := ⟨k - 1, by omega⟩
  have h2 := fun b => ec_j1 l i hi hl b f0 f1 f2 f3 k (by omega)
  simp only [changeforgeref6_eventCode.j0, h2, ev_in6, Option.bind_some, wrap_lt (x := J - 1) (by omega) (by omega)]
  cases b
  · rw [if_neg (by simp)]
    by_cases a1 : f0 = 1
    · subst a1
      by_cases n1 : 0 ≤ f2 ∧ f2 ≤ J - 1 <;> simp [n1]
    by_cases a2 : f0 = 2
    · subst a2
      by_cases n1 : 0 ≤ f3 ∧ f3 ≤ 1000000000 <;> simp [n1]
    · simp [a1, a2]
  · simp
theorem ev_eventCode (J N : Int) (l : List WE) (i : Nat) (hi : i < l.length) (hl : Lim l) (h0 : 0 ≤ J) (h12 : J ≤ 12) (n1 : 1 ≤ N) (n8 : N ≤ 8) (k : Nat) (hk : 2 * l.length + 4 < k) :
    changeforgeref6_eventCode.f k J N l i = some (evCode J N (l.take i) (rd_T44 l i)) := by
  have h2 := fun b => ec_j0 J l i hi hl b (rd_T44 l i).f0 (rd_T44 l i).f1 (rd_T44 l i).f2 (rd_T44 l i).f3 k hk h0 h12
  unfold changeforgeref6_eventCode.f evCode
  simp only [h2, ev_in6, Option.bind_some, wrap_lt (x := N - 1) (by omega) (by omega)]
  rw [if_pos (by omega), if_pos (by omega)]
  generalize (rd_T44 l i).f0 = f0
  generalize (rd_T44 l i).f1 = f1
  generalize (rd_T44 l i).f2 = f2
  generalize (rd_T44 l i).f3 = f3
  by_cases a1 : 1 ≤ f0 ∧ f0 ≤ 4
  · rw [if_pos (decide_eq_true a1), if_neg (not_not_intro a1)]
    by_cases a2 : 0 ≤ f1 ∧ f1 ≤ N - 1
    · rw [if_pos (decide_eq_true a2), if_neg (not_not_intro a2)]
      by_cases a3 : f0 = 1
      · subst a3
        by_cases a4 : f3 = 0 <;> simp [a4]
      · by_cases a5 : f2 = 0
        · by_cases a6 : f0 = 2
          · subst a6
            simp [a5]
          · by_cases a4 : f3 = 0 <;> simp [a3, a4, a5, a6]
        · simp [a3, a5]
    · rw [if_neg (by rw [decide_eq_false a2]; exact Bool.false_ne_true), if_pos a2]
  · rw [if_neg (by rw [decide_eq_false a1]; exact Bool.false_ne_true), if_pos a1]
/-- The events behind p: the first fault. -/
def evFault (J N : Int) : List WE → List WE → Int → Int × Int
  | _, [], _ => (0, 0)
  | p, e :: es, i => if evCode J N p e = 0 then evFault J N (p ++ [e]) es (i + 1) else (evCode J N p e, i)
theorem ef_l0 (J N : Int) (l : List WE) (hl : Lim l) (h0 : 0 ≤ J) (h12 : J ≤ 12) (n1 : 1 ≤ N) (n8 : N ≤ 8) : ∀ (d i : Nat) (k : Nat), l.length - i = d → i ≤ l.length → 2 * l.length + 6 + d < k →
    changeforgeref6_EventsFault.l0 k J N l i = some (evFault J N (l.take i) (l.drop i) i) := by
  intro d
  induction d with
  | zero =>
    intro i k hd hi hk
    obtain ⟨k, rfl⟩ : ∃ m, k = m + 1 := ⟨k - 1, by omega⟩
    simp only [changeforgeref6_EventsFault.l0]
    rw [if_neg (by omega), List.drop_eq_nil_of_le (by omega)]
    rfl
  | succ d ih =>
    intro i k hd hi hk
    obtain ⟨k, rfl⟩ : ∃ m, k = m + 1 := ⟨k - 1, by omega⟩
    simp only [changeforgeref6_EventsFault.l0]
    rw [if_pos (by omega), ev_eventCode J N l i (by omega) hl h0 h12 n1 n8 k (by omega), drop_at l i (by omega)]
    simp only [Option.bind_some]
    show _ = some (if _ then _ else _)
    by_cases h : evCode J N (l.take i) (rd_T44 l i) = 0
    · rw [if_pos h, if_pos h, wrap_lt (by omega) (by omega), show ((i : Int) + 1) = ((i + 1 : Nat) : Int) from by omega, ih (i + 1) k (by omega) (by omega) (by omega), take_succ_rd l i (by omega)]
    · rw [if_neg h, if_neg h]
      rfl
def eventsFault (J N need : Int) (l : List WE) : Int × Int := if ¬ sizesOk J N need then (3, -1) else if 40 < l.length then (2, -1) else evFault J N [] l 0
theorem ev_EventsFault (J N need : Int) (l : List WE) (k : Nat) (hk : 200 < k) : changeforgeref6_EventsFault.f k J N need l = some (eventsFault J N need l) := by
  unfold changeforgeref6_EventsFault.f changeforgeref6_FarmFault.f eventsFault
  simp only [ev_in6, Option.bind_some, changeforgeref6_fault.f]
  by_cases hs : sizesOk J N need
  · rw [if_neg (not_not_intro hs)]
    obtain ⟨h1, h2, h3, h4, h5, h6⟩ := hs
    rw [if_pos (decide_eq_true ⟨h1, h2⟩), if_pos (decide_eq_true ⟨h3, h4⟩), if_pos (decide_eq_true ⟨h5, h6⟩)]
    simp only [Option.bind_some]
    rw [if_pos trivial]
    by_cases hl : 40 < l.length
    · rw [if_pos (by omega), if_pos hl]
    · rw [if_neg (by omega), if_neg hl]
      have := ef_l0 J N l (by unfold Lim; omega) h1 h2 h3 h4 l.length 0 k (by omega) (by omega) (by omega)
      simpa using this
  · rw [if_pos hs]
    by_cases a1 : 0 ≤ J ∧ J ≤ 12
    · rw [if_pos (decide_eq_true a1)]
      by_cases a2 : 1 ≤ N ∧ N ≤ 8
      · have a3 : ¬ (1 ≤ need ∧ need ≤ N) := fun h => hs ⟨a1.1, a1.2, a2.1, a2.2, h.1, h.2⟩
        rw [if_pos (decide_eq_true a2), if_neg (by rw [decide_eq_false a3]; exact Bool.false_ne_true)]
        rfl
      · rw [if_neg (by rw [decide_eq_false a2]; exact Bool.false_ne_true)]
        rfl
    · rw [if_neg (by rw [decide_eq_false a1]; exact Bool.false_ne_true)]
      rfl
def freeB (l : List WE) (w j : Int) : Bool := decide (workingOn l w = -1 ∧ reported l w j < 0)
theorem ev_free (l : List WE) (w j : Int) (hl : Lim l) (k : Nat) (hk : 2 * l.length + 1 < k) : changeforgelaw6_free.f k l w j = some (freeB l w j) := by
  unfold changeforgelaw6_free.f freeB
  rw [ev_WorkingOn l w hl k (by omega)]
  simp only [Option.bind_some]
  by_cases h : workingOn l w = -1
  · rw [if_pos h, ev_Reported l w j hl k hk]
    simp [h]
  · rw [if_neg h]
    simp [h]
end Go.Proofs.Ytepflpmngegdiaa.H
end
section
namespace Go.Proofs.Ytepflpmngegdiaa.H
open Go.RowKit Go.Proofs.YtepflpmngegdiaaW.PrintWords Go.Proofs.YtepflpmngegdiaaW.PrintLast Go.Proofs.YtepflpmngegdiaaW.PrintMore
set_option linter.unusedVariables false
set_option linter.unusedSimpArgs false
open Go.RowKit
theorem workingOn_snoc (p : List WE) (e : WE) (w : Int) : workingOn (p ++ [e]) w = wStep w (workingOn p w) e := by simp [workingOn, List.foldl_append]
theorem repFrom_snoc (w j : Int) (e : WE) : ∀ (es p : List WE), repFrom w j p (es ++ [e]) = (repFrom w j p es).or (if e.f0 = 2 ∧ e.f1 = w ∧ workingOn (p ++ es) w = j then some e.f3 else none)
  | [], p => by
    show (if _ then _ else _) = Option.or none _
    rw [List.append_nil]
    rfl
  | a :: es, p => by
    show (if _ then _ else _) = Option.or (if _ then _ else _) _
    by_cases h : a.f0 = 2 ∧ a.f1 = w ∧ workingOn p w = j
    · rw [if_pos h, if_pos h]; rfl
    · rw [if_neg h, if_neg h]
      have := repFrom_snoc w j e es (p ++ [a])
      rw [List.append_assoc] at this
      exact this
theorem reportedO_snoc (p : List WE) (e : WE) (w j : Int) : reportedO (p ++ [e]) w j = (reportedO p w j).or (if e.f0 = 2 ∧ e.f1 = w ∧ workingOn p w = j then some e.f3 else none) := repFrom_snoc w j e p []
theorem accFrom_snoc (N : Nat) (need j : Int) (e : WE) : ∀ (es p : List WE), accFrom N need j p (es ++ [e]) = (accFrom N need j p es).or (if e.f0 = 2 ∧ workingOn (p ++ es) e.f1 = j ∧ need ≤ (cntR (p ++ es ++ [e]) N j e.f3 : Int) then some e.f3 else none)
  | [], p => by
    show (if _ then _ else _) = Option.or none _
    rw [List.append_nil]
    rfl
  | a :: es, p => by
    show (if _ then _ else _) = Option.or (if _ then _ else _) _
    by_cases h : a.f0 = 2 ∧ workingOn p a.f1 = j ∧ need ≤ (cntR (p ++ [a]) N j a.f3 : Int)
    · rw [if_pos h, if_pos h]; rfl
    · rw [if_neg h, if_neg h]
      have := accFrom_snoc N need j e es (p ++ [a])
      simp only [List.append_assoc] at this ⊢
      exact this
theorem acceptedO_snoc (p : List WE) (e : WE) (N : Nat) (need j : Int) : acceptedO (p ++ [e]) N need j = (acceptedO p N need j).or (if e.f0 = 2 ∧ workingOn p e.f1 = j ∧ need ≤ (cntR (p ++ [e]) N j e.f3 : Int) then some e.f3 else none) := accFrom_snoc N need j e p []
theorem rd_set (l : List Int) (i j : Nat) (x : Int) (h : i < l.length) : rd (l.set i x) j = if i = j then x else rd l j := by
  unfold rd
  rw [Int.toNat_natCast, List.getD_eq_getElem?_getD, List.getD_eq_getElem?_getD, List.getElem?_set]
  split
  · rename_i e; subst e; simp [h]
  · rfl
theorem countP_rd (v : Int) (l : List Int) : l.countP (· == v) = (List.range l.length).countP fun (w : Nat) => decide (rd l w = v) := by
  have h : ∀ n, n ≤ l.length → (l.take n).countP (· == v) = (List.range n).countP fun (w : Nat) => decide (rd l w = v) := by
    intro n
    induction n with
    | zero => intro _; rfl
    | succ n ih =>
      intro hn
      rw [countP_take_succ l v n (by omega), ih (by omega), countP_range_succ]
      by_cases h : rd l (n : Int) = v <;> simp [h]
  have := h l.length (Nat.le_refl _)
  rwa [List.take_length] at this
structure Inv (F : Farm) (J N : Nat) (need : Int) (p : List WE) : Prop where
  wf : F.WF J N
  nd : F.need = need
  work : ∀ w : Nat, w < N → rd F.working w = workingOn p w
  rep : ∀ j w : Nat, j < J → w < N → rd (F.reports.getD j []) w = reported p w j
  acc : ∀ j : Nat, j < J → rd F.results j = accepted p N need j
  once : ∀ w j : Nat, w < N → workingOn p w = j → reportedO p w j = none
  pos : ∀ (w j v : Int), reportedO p w j = some v → 0 ≤ v
  apos : ∀ (j v : Int), acceptedO p N need j = some v → 0 ≤ v
  q1 : ∀ (j v : Int), acceptedO p N need j = some v → need ≤ (cntR p N j v : Int)
  q2 : ∀ (j : Nat) (v : Int), 0 ≤ v → need ≤ (cntR p N j v : Int) → acceptedO p N need j ≠ none
theorem Inv.start {J N need : Int} (h : sizesOk J N need) : Inv (newFarm J N need) J.toNat N.toNat need [] := by
  refine ⟨newFarm_wf h, rfl, fun w hw => ?_, fun j w hj hw => ?_, fun j hj => ?_, fun _ _ _ _ => rfl, fun _ _ _ h => (by cases h), fun _ _ h => (by cases h), fun _ _ h => (by cases h), fun j v hv hq => ?_⟩
  · simp [newFarm, rd, workingOn, List.getD_eq_getElem?_getD, List.getElem?_replicate, hw]
  · simp [newFarm, rd, reported, reportedO, repFrom, List.getD_eq_getElem?_getD, List.getElem?_replicate, hj, hw]
  · simp [newFarm, rd, accepted, acceptedO, accFrom, List.getD_eq_getElem?_getD, List.getElem?_replicate, hj]
  · exfalso
    have h1 := h.2.2.2.2.1
    have : cntR [] N.toNat j v = 0 := by
      unfold cntR
      rw [List.countP_eq_zero]
      intro w _
      rw [show reported [] w j = -1 from rfl, decide_eq_false (by omega)]
      exact Bool.false_ne_true
    rw [this] at hq
    have hq' : need ≤ 0 := hq
    omega
theorem reported_some {p : List WE} {w j v : Int} (h : reportedO p w j = some v) : reported p w j = v := by unfold reported; rw [h]; rfl
theorem reported_neg {p : List WE} {w j : Int} (hp : ∀ v, reportedO p w j = some v → 0 ≤ v) : reported p w j < 0 ↔ reportedO p w j = none := by
  unfold reported
  cases h : reportedO p w j with
  | none => simp
  | some v => have := hp v h; simp; omega
theorem Inv.code {F : Farm} {J N : Nat} {need : Int} {p : List WE} (h : Inv F J N need p) (e : WE) : (evOf F e).2 = evCode J N p e := by
  unfold evOf Farm.event
  rw [h.wf.ress, h.wf.work]
  have hf : formCode J N e.f0 e.f1 e.f2 e.f3 = if ¬ (1 ≤ e.f0 ∧ e.f0 ≤ 4) then 4 else if ¬ (0 ≤ e.f1 ∧ e.f1 ≤ N - 1) then 3 else if (e.f0 ≠ 1 ∧ e.f2 ≠ 0) ∨ (e.f0 ≠ 2 ∧ e.f3 ≠ 0) then 5 else
      if (e.f0 = 1 ∧ ¬ (0 ≤ e.f2 ∧ e.f2 ≤ (J : Int) - 1)) ∨ (e.f0 = 2 ∧ ¬ (0 ≤ e.f3 ∧ e.f3 ≤ 1000000000)) then 3 else 0 := by
    unfold formCode
    by_cases c1 : e.f0 < 1 ∨ 4 < e.f0
    · rw [if_pos c1, if_pos (show ¬ (1 ≤ e.f0 ∧ e.f0 ≤ 4) by omega)]
    rw [if_neg c1, if_neg (show ¬ ¬ (1 ≤ e.f0 ∧ e.f0 ≤ 4) by omega)]
    by_cases c2 : e.f1 < 0 ∨ (N : Int) ≤ e.f1
    · rw [if_pos c2, if_pos (show ¬ (0 ≤ e.f1 ∧ e.f1 ≤ (N : Int) - 1) by omega)]
    rw [if_neg c2, if_neg (show ¬ ¬ (0 ≤ e.f1 ∧ e.f1 ≤ (N : Int) - 1) by omega)]
    by_cases c3 : (e.f0 ≠ 1 ∧ e.f2 ≠ 0) ∨ (e.f0 ≠ 2 ∧ e.f3 ≠ 0)
    · rw [if_pos c3, if_pos c3]
    rw [if_neg c3, if_neg c3]
    by_cases c4 : e.f0 = 1 ∧ (e.f2 < 0 ∨ (J : Int) ≤ e.f2)
    · rw [if_pos c4, if_pos (show (e.f0 = 1 ∧ ¬ (0 ≤ e.f2 ∧ e.f2 ≤ (J : Int) - 1)) ∨ (e.f0 = 2 ∧ ¬ (0 ≤ e.f3 ∧ e.f3 ≤ 1000000000)) by omega)]
    rw [if_neg c4]
    by_cases c5 : e.f0 = 2 ∧ (e.f3 < 0 ∨ 1000000000 < e.f3)
    · rw [if_pos c5, if_pos (show (e.f0 = 1 ∧ ¬ (0 ≤ e.f2 ∧ e.f2 ≤ (J : Int) - 1)) ∨ (e.f0 = 2 ∧ ¬ (0 ≤ e.f3 ∧ e.f3 ≤ 1000000000)) by omega)]
    rw [if_neg c5, if_neg (show ¬ ((e.f0 = 1 ∧ ¬ (0 ≤ e.f2 ∧ e.f2 ≤ (J : Int) - 1)) ∨ (e.f0 = 2 ∧ ¬ (0 ≤ e.f3 ∧ e.f3 ≤ 1000000000))) by omega)]
  have hz := fun h0 => formCode_ok (J := J) (N := N) (k := e.f0) (wk := e.f1) (jb := e.f2) (vl := e.f3) h0
  unfold evCode
  by_cases c1 : ¬ (1 ≤ e.f0 ∧ e.f0 ≤ 4)
  · rw [if_pos c1] at hf ⊢; simp [hf]
  rw [if_neg c1] at hf ⊢
  by_cases c2 : ¬ (0 ≤ e.f1 ∧ e.f1 ≤ (N : Int) - 1)
  · rw [if_pos c2] at hf ⊢; simp [hf]
  rw [if_neg c2] at hf ⊢
  by_cases c3 : (e.f0 ≠ 1 ∧ e.f2 ≠ 0) ∨ (e.f0 ≠ 2 ∧ e.f3 ≠ 0)
  · rw [if_pos c3] at hf ⊢; simp [hf]
  rw [if_neg c3] at hf ⊢
  by_cases c4 : (e.f0 = 1 ∧ ¬ (0 ≤ e.f2 ∧ e.f2 ≤ (J : Int) - 1)) ∨ (e.f0 = 2 ∧ ¬ (0 ≤ e.f3 ∧ e.f3 ≤ 1000000000))
  · rw [if_pos c4] at hf ⊢; simp [hf]
  rw [if_neg c4] at hf ⊢
  simp only [hf]
  obtain ⟨w, hw⟩ : ∃ w : Nat, e.f1 = w := ⟨e.f1.toNat, by omega⟩
  have hwN : w < N := by omega
  have hwk := h.work w hwN
  rw [if_neg (by simp), hw, hwk]
  by_cases k1 : e.f0 = 1
  · obtain ⟨j, hj⟩ : ∃ j : Nat, e.f2 = j := ⟨e.f2.toNat, by omega⟩
    rw [if_pos k1, hj, Int.toNat_natCast, h.rep j w (by omega) hwN]
    by_cases b : workingOn p w = -1
    · rw [if_neg (show ¬ workingOn p w ≠ -1 by omega), if_neg (show ¬ badState e.f0 (workingOn p w) by unfold badState; omega)]
      by_cases c : 0 ≤ reported p w j
      · rw [if_pos c, if_pos ⟨k1, c⟩]
      · rw [if_neg c, if_neg (fun h => c h.2)]
    · rw [if_pos b, if_pos (.inl ⟨k1, b⟩)]
  · rw [if_neg k1]
    by_cases k2 : e.f0 = 2
    · rw [if_pos k2]
      by_cases b : workingOn p w < 0
      · rw [if_pos b, if_pos (.inr (.inl ⟨k2, b⟩))]
      · rw [if_neg b, if_neg (show ¬ badState e.f0 (workingOn p w) by unfold badState; omega), if_neg (fun h => k1 h.1)]
    · rw [if_neg k2]
      by_cases k3 : e.f0 = 3
      · rw [if_pos k3]
        by_cases b : workingOn p w = -2
        · rw [if_pos b, if_pos (.inr (.inr (.inl ⟨k3, b⟩)))]
        · rw [if_neg b, if_neg (show ¬ badState e.f0 (workingOn p w) by unfold badState; omega), if_neg (fun h => k1 h.1)]
      · rw [if_neg k3]
        by_cases b : workingOn p w = -2
        · rw [if_neg (show ¬ workingOn p w ≠ -2 by omega), if_neg (show ¬ badState e.f0 (workingOn p w) by unfold badState; omega), if_neg (fun h => k1 h.1)]
        · rw [if_pos b, if_pos (.inr (.inr (.inr ⟨by omega, b⟩)))]
theorem evCode_ok {J N : Int} {p : List WE} {e : WE} (h : evCode J N p e = 0) : (1 ≤ e.f0 ∧ e.f0 ≤ 4) ∧ (0 ≤ e.f1 ∧ e.f1 ≤ N - 1) ∧ (e.f0 = 1 → 0 ≤ e.f2 ∧ e.f2 ≤ J - 1) ∧ (e.f0 = 2 → 0 ≤ e.f3 ∧ e.f3 ≤ 1000000000) ∧ ¬ badState e.f0 (workingOn p e.f1) ∧ (e.f0 = 1 → reported p e.f1 e.f2 < 0) := by
  unfold evCode at h
  by_cases c1 : ¬ (1 ≤ e.f0 ∧ e.f0 ≤ 4)
  · rw [if_pos c1] at h; omega
  rw [if_neg c1] at h
  by_cases c2 : ¬ (0 ≤ e.f1 ∧ e.f1 ≤ N - 1)
  · rw [if_pos c2] at h; omega
  rw [if_neg c2] at h
  by_cases c3 : (e.f0 ≠ 1 ∧ e.f2 ≠ 0) ∨ (e.f0 ≠ 2 ∧ e.f3 ≠ 0)
  · rw [if_pos c3] at h; omega
  rw [if_neg c3] at h
  by_cases c4 : (e.f0 = 1 ∧ ¬ (0 ≤ e.f2 ∧ e.f2 ≤ J - 1)) ∨ (e.f0 = 2 ∧ ¬ (0 ≤ e.f3 ∧ e.f3 ≤ 1000000000))
  · rw [if_pos c4] at h; omega
  rw [if_neg c4] at h
  by_cases c5 : badState e.f0 (workingOn p e.f1)
  · rw [if_pos c5] at h; omega
  rw [if_neg c5] at h
  by_cases c6 : e.f0 = 1 ∧ 0 ≤ reported p e.f1 e.f2
  · rw [if_pos c6] at h; omega
  refine ⟨by omega, by omega, by omega, by omega, c5, fun h1 => ?_⟩
  by_cases h2 : 0 ≤ reported p e.f1 e.f2
  · exact absurd ⟨h1, h2⟩ c6
  · omega
theorem reported_congr {p q : List WE} {w j : Int} (h : reportedO p w j = reportedO q w j) : reported p w j = reported q w j := by unfold reported; rw [h]
theorem Inv.set {F : Farm} {J N : Nat} {need : Int} {p : List WE} (h : Inv F J N need p) (e : WE) (w : Nat) (x : Int) (hw : e.f1 = w) (hwN : w < N) (h2 : e.f0 ≠ 2) (hx : wStep w (workingOn p w) e = x)
    (hwf : ({ F with working := F.working.set w x } : Farm).WF J N) (ho : ∀ j : Nat, x = j → reportedO p w j = none) : Inv { F with working := F.working.set w x } J N need (p ++ [e]) := by
  have hr : ∀ w j, reportedO (p ++ [e]) w j = reportedO p w j := fun w j => by rw [reportedO_snoc, if_neg (fun h => h2 h.1), Option.or_none]
  have ha : ∀ j, acceptedO (p ++ [e]) N need j = acceptedO p N need j := fun j => by rw [acceptedO_snoc, if_neg (fun h => h2 h.1), Option.or_none]
  have hwo : ∀ w' : Nat, workingOn (p ++ [e]) w' = if w = w' then x else workingOn p w' := fun w' => by
    rw [workingOn_snoc]
    by_cases hc : w = w'
    · subst hc; rw [if_pos rfl]; exact hx
    · rw [if_neg hc]; unfold wStep; rw [if_neg (by rw [hw]; omega)]
  have hcn : ∀ j v, cntR (p ++ [e]) N j v = cntR p N j v := fun j v => by
    unfold cntR
    refine List.countP_congr fun w' hw' => ?_
    rw [reported_congr (hr _ _)]
  refine ⟨hwf, h.nd, fun w' hw' => ?_, fun j w' hj hw' => ?_, fun j hj => ?_, fun w' j hw' hj => ?_, fun w' j v hv => ?_, fun j v hv => ?_, fun j v hv => ?_, fun j v hv hq => ?_⟩
  · show rd (F.working.set w x) w' = _
    rw [rd_set _ _ _ _ (by rw [h.wf.work]; exact hwN), hwo]
    split
    · rfl
    · exact h.work w' hw'
  · rw [reported_congr (hr _ _)]; exact h.rep j w' hj hw'
  · show rd F.results j = _
    rw [h.acc j hj]; unfold accepted; rw [ha]
  · rw [hr]
    rw [hwo] at hj
    by_cases hc : w = w'
    · subst hc
      rw [if_pos rfl] at hj
      exact ho j hj
    · rw [if_neg hc] at hj
      exact h.once w' j hw' hj
  · rw [hr] at hv; exact h.pos w' j v hv
  · rw [ha] at hv; exact h.apos j v hv
  · rw [ha] at hv; rw [hcn]; exact h.q1 j v hv
  · rw [hcn] at hq; rw [ha]; exact h.q2 j v hv hq
theorem Inv.step {F : Farm} {J N : Nat} {need : Int} {p : List WE} (h : Inv F J N need p) (e : WE) (he : evCode J N p e = 0) : Inv (evOf F e).1 J N need (p ++ [e]) := by
  have hcode : (evOf F e).2 = 0 := by rw [h.code, he]
  have hwf : (evOf F e).1.WF J N := h.wf.event _ _ _ _
  obtain ⟨⟨k1, k4⟩, ⟨w0, w1⟩, hj, hv, hb, hr⟩ := evCode_ok he
  obtain ⟨w, hw⟩ : ∃ w : Nat, e.f1 = w := ⟨e.f1.toNat, by omega⟩
  have hwN : w < N := by omega
  have hwk := h.work w hwN
  unfold evOf Farm.event at hcode hwf ⊢
  by_cases hc : ¬ formCode F.results.length F.working.length e.f0 e.f1 e.f2 e.f3 = 0
  · simp only at hcode
    rw [if_pos hc] at hcode
    exact absurd hcode hc
  replace hc := Decidable.not_not.1 hc
  simp only at hwf ⊢
  rw [if_neg (not_not_intro hc)] at hwf ⊢
  rw [hw] at hb hr hwf ⊢
  rw [Int.toNat_natCast, hwk] at hwf ⊢
  by_cases p1 : e.f0 = 1
  · obtain ⟨j, hj'⟩ : ∃ j : Nat, e.f2 = j := ⟨e.f2.toNat, by have := hj p1; omega⟩
    have hjJ : j < J := by have := hj p1; omega
    rw [if_pos p1] at hwf ⊢
    have hb1 : ¬ workingOn p w ≠ -1 := fun hn => hb (.inl ⟨p1, hn⟩)
    rw [if_neg hb1, hj', Int.toNat_natCast, h.rep j w hjJ hwN] at hwf
    rw [if_neg hb1, hj', Int.toNat_natCast, h.rep j w hjJ hwN]
    have hrj := hr p1
    rw [hj'] at hrj
    rw [if_neg (by omega)] at hwf
    rw [if_neg (by omega)]
    refine h.set e w j hw hwN (by omega) (by unfold wStep; rw [if_pos hw, if_pos p1, hj']) hwf (fun j' hjj => ?_)
    obtain rfl : j' = j := by omega
    exact (reported_neg (fun v hv => h.pos _ _ v hv)).1 hrj
  rw [if_neg p1] at hwf ⊢
  by_cases p2 : e.f0 = 2
  · rw [if_pos p2] at hwf ⊢
    have hb2 : ¬ workingOn p w < 0 := fun hn => hb (.inr (.inl ⟨p2, hn⟩))
    rw [if_neg hb2] at hwf ⊢
    obtain ⟨v0, v1⟩ := hv p2
    have hvals := h.wf.vals _ (rd_mem (l := F.working) (i := w) (by omega) (by rw [h.wf.work]; omega))
    rw [hwk] at hvals
    obtain ⟨j, hj'⟩ : ∃ j : Nat, workingOn p w = j := ⟨(workingOn p w).toNat, by omega⟩
    have hjJ : j < J := by omega
    have hnone := h.once w j hwN hj'
    have hrl : (F.reports.getD j []).length = N := by
      apply h.wf.rows
      rw [List.getD_eq_getElem?_getD, List.getElem?_eq_getElem (show j < F.reports.length by rw [h.wf.reps]; exact hjJ)]
      exact List.getElem_mem _
    obtain ⟨v, hvv⟩ : ∃ v, e.f3 = v := ⟨_, rfl⟩
    rw [hvv] at hwf ⊢ v0 v1
    have hR : F.report w v = { F with working := F.working.set w (-1), reports := F.reports.set j ((F.reports.getD j []).set w v), results := if rd F.results j < 0 ∧ F.need ≤ (((F.reports.getD j []).set w v).countP (· == v) : Int) then F.results.set j v else F.results } := by
      unfold Farm.report
      simp only [hwk, hj', Int.toNat_natCast]
    show Inv (F.report w v) J N need (p ++ [e])
    have hwf' : (F.report w v).WF J N := hwf
    rw [hR] at hwf' ⊢
    have hro : ∀ w' j' : Nat, reportedO (p ++ [e]) w' j' = if w = w' ∧ j = j' then some v else reportedO p w' j' := fun w' j' => by
      rw [reportedO_snoc]
      by_cases hc : w = w' ∧ j = j'
      · obtain ⟨rfl, rfl⟩ := hc
        rw [if_pos ⟨p2, hw, hj'⟩, if_pos ⟨rfl, rfl⟩, hnone, hvv]; rfl
      · rw [if_neg hc]
        by_cases hc2 : e.f0 = 2 ∧ e.f1 = w' ∧ workingOn p w' = j'
        · exfalso
          apply hc
          obtain ⟨_, hc3, hc4⟩ := hc2
          have : w = w' := by omega
          subst this
          exact ⟨rfl, by omega⟩
        · rw [if_neg hc2, Option.or_none]
    have hrep : ∀ j' w' : Nat, j' < J → w' < N → rd ((F.reports.set j ((F.reports.getD j []).set w v)).getD j' []) w' = reported (p ++ [e]) w' j' := fun j' w' hj1 hw1 => by
      have hx : (F.reports.set j ((F.reports.getD j []).set w v)).getD j' [] = if j = j' then (F.reports.getD j []).set w v else F.reports.getD j' [] := by
        rw [List.getD_eq_getElem?_getD, List.getElem?_set]
        split
        · rename_i hc; subst hc; simp [h.wf.reps, hjJ]
        · rw [List.getD_eq_getElem?_getD]
      rw [hx]
      unfold reported
      rw [hro]
      by_cases hc : j = j'
      · subst hc
        rw [if_pos rfl, rd_set _ _ _ _ (by rw [hrl]; exact hwN)]
        by_cases hc2 : w = w'
        · rw [if_pos hc2, if_pos ⟨hc2, rfl⟩]; rfl
        · rw [if_neg hc2, if_neg (fun h => hc2 h.1)]
          exact h.rep j w' hj1 hw1
      · rw [if_neg hc, if_neg (fun h => hc h.2)]
        exact h.rep j' w' hj1 hw1
    have hcnt : (((F.reports.getD j []).set w v).countP (· == v) : Nat) = cntR (p ++ [e]) N j v := by
      rw [countP_rd, List.length_set, hrl]
      unfold cntR
      refine List.countP_congr fun w' hw' => ?_
      have h1 := hrep j w' hjJ (List.mem_range.1 hw')
      rw [getD_set_self _ _ _ _ (by rw [h.wf.reps]; exact hjJ)] at h1
      rw [h1]
    have hao : ∀ j' : Nat, acceptedO (p ++ [e]) N need j' = if j = j' then (acceptedO p N need j).or (if need ≤ (cntR (p ++ [e]) N j v : Int) then some v else none) else acceptedO p N need j' := fun j' => by
      rw [acceptedO_snoc]
      by_cases hc : j = j'
      · subst hc
        rw [if_pos rfl, hvv]
        by_cases hc2 : need ≤ (cntR (p ++ [e]) N j v : Int)
        · rw [if_pos ⟨p2, by rw [hw]; exact hj', hc2⟩, if_pos hc2]
        · rw [if_neg (fun h => hc2 h.2.2), if_neg hc2]
      · rw [if_neg hc, if_neg (fun h => hc (by have := h.2.1; rw [hw, hj'] at this; omega)), Option.or_none]
    refine ⟨hwf', h.nd, fun w' hw' => ?_, hrep, fun j' hj1 => ?_, fun w' j' hw' hj1 => ?_, fun w' j' v' hv' => ?_, fun j' v' hv' => ?_, fun j' v' hv' => ?_, fun j' v' hv' hq => ?_⟩
    · show rd (F.working.set w (-1)) w' = _
      rw [rd_set _ _ _ _ (by rw [h.wf.work]; exact hwN), workingOn_snoc]
      unfold wStep
      by_cases hc : w = w'
      · rw [if_pos hc, if_pos (by omega), if_neg p1, if_neg (by omega)]
      · rw [if_neg hc, if_neg (by omega)]
        exact h.work w' hw'
    · show rd (if _ then _ else _) _ = _
      unfold accepted
      rw [hao, h.nd, hcnt]
      have hacc := h.acc j hjJ
      unfold accepted at hacc
      by_cases hc : j = j'
      · subst hc
        rw [if_pos rfl]
        cases ho : acceptedO p N need j with
        | none =>
          rw [ho] at hacc
          simp only [Option.getD_none] at hacc
          rw [Option.none_or]
          by_cases hc2 : need ≤ (cntR (p ++ [e]) N j v : Int)
          · rw [if_pos ⟨by omega, hc2⟩, if_pos hc2, rd_set _ _ _ _ (by rw [h.wf.ress]; exact hjJ), if_pos rfl]; rfl
          · rw [if_neg (fun h => hc2 h.2), if_neg hc2, hacc]; rfl
        | some a =>
          rw [ho] at hacc
          have := h.apos j a ho
          simp only [Option.getD_some] at hacc
          rw [if_neg (by omega), hacc]
          rfl
      · rw [if_neg hc]
        have hx : rd (F.results.set j v) j' = rd F.results j' := by rw [rd_set _ _ _ _ (by rw [h.wf.ress]; exact hjJ), if_neg hc]
        split
        · rw [hx]; exact h.acc j' hj1
        · exact h.acc j' hj1
    · rw [workingOn_snoc] at hj1
      unfold wStep at hj1
      by_cases hc : e.f1 = w'
      · rw [if_pos hc, if_neg p1, if_neg (by omega)] at hj1
        omega
      · rw [if_neg hc] at hj1
        rw [hro, if_neg (fun h => hc (by omega))]
        exact h.once w' j' hw' hj1
    · rw [reportedO_snoc] at hv'
      cases ho : reportedO p w' j' with
      | none =>
        rw [ho, Option.none_or] at hv'
        split at hv'
        · injection hv' with hv'; omega
        · cases hv'
      | some a => rw [ho] at hv'; injection hv' with hv'; have := h.pos _ _ _ ho; omega
    · rw [acceptedO_snoc] at hv'
      cases ho : acceptedO p N need j' with
      | none =>
        rw [ho, Option.none_or] at hv'
        split at hv'
        · injection hv' with hv'; omega
        · cases hv'
      | some a => rw [ho] at hv'; injection hv' with hv'; have := h.apos _ _ ho; omega
    · rw [acceptedO_snoc] at hv'
      cases ho : acceptedO p N need j' with
      | none =>
        rw [ho, Option.none_or] at hv'
        split at hv'
        · rename_i hc; injection hv' with hv'; rw [← hv']; exact hc.2.2
        · cases hv'
      | some a =>
        rw [ho] at hv'
        obtain rfl : a = v' := by injection hv'
        have ha0 := h.apos _ _ ho
        refine Int.le_trans (h.q1 _ _ ho) (Int.ofNat_le.2 ?_)
        unfold cntR
        refine List.countP_mono_left fun w' _ hx => ?_
        have hx' : reported p w' j' = a := by simpa using hx
        refine decide_eq_true ?_
        have hs : reportedO p w' j' = some a := by
          unfold reported at hx'
          cases hq : reportedO p w' j' with
          | none => rw [hq] at hx'; simp at hx'; omega
          | some b => rw [hq] at hx'; simp at hx'; rw [hx']
        exact reported_some (by rw [reportedO_snoc, hs]; rfl)
    · by_cases hold : need ≤ (cntR p N j' v' : Int)
      · have := h.q2 j' v' hv' hold
        rw [acceptedO_snoc]
        cases ho : acceptedO p N need j' with
        | none => exact absurd ho this
        | some a => simp
      · by_cases hc : j = j' ∧ v = v'
        · obtain ⟨rfl, rfl⟩ := hc
          rw [hao, if_pos rfl, if_pos hq]
          cases acceptedO p N need j <;> simp
        · exfalso
          apply hold
          refine Int.le_trans hq (Int.ofNat_le.2 ?_)
          unfold cntR
          refine List.countP_mono_left fun w' hw1 hx => ?_
          have hx' : reported (p ++ [e]) w' j' = v' := by simpa using hx
          refine decide_eq_true ?_
          by_cases hd : w = w' ∧ j = j'
          · obtain ⟨rfl, rfl⟩ := hd
            rw [reported_some (show reportedO (p ++ [e]) w j = some v by rw [hro, if_pos ⟨rfl, rfl⟩])] at hx'
            exact absurd ⟨rfl, hx'⟩ hc
          · rw [← hx']
            exact reported_congr (by rw [hro, if_neg hd])
  rw [if_neg p2] at hwf ⊢
  by_cases p3 : e.f0 = 3
  · rw [if_pos p3] at hwf ⊢
    have hb3 : ¬ workingOn p w = -2 := fun hn => hb (.inr (.inr (.inl ⟨p3, hn⟩)))
    rw [if_neg hb3] at hwf ⊢
    exact h.set e w (-2) hw hwN (by omega) (by unfold wStep; rw [if_pos hw, if_neg p1, if_pos p3]) hwf (fun j' hjj => by omega)
  · rw [if_neg p3] at hwf ⊢
    have hb4 : ¬ workingOn p w ≠ -2 := fun hn => hb (.inr (.inr (.inr ⟨by omega, hn⟩)))
    rw [if_neg hb4] at hwf ⊢
    exact h.set e w (-1) hw hwN (by omega) (by unfold wStep; rw [if_pos hw, if_neg p1, if_neg p3]) hwf (fun j' hjj => by omega)
theorem evRun_spec {J N : Nat} {need : Int} : ∀ (es p : List WE) (F : Farm) (i : Int), Inv F J N need p → (evRun F es i).2 = evFault J N p es i ∧ ((evRun F es i).2.1 = 0 → Inv (evRun F es i).1 J N need (p ++ es))
  | [], p, F, i, h => ⟨rfl, fun _ => by rw [List.append_nil]; exact h⟩
  | e :: es, p, F, i, h => by
    have hcode := h.code e
    unfold evRun evFault
    by_cases hc : evCode J N p e = 0
    · rw [if_neg (by rw [hcode]; simpa using hc), if_pos hc]
      have := evRun_spec es (p ++ [e]) (evOf F e).1 (i + 1) (h.step e hc)
      rw [List.append_assoc] at this
      exact this
    · rw [if_pos (by rw [hcode]; exact hc), if_neg hc, hcode]
      exact ⟨rfl, fun h0 => absurd h0 hc⟩
/-- The fault of a replay is the reference's; without one the farm holds what the reference functions say. -/
theorem replay_spec (J N need : Int) (l : List WE) : (replayF J N need l).2 = eventsFault J N need l ∧ ((replayF J N need l).2.1 = 0 → sizesOk J N need ∧ l.length ≤ 40 ∧ Inv (replayF J N need l).1 J.toNat N.toNat need l) := by
  unfold replayF eventsFault
  by_cases hs : sizesOk J N need
  · rw [if_neg (not_not_intro hs), if_neg (not_not_intro hs)]
    by_cases hl : 40 < l.length
    · rw [if_pos hl, if_pos hl]
      exact ⟨rfl, fun h => by simp at h⟩
    · rw [if_neg hl, if_neg hl]
      have := evRun_spec l [] (newFarm J N need) 0 (Inv.start hs)
      have e1 : (J.toNat : Int) = J := by have := hs.1; omega
      have e2 : (N.toNat : Int) = N := by have := hs.2.2.1; omega
      rw [e1, e2] at this
      exact ⟨this.1, fun h => ⟨hs, by omega, by simpa using this.2 h⟩⟩
  · rw [if_pos hs, if_pos hs]
    exact ⟨rfl, fun h => by simp at h⟩
end Go.Proofs.Ytepflpmngegdiaa.H
end
section
namespace Go.Proofs.Ytepflpmngegdiaa.H
open Go.RowKit Go.Proofs.YtepflpmngegdiaaW.PrintWords Go.Proofs.YtepflpmngegdiaaW.PrintLast Go.Proofs.YtepflpmngegdiaaW.PrintMore
set_option linter.unusedVariables false
set_option linter.unusedSimpArgs false
theorem ev_farms (k : Nat) (hk : 10 ≤ k) : changeforgelaw6_farms.f k = some true := at_rounds (fun k => changeforgelaw6_farms.mono k) hk (by kernel_rfl)
end Go.Proofs.Ytepflpmngegdiaa.H
end
section
namespace Go.Proofs.Ytepflpmngegdiaa.H
open Go.RowKit Go.Proofs.YtepflpmngegdiaaW.PrintWords Go.Proofs.YtepflpmngegdiaaW.PrintLast Go.Proofs.YtepflpmngegdiaaW.PrintMore
set_option linter.unusedVariables false
set_option linter.unusedSimpArgs false
theorem evFault_zero (J N : Int) : ∀ (l p : List WE) (i : Int), (evFault J N p l i).1 = 0 → evFault J N p l i = (0, 0)
  | [], _, _, _ => rfl
  | e :: es, p, i, h => by
    unfold evFault at h ⊢
    by_cases hc : evCode J N p e = 0
    · rw [if_pos hc] at h ⊢
      exact evFault_zero J N es _ _ h
    · rw [if_neg hc] at h
      exact absurd h hc
theorem eventsFault_zero {J N need : Int} {l : List WE} (h : (eventsFault J N need l).1 = 0) : eventsFault J N need l = (0, 0) := by
  unfold eventsFault at h ⊢
  by_cases h1 : ¬ sizesOk J N need
  · rw [if_pos h1] at h; simp at h
  rw [if_neg h1] at h ⊢
  by_cases h2 : 40 < l.length
  · rw [if_pos h2] at h; simp at h
  rw [if_neg h2] at h ⊢
  exact evFault_zero _ _ _ _ _ h
theorem findSome_spec {α : Type} (f : Nat → Option α) : ∀ (n : Nat), ((List.range n).findSome? f = none ∧ ∀ i, i < n → f i = none) ∨ ∃ j r, j < n ∧ f j = some r ∧ (List.range n).findSome? f = some r ∧ ∀ i, i < j → f i = none
  | 0 => .inl ⟨rfl, fun i h => absurd h (Nat.not_lt_zero _)⟩
  | n + 1 => by
    rw [List.range_succ, List.findSome?_append]
    rcases findSome_spec f n with ⟨h1, h2⟩ | ⟨j, r, h1, h2, h3, h4⟩
    · rw [h1]
      cases hf : f n with
      | none => exact .inl ⟨by simp [hf], fun i hi => by rcases Nat.lt_or_eq_of_le (Nat.le_of_lt_succ hi) with h | h; exact h2 i h; rw [h]; exact hf⟩
      | some r => exact .inr ⟨n, r, by omega, hf, by simp [hf], h2⟩
    · exact .inr ⟨j, r, by omega, h2, by rw [h3]; rfl, h4⟩
theorem find_spec (p : Nat → Bool) : ∀ (n : Nat), ((List.range n).find? p = none ∧ ∀ i, i < n → p i = false) ∨ ∃ j, j < n ∧ p j = true ∧ (List.range n).find? p = some j ∧ ∀ i, i < j → p i = false
  | 0 => .inl ⟨rfl, fun i h => absurd h (Nat.not_lt_zero _)⟩
  | n + 1 => by
    rw [List.range_succ, List.find?_append]
    rcases find_spec p n with ⟨h1, h2⟩ | ⟨j, h1, h2, h3, h4⟩
    · rw [h1]
      cases hf : p n with
      | false => exact .inl ⟨by simp [hf], fun i hi => by rcases Nat.lt_or_eq_of_le (Nat.le_of_lt_succ hi) with h | h; exact h2 i h; rw [h]; exact hf⟩
      | true => exact .inr ⟨n, by omega, hf, by simp [hf], h2⟩
    · exact .inr ⟨j, by omega, h2, by rw [h3]; rfl, h4⟩
/-- Whether a worker can be assigned to a job, by the reference functions. -/
def canB (l : List WE) (N : Nat) (need : Int) (j w : Nat) : Bool := decide (accepted l N need j < 0) && freeB l w j
theorem next_spec {F : Farm} {J N : Nat} {need : Int} {p : List WE} (h : Inv F J N need p) :
    (nextF F = none ∧ ∀ j, j < J → ∀ w, w < N → canB p N need j w = false) ∨
    ∃ j w, j < J ∧ w < N ∧ nextF F = some (j, w) ∧ canB p N need j w = true ∧ (∀ i, i < j → ∀ v, v < N → canB p N need i v = false) ∧ ∀ v, v < w → canB p N need j v = false := by
  have hnx : ∀ j w, j < J → w < N → nx F j w = freeB p w j := fun j w hj hw => by
    unfold nx freeB
    rw [h.work w hw, h.rep j w hj hw]
    by_cases h1 : workingOn p w = -1 <;> by_cases h2 : reported p w j < 0 <;> simp [h1, h2]
  have hacc : ∀ j, j < J → (0 ≤ rd F.results (j : Int) ↔ ¬ accepted p N need j < 0) := fun j hj => by rw [h.acc j hj]; omega
  have key : ∀ j, j < J → ((if 0 ≤ rd F.results (j : Int) then none else ((List.range F.working.length).find? fun (w : Nat) => nx F j w).map fun w => (j, w)) = none ∧ ∀ w, w < N → canB p N need j w = false) ∨
      ∃ w, w < N ∧ (if 0 ≤ rd F.results (j : Int) then none else ((List.range F.working.length).find? fun (w : Nat) => nx F j w).map fun w => (j, w)) = some (j, w) ∧ canB p N need j w = true ∧ ∀ v, v < w → canB p N need j v = false := fun j hj => by
    by_cases hr : 0 ≤ rd F.results (j : Int)
    · rw [if_pos hr]
      exact .inl ⟨rfl, fun w hw => by unfold canB; rw [decide_eq_false ((hacc j hj).1 hr)]; rfl⟩
    · rw [if_neg hr, h.wf.work]
      have ha : decide (accepted p N need j < 0) = true := decide_eq_true (by have := hacc j hj; omega)
      rcases find_spec (fun (w : Nat) => nx F j w) N with ⟨h1, h2⟩ | ⟨w, h1, h2, h3, h4⟩
      · exact .inl ⟨by rw [h1]; rfl, fun w hw => by unfold canB; rw [← hnx j w hj hw, h2 w hw, Bool.and_false]⟩
      · exact .inr ⟨w, h1, by rw [h3]; rfl, by unfold canB; rw [← hnx j w hj h1, h2, ha]; rfl, fun v hv => by unfold canB; rw [← hnx j v hj (by omega), h4 v hv, Bool.and_false]⟩
  rcases findSome_spec (fun (j : Nat) => if 0 ≤ rd F.results (j : Int) then none else ((List.range F.working.length).find? fun (w : Nat) => nx F j w).map fun w => (j, w)) J with ⟨h1, h2⟩ | ⟨j, r, h1, h2, h3, h4⟩
  · refine .inl ⟨by unfold nextF; rw [h.wf.ress]; exact h1, fun j hj => ?_⟩
    rcases key j hj with ⟨_, hk⟩ | ⟨w, _, hk, _⟩
    · exact hk
    · have := h2 j hj
      rw [this] at hk; cases hk
  · rcases key j h1 with ⟨hk, _⟩ | ⟨w, hw, hk, hk2, hk3⟩
    · rw [hk] at h2; cases h2
    · rw [hk] at h2
      injection h2 with h2
      refine .inr ⟨j, w, h1, hw, by unfold nextF; rw [h.wf.ress, h3, h2], hk2, fun i hi => ?_, hk3⟩
      rcases key i (by omega) with ⟨_, hq⟩ | ⟨w, _, hq, _⟩
      · exact hq
      · have := h4 i hi
        rw [this] at hq; cases hq
end Go.Proofs.Ytepflpmngegdiaa.H
end
section
namespace Go.Proofs.Ytepflpmngegdiaa.H
open Go.RowKit Go.Proofs.YtepflpmngegdiaaW.PrintWords Go.Proofs.YtepflpmngegdiaaW.PrintLast Go.Proofs.YtepflpmngegdiaaW.PrintMore
set_option linter.unusedVariables false
set_option linter.unusedSimpArgs false
theorem nms_l1 (J N : Nat) (need : Int) (l : List WE) (hl : l.length ≤ 40) (hN : N ≤ 8) (rj rw : Int) (ok : Bool) (j : Nat) (hj : j < 12) (k0 : Nat)
    (hno : ∀ v, v < N → canB l N need j v = false) (hA : ∀ k, k0 ≤ k → changeforgelaw6_WorkersNextMatchesSpec.l0 k (J : Int) (N : Int) need l rj rw ok ((j + 1 : Nat) : Int) 0 0 = some true) :
    ∀ (d i k : Nat), N - i = d → i ≤ N → k0 + 4200 + d < k → changeforgelaw6_WorkersNextMatchesSpec.l1 k (J : Int) (N : Int) need l rj rw ok j i 0 0 = some true := by
  have hlim : (l.length + 1) * (2 * l.length + 20) ≤ 4100 := Nat.mul_le_mul (show l.length + 1 ≤ 41 from by omega) (show 2 * l.length + 20 ≤ 100 from by omega)
  have ha := fun (j : Int) k (hk : 4100 < k) => ev_Accepted l N need j (by unfold Lim; omega) hN k (Nat.lt_of_le_of_lt hlim hk)
  intro d
  induction d with
  | zero =>
    intro i k hd hi hk
    obtain ⟨k, rfl⟩ : ∃ m, k = m + 1 := ⟨k - 1, by omega⟩
    simp only [changeforgelaw6_WorkersNextMatchesSpec.l1]
    rw [if_neg (by omega), wrap_lt (by omega) (by omega), show ((j : Int) + 1) = ((j + 1 : Nat) : Int) from by omega]
    exact hA k (by omega)
  | succ d ih =>
    intro i k hd hi hk
    obtain ⟨k, rfl⟩ : ∃ m, k = m + 1 := ⟨k - 1, by omega⟩
    simp only [changeforgelaw6_WorkersNextMatchesSpec.l1]
    rw [if_pos (by omega), ha j k (by omega), ev_free l i j (by unfold Lim; omega) k (by omega)]
    simp only [Option.bind_some]
    have hn := ih (i + 1) k (by omega) (by omega) (by omega)
    have hc := hno i (by omega)
    rw [wrap_lt (x := (i : Int) + 1) (by omega) (by omega), show ((i : Int) + 1) = ((i + 1 : Nat) : Int) from by omega, hn]
    unfold canB at hc
    by_cases h : accepted l N need j < 0
    · rw [decide_eq_true h, Bool.true_and] at hc
      rw [if_pos h, hc, if_neg (by simp)]
    · rw [if_neg h]
theorem nms_l1hit (J N : Nat) (need : Int) (l : List WE) (hl : l.length ≤ 40) (hN : N ≤ 8) (j w : Nat) (hw : w < N)
    (hno : ∀ v, v < w → canB l N need j v = false) (hit : canB l N need j w = true) :
    ∀ (d i k : Nat), w - i = d → i ≤ w → 4200 + d < k → changeforgelaw6_WorkersNextMatchesSpec.l1 k (J : Int) (N : Int) need l j w true j i 0 0 = some true := by
  have hlim : (l.length + 1) * (2 * l.length + 20) ≤ 4100 := Nat.mul_le_mul (show l.length + 1 ≤ 41 from by omega) (show 2 * l.length + 20 ≤ 100 from by omega)
  have ha := fun (j : Int) k (hk : 4100 < k) => ev_Accepted l N need j (by unfold Lim; omega) hN k (Nat.lt_of_le_of_lt hlim hk)
  intro d
  induction d with
  | zero =>
    intro i k hd hi hk
    obtain ⟨k, rfl⟩ : ∃ m, k = m + 1 := ⟨k - 1, by omega⟩
    obtain rfl : i = w := by omega
    simp only [changeforgelaw6_WorkersNextMatchesSpec.l1]
    unfold canB at hit
    rw [Bool.and_eq_true] at hit
    rw [if_pos (by omega), ha j k (by omega), ev_free l i j (by unfold Lim; omega) k (by omega)]
    simp only [Option.bind_some]
    rw [if_pos (of_decide_eq_true hit.1), hit.2]
    simp
  | succ d ih =>
    intro i k hd hi hk
    obtain ⟨k, rfl⟩ : ∃ m, k = m + 1 := ⟨k - 1, by omega⟩
    simp only [changeforgelaw6_WorkersNextMatchesSpec.l1]
    rw [if_pos (by omega), ha j k (by omega), ev_free l i j (by unfold Lim; omega) k (by omega)]
    simp only [Option.bind_some]
    have hn := ih (i + 1) k (by omega) (by omega) (by omega)
    have hc := hno i (by omega)
    rw [wrap_lt (x := (i : Int) + 1) (by omega) (by omega), show ((i : Int) + 1) = ((i + 1 : Nat) : Int) from by omega, hn]
    unfold canB at hc
    by_cases h : accepted l N need j < 0
    · rw [decide_eq_true h, Bool.true_and] at hc
      rw [if_pos h, hc, if_neg (by simp)]
    · rw [if_neg h]
theorem nms_none (J N : Nat) (need : Int) (l : List WE) (hl : l.length ≤ 40) (hN : N ≤ 8) (hJ : J ≤ 12) (rj rw : Int)
    (hno : ∀ j, j < J → ∀ v, v < N → canB l N need j v = false) :
    ∀ (d j k : Nat), J - j = d → j ≤ J → 4300 * (d + 1) < k → changeforgelaw6_WorkersNextMatchesSpec.l0 k (J : Int) (N : Int) need l rj rw false j 0 0 = some true := by
  intro d
  induction d with
  | zero =>
    intro i k hd hi hk
    obtain ⟨k, rfl⟩ : ∃ m, k = m + 2 := ⟨k - 2, by omega⟩
    simp only [changeforgelaw6_WorkersNextMatchesSpec.l0, changeforgelaw6_WorkersNextMatchesSpec.j2]
    rw [if_pos trivial, decide_eq_false (by omega), if_neg (by simp)]
    rfl
  | succ d ih =>
    intro i k hd hi hk
    obtain ⟨k, rfl⟩ : ∃ m, k = m + 2 := ⟨k - 2, by omega⟩
    simp only [changeforgelaw6_WorkersNextMatchesSpec.l0, changeforgelaw6_WorkersNextMatchesSpec.j2]
    rw [if_pos trivial, decide_eq_true (by omega), if_pos rfl]
    exact nms_l1 J N need l hl hN rj rw false i (by omega) (4300 * (d + 1) + 1) (hno i (by omega)) (fun k hk => ih (i + 1) k (by omega) (by omega) (by omega)) _ 0 k rfl (by omega) (by omega)
theorem nms_hit (J N : Nat) (need : Int) (l : List WE) (hl : l.length ≤ 40) (hN : N ≤ 8) (hJ : J ≤ 12) (j w : Nat) (hj : j < J) (hw : w < N)
    (hno : ∀ i, i < j → ∀ v, v < N → canB l N need i v = false) (hno2 : ∀ v, v < w → canB l N need j v = false) (hit : canB l N need j w = true) :
    ∀ (d i k : Nat), j - i = d → i ≤ j → 4300 * (d + 1) < k → changeforgelaw6_WorkersNextMatchesSpec.l0 k (J : Int) (N : Int) need l j w true i 0 0 = some true := by
  intro d
  induction d with
  | zero =>
    intro i k hd hi hk
    obtain ⟨k, rfl⟩ : ∃ m, k = m + 2 := ⟨k - 2, by omega⟩
    obtain rfl : i = j := by omega
    simp only [changeforgelaw6_WorkersNextMatchesSpec.l0, changeforgelaw6_WorkersNextMatchesSpec.j2]
    rw [if_pos trivial, decide_eq_true (by omega), if_pos rfl]
    exact nms_l1hit J N need l hl hN i w hw hno2 hit _ 0 k rfl (by omega) (by omega)
  | succ d ih =>
    intro i k hd hi hk
    obtain ⟨k, rfl⟩ : ∃ m, k = m + 2 := ⟨k - 2, by omega⟩
    simp only [changeforgelaw6_WorkersNextMatchesSpec.l0, changeforgelaw6_WorkersNextMatchesSpec.j2]
    rw [if_pos trivial, decide_eq_true (by omega), if_pos rfl]
    exact nms_l1 J N need l hl hN j w true i (by omega) (4300 * (d + 1) + 1) (hno i (by omega)) (fun k hk => ih (i + 1) k (by omega) (by omega) (by omega)) _ 0 k rfl (by omega) (by omega)
set_option maxHeartbeats 4000000 in
theorem pf_WorkersNextMatchesSpec : changeforgelaw6_WorkersNextMatchesSpec.Pure := by
  intro a0 a1 a2 l3 w0 w1 w2 w3 y3
  obtain ⟨M, hM⟩ : ∃ M : Nat, M = 100000 := ⟨_, rfl⟩
  refine ⟨M + 20, ?_⟩
  have hf := ev_farms (M + 20) (by omega)
  have he := ev_EventsFault a0 a1 a2 l3 (M + 20) (by omega)
  obtain ⟨hs1, hs2⟩ := replay_spec a0 a1 a2 l3
  unfold changeforgelaw6_WorkersNextMatchesSpec.f workers_Next.f
  simp only [hf, he, Option.bind_some]
  by_cases hc : (replayF a0 a1 a2 l3).2.1 = 0
  · obtain ⟨hso, hl, hI⟩ := hs2 hc
    have hz := eventsFault_zero (by rw [← hs1]; exact hc)
    rw [hz]
    obtain ⟨J, rfl⟩ : ∃ j : Nat, a0 = j := ⟨a0.toNat, by have := hso.1; omega⟩
    obtain ⟨N, rfl⟩ : ∃ j : Nat, a1 = j := ⟨a1.toNat, by have := hso.2.2.1; omega⟩
    rw [Int.toNat_natCast, Int.toNat_natCast] at hI
    have hN := hI.wf.n8
    have hJ := hI.wf.j12
    rw [if_pos hc]
    rcases next_spec hI with ⟨h1, h2⟩ | ⟨j, w, h1, h2, h3, h4, h5, h6⟩
    · rw [h1]
      have := nms_none J N a2 l3 hl hN hJ 0 0 h2 _ 0 (M + 19) rfl (by omega) (by omega)
      simp only [if_true, Option.bind_some, beq_self_eq_true, Bool.not_true, Bool.or_self, Bool.false_eq_true, if_false, bne_self_eq_false, changeforgelaw6_WorkersNextMatchesSpec.j0]
      exact this
    · rw [h3]
      have := nms_hit J N a2 l3 hl hN hJ j w h1 h2 h5 h6 h4 _ 0 (M + 19) rfl (by omega) (by omega)
      simp only [if_true, Option.bind_some, beq_self_eq_true, Bool.not_true, Bool.or_self, Bool.false_eq_true, if_false, bne_self_eq_false, changeforgelaw6_WorkersNextMatchesSpec.j0]
      exact this
  · rw [← hs1]
    generalize hR : replayF a0 a1 a2 l3 = R at *
    obtain ⟨F, c, i⟩ := R
    simp only at hc ⊢
    simp [hc, changeforgelaw6_WorkersNextMatchesSpec.j0, changeforgelaw6_WorkersNextMatchesSpec.l0, changeforgelaw6_WorkersNextMatchesSpec.j2]
end Go.Proofs.Ytepflpmngegdiaa.H
end
