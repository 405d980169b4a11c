/- The program's IsFractionPolygon and the reference's answer the same for every list of pairs of numbers that the statement lets in: 3 to 12 fractions, the first 0/1, the last 1/0, each cross of neighbours 1; the program leaves the list as it was. No condition. -/
import Derived.Test.YtnikefebkcminaaPFnExactIsFractionPolygonx0
import Derived.Test.YtnikefebkcminaaPFnExactIsFractionPolygonx1
import Derived.Test.YtnikefebkcminaaPFnExactIsFractionPolygonx2
import Derived.Test.YtnikefebkcminaaPFnExactIsFractionPolygonx3
import Derived.Test.YtnikefebkcminaaPFnExactIsFractionPolygonx4
import Derived.Test.YtnikefebkcminaaPFnExactIsFractionPolygonx5
import Derived.Test.YtnikefebkcminaaPFnExactIsFractionPolygonx6
set_option linter.unusedSimpArgs false
set_option linter.unusedVariables false
namespace Go.Proofs.Ytnikefebkcminaa.PureFnExactIsFractionPolygon
open Go.RowKit Go.Proofs.Ytnikefebkcminaa.PFnExactIsFractionPolygon Go.Proofs.YtnikefebkcminaaW.PrintWords Go.Proofs.YtnikefebkcminaaW.PrintLast

theorem Ev.at1 {α : Type} {g : Nat → Option α} {r : α} (h : Ev g r) : ∃ K, ∀ j, g (K + j) = some r := by
  obtain ⟨K, h⟩ := h
  exact ⟨K, fun j => h _ (by omega)⟩
theorem Ev.at2 {α β : Type} {g : Nat → Option α} {r : α} {g2 : Nat → Option β} {r2 : β} (h : Ev g r) (h2 : Ev g2 r2) : ∃ K, (∀ j, g (K + j) = some r) ∧ ∀ j, g2 (K + j) = some r2 := by
  obtain ⟨K, h⟩ := h
  obtain ⟨K2, h2⟩ := h2
  exact ⟨K + K2, fun j => h _ (by omega), fun j => h2 _ (by omega)⟩
theorem Ev.at3 {α β γ : Type} {g : Nat → Option α} {r : α} {g2 : Nat → Option β} {r2 : β} {g3 : Nat → Option γ} {r3 : γ} (h : Ev g r) (h2 : Ev g2 r2) (h3 : Ev g3 r3) :
    ∃ K, (∀ j, g (K + j) = some r) ∧ (∀ j, g2 (K + j) = some r2) ∧ ∀ j, g3 (K + j) = some r3 := by
  obtain ⟨K, h⟩ := h
  obtain ⟨K2, h2⟩ := h2
  obtain ⟨K3, h3⟩ := h3
  exact ⟨K + K2 + K3, fun j => h _ (by omega), fun j => h2 _ (by omega), fun j => h3 _ (by omega)⟩
theorem Ev.at4 {α β γ δ : Type} {g : Nat → Option α} {r : α} {g2 : Nat → Option β} {r2 : β} {g3 : Nat → Option γ} {r3 : γ} {g4 : Nat → Option δ} {r4 : δ} (h : Ev g r) (h2 : Ev g2 r2) (h3 : Ev g3 r3) (h4 : Ev g4 r4) :
    ∃ K, (∀ j, g (K + j) = some r) ∧ (∀ j, g2 (K + j) = some r2) ∧ (∀ j, g3 (K + j) = some r3) ∧ ∀ j, g4 (K + j) = some r4 := by
  obtain ⟨K, e1, e2, e3⟩ := Ev.at3 h h2 h3
  obtain ⟨K4, h4⟩ := h4
  exact ⟨K + K4, fun j => by rw [Nat.add_assoc]; exact e1 _, fun j => by rw [Nat.add_assoc]; exact e2 _, fun j => by rw [Nat.add_assoc]; exact e3 _, fun j => h4 _ (by omega)⟩
theorem Ev.all {α β : Type} {g : α → Nat → Option β} {r : α → β} (l : List α) (h : ∀ x, x ∈ l → Ev (g x) (r x)) : ∃ K, ∀ x, x ∈ l → ∀ k, K ≤ k → g x k = some (r x) := by
  induction l with
  | nil => exact ⟨0, fun x hx => by cases hx⟩
  | cons y l ih =>
    obtain ⟨K, hK⟩ := ih (fun x hx => h x (List.mem_cons_of_mem _ hx))
    obtain ⟨K2, hK2⟩ := h y (List.mem_cons_self ..)
    refine ⟨K + K2, fun x hx k hk => ?_⟩
    rcases List.mem_cons.1 hx with e | e
    · subst e
      exact hK2 k (by omega)
    · exact hK x e k (by omega)

theorem take_set_succ {α : Type} (l : List α) (i : Nat) (v : α) (h : i < l.length) : (l.set i v).take (i + 1) = l.take i ++ [v] := by
  rw [List.take_succ_eq_append_getElem (by rw [List.length_set]; exact h), List.getElem_set_self, List.take_set_of_le (Nat.le_refl i)]
theorem getD_drop {α : Type} (l : List α) (d : α) (i : Nat) (h : i < l.length) : l.drop i = l.getD i d :: l.drop (i + 1) := by
  rw [List.drop_eq_getElem_cons h, List.getD_eq_getElem?_getD, List.getElem?_eq_getElem h]
  rfl
theorem wrap_succ (i : Nat) (h : i < 4611686018427387904) : wrap64 ((i : Int) + 1) = ((i + 1 : Nat) : Int) := by unfold wrap64; omega
theorem wrap_pred (i : Nat) (h0 : 0 < i) (h : i < 4611686018427387904) : wrap64 ((i : Int) - 1) = ((i - 1 : Nat) : Int) := by unfold wrap64; omega

theorem l1In_tells (a b c : Int) : spec_l1In.f a b c = some (decide (b ≤ a ∧ a ≤ c)) := by
  unfold spec_l1In.f
  by_cases h : a ≥ b
  · rw [if_pos h]
    have : b ≤ a := h
    simp [this]
  · rw [if_neg h]
    have : ¬ b ≤ a := h
    simp [this]

theorem nbGood_rounds (b : Nat) : ∀ (a k : Nat), b < k → spec_nbGood.l0 k (a : Int) (b : Int) = some (Nat.gcd a b == 1) := by
  induction b using Nat.strongRecOn with
  | _ b ih =>
    intro a k hk
    obtain ⟨k, rfl⟩ : ∃ m, k = m + 1 := ⟨k - 1, by omega⟩
    simp only [spec_nbGood.l0]
    by_cases h : b = 0
    · subst h
      rw [if_neg (by omega), Nat.gcd_zero_right]
      congr 1
      rw [Bool.eq_iff_iff, beq_iff_eq, beq_iff_eq]
      omega
    · have hm : a % b < b := Nat.mod_lt _ (by omega)
      rw [if_pos (by omega), if_neg (by omega), ← Int.ofNat_tmod, ih (a % b) hm b k (by omega), Nat.gcd_comm a b, Nat.gcd_rec b a, Nat.gcd_comm]

theorem nbGood_tells (a b : Int) : Ev (fun k => spec_nbGood.f k a b) (okF a b) := by
  by_cases h0 : 0 ≤ a ∧ a ≤ 1000000
  · by_cases h1 : 0 ≤ b ∧ b ≤ 1000000
    · refine ⟨b.toNat + 2, fun k hk => ?_⟩
      obtain ⟨k, rfl⟩ : ∃ m, k = m + 1 := ⟨k - 1, by omega⟩
      show spec_nbGood.f (k + 1) a b = _
      unfold spec_nbGood.f
      rw [l1In_tells, l1In_tells]
      simp only [h0, h1, and_self, decide_true, Option.bind_some, if_true, okF, Bool.true_and, Bool.not_true, spec_nbGood.j0, Bool.false_eq_true, if_false]
      have h := nbGood_rounds b.toNat a.toNat k (by omega)
      rw [Int.toNat_of_nonneg h0.1, Int.toNat_of_nonneg h1.1] at h
      exact h
    · refine ⟨1, fun k hk => ?_⟩
      obtain ⟨k, rfl⟩ : ∃ m, k = m + 1 := ⟨k - 1, by omega⟩
      show spec_nbGood.f (k + 1) a b = _
      unfold spec_nbGood.f
      rw [l1In_tells, l1In_tells]
      simp [h0, h1, okF, spec_nbGood.j0]
  · refine ⟨1, fun k hk => ?_⟩
    obtain ⟨k, rfl⟩ : ∃ m, k = m + 1 := ⟨k - 1, by omega⟩
    show spec_nbGood.f (k + 1) a b = _
    unfold spec_nbGood.f
    rw [l1In_tells]
    simp [h0, okF, spec_nbGood.j0]

abbrev FR := S43
abbrev rF (l : List FR) (j : Nat) : FR := rd_T43 l (j : Int)
def crF (a b : FR) : Bool := wrap64 (wrap64 (b.f0 * a.f1) - wrap64 (a.f0 * b.f1)) == 1
def stepF (l : List FR) (j : Nat) : Bool := okF (rF l j).f0 (rF l j).f1 && (j == 0 || crF (rF l (j - 1)) (rF l j))
def endsF (l : List FR) : Bool := ((rd_T43 l 0).f0 == 0 && (rd_T43 l 0).f1 == 1) && ((rF l (l.length - 1)).f0 == 1 && (rF l (l.length - 1)).f1 == 0)
/-- Is it a polygon of fractions. -/
def isFP (l : List FR) : Bool := decide (3 ≤ l.length ∧ l.length ≤ 12) && ((List.range' 0 l.length).all (stepF l) && endsF l)

theorem rF_mem (l : List FR) (i : Nat) (h : i < l.length) : rF l i ∈ l := by
  unfold rF rd_T43
  rw [Int.toNat_natCast, List.getD_eq_getElem?_getD, List.getElem?_eq_getElem h]
  exact List.getElem_mem _

theorem nbPolygon_rounds (l : List FR) (h3 : 3 ≤ l.length) (h12 : l.length ≤ 12) (K : Nat) (hK : ∀ x, x ∈ l → ∀ k, K ≤ k → spec_nbGood.f k x.f0 x.f1 = some (okF x.f0 x.f1)) (d : Nat) : ∀ (i k : Nat), i + d = l.length → K + d < k →
    spec_nbPolygon.l0 k l (l.length : Int) l (l.length : Int) (i : Int) = some ((List.range' i d).all (stepF l) && endsF l) := by
  induction d with
  | zero =>
    intro i k hi hk
    obtain ⟨k, rfl⟩ : ∃ m, k = m + 1 := ⟨k - 1, by omega⟩
    simp only [spec_nbPolygon.l0]
    have w : wrap64 ((l.length : Int) - 1) = ((l.length - 1 : Nat) : Int) := wrap_pred _ (by omega) (by omega)
    rw [if_neg (by omega), if_pos (by omega), w]
    simp only [List.range'_zero, List.all_nil, Bool.true_and, endsF]
    cases ((rd_T43 l 0).f0 == 0 && (rd_T43 l 0).f1 == 1) with
    | true => rw [if_pos rfl, if_pos (by omega), if_pos (by omega), Bool.true_and]
    | false => rw [if_neg (by simp), Bool.false_and]
  | succ d ih =>
    intro i k hi hk
    obtain ⟨k, rfl⟩ : ∃ m, k = m + 1 := ⟨k - 1, by omega⟩
    have hg : spec_nbGood.f k (rF l i).f0 (rF l i).f1 = some (okF (rF l i).f0 (rF l i).f1) :=
      hK (rF l i) (rF_mem l i (by omega)) k (by omega)
    have e : (List.range' i (d + 1)).all (stepF l) = (stepF l i && (List.range' (i + 1) d).all (stepF l)) := by rw [List.range'_succ, List.all_cons]
    simp only [spec_nbPolygon.l0]
    rw [if_pos (by omega), if_pos (by omega), if_pos (by omega), hg, Option.bind_some, wrap_succ i (by omega), ih (i + 1) k (by omega) (by omega), e]
    unfold stepF
    cases okF (rF l i).f0 (rF l i).f1 with
    | false => simp
    | true =>
      by_cases h0 : i = 0
      · subst h0
        rw [if_pos rfl, if_neg (by omega)]
        rfl
      · rw [if_pos rfl, if_pos (by omega), wrap_pred i (by omega) (by omega), if_pos (by omega), if_pos (by omega)]
        simp only [spec_nbCross.f, Option.bind_some]
        have b0 : (i == 0) = false := by simp [h0]
        rw [b0]
        by_cases hc : wrap64 (wrap64 ((rF l i).f0 * (rF l (i - 1)).f1) - wrap64 ((rF l (i - 1)).f0 * (rF l i).f1)) = 1
        · rw [if_pos hc]
          simp [crF, hc]
        · rw [if_neg hc]
          simp [crF, hc]

theorem nbPolygon_tells (l : List FR) (hl : l.length ≤ 4611686018427387904) : Ev (fun k => spec_nbPolygon.f k l) (isFP l) := by
  by_cases h : 3 ≤ l.length ∧ l.length ≤ 12
  · obtain ⟨K, hK⟩ := Ev.all (g := fun x k => spec_nbGood.f k x.f0 x.f1) l (fun x _ => nbGood_tells x.f0 x.f1)
    refine ⟨K + l.length + 1, fun k hk => ?_⟩
    show spec_nbPolygon.f k l = _
    unfold spec_nbPolygon.f
    rw [l1In_tells, Option.bind_some, if_pos (by simp; omega)]
    have := nbPolygon_rounds l h.1 h.2 K hK l.length 0 k (by omega) (by omega)
    rw [show ((0 : Nat) : Int) = 0 from rfl] at this
    rw [this]
    unfold isFP
    rw [decide_eq_true h, Bool.true_and]
  · refine ⟨0, fun k _ => ?_⟩
    show spec_nbPolygon.f k l = _
    unfold spec_nbPolygon.f
    rw [l1In_tells, Option.bind_some, if_neg (by simp; omega)]
    unfold isFP
    rw [decide_eq_false h, Bool.false_and]

theorem crosses_rounds (l : List FR) (hl : l.length ≤ 4611686018427387904) (d : Nat) : ∀ (i k : Nat), 0 < i → i + d = l.length → d < k →
    impl_IsFractionPolygon.l0 k l (l.length : Int) (i : Int) = some ((List.range' i d).all fun j => crF (rF l (j - 1)) (rF l j)) := by
  induction d with
  | zero =>
    intro i k _ hi hk
    obtain ⟨k, rfl⟩ : ∃ m, k = m + 1 := ⟨k - 1, by omega⟩
    simp only [impl_IsFractionPolygon.l0]
    rw [if_neg (by omega)]
    rfl
  | succ d ih =>
    intro i k h0 hi hk
    obtain ⟨k, rfl⟩ : ∃ m, k = m + 1 := ⟨k - 1, by omega⟩
    simp only [impl_IsFractionPolygon.l0, impl_cross.f, Option.bind_some]
    rw [if_pos (by omega), wrap_pred i (by omega) (by omega), if_pos (by omega), if_pos (by omega), if_pos (by omega), if_pos (by omega), wrap_succ i (by omega), ih (i + 1) k (by omega) (by omega) (by omega), List.range'_succ, List.all_cons]
    by_cases hc : wrap64 (wrap64 ((rF l i).f0 * (rF l (i - 1)).f1) - wrap64 ((rF l (i - 1)).f0 * (rF l i).f1)) = 1
    · rw [if_pos hc]
      simp [crF, hc]
    · rw [if_neg hc]
      simp [crF, hc]

theorem all_rF (p : FR → Bool) (l : List FR) : l.all p = (List.range' 0 l.length).all fun j => p (rF l j) := by
  rw [Bool.eq_iff_iff, List.all_eq_true, List.all_eq_true]
  constructor
  · intro h j hj
    exact h _ (rF_mem l j (by simpa using hj))
  · intro h x hx
    obtain ⟨j, hj, rfl⟩ := List.getElem_of_mem hx
    have := h j (by simpa using hj)
    unfold rF rd_T43 at this
    rwa [Int.toNat_natCast, List.getD_eq_getElem?_getD, List.getElem?_eq_getElem hj] at this

theorem isFP_other (l : List FR) (h3 : 3 ≤ l.length) : ((List.range' 0 l.length).all (stepF l) && endsF l) = ((l.all fun x => okF x.f0 x.f1) && (endsF l && (List.range' 1 (l.length - 1)).all fun j => crF (rF l (j - 1)) (rF l j))) := by
  rw [all_rF (fun x => okF x.f0 x.f1) l]
  rw [Bool.eq_iff_iff]
  simp only [Bool.and_eq_true, List.all_eq_true, stepF, List.mem_range'_1, Bool.or_eq_true, beq_iff_eq]
  constructor
  · rintro ⟨h, he⟩
    exact ⟨fun j hj => (h j hj).1, he, fun j hj => by rcases (h j (by omega)).2 with e | e; · omega
                                                      · exact e⟩
  · rintro ⟨h, he, hc⟩
    refine ⟨fun j hj => ⟨h j hj, ?_⟩, he⟩
    by_cases e : j = 0
    · exact .inl e
    · exact .inr (hc j (by omega))

theorem isFractionPolygon_tells (l : List FR) (hl : l.length ≤ 4611686018427387904) : Ev (fun k => impl_IsFractionPolygon.f k l) (isFP l) := by
  refine ⟨l.length + 2, fun k hk => ?_⟩
  obtain ⟨k, rfl⟩ : ∃ m, k = m + 1 := ⟨k - 1, by omega⟩
  show impl_IsFractionPolygon.f (k + 1) l = _
  unfold impl_IsFractionPolygon.f impl_isPolygon.f isFP
  rw [within_tells, Option.bind_some, Option.bind_some]
  by_cases h : 3 ≤ l.length ∧ l.length ≤ 12
  · rw [if_pos (by simp; omega), decide_eq_true h, Bool.true_and, isFP_other l h.1]
    simp only [impl_areFractions.f, Option.bind_some]
    cases (l.all fun x => okF x.f0 x.f1) with
    | false => simp [impl_IsFractionPolygon.j0]
    | true =>
      rw [if_pos rfl, if_pos (by omega), wrap_pred _ (by omega) (by omega)]
      simp only [endsF, impl_IsFractionPolygon.j0, Bool.true_and]
      have hr := crosses_rounds l hl (l.length - 1) 1 k (by omega) (by omega) (by omega)
      rw [show ((1 : Nat) : Int) = 1 from rfl] at hr
      have p1 : (0 : Int) ≤ ((l.length - 1 : Nat) : Int) := by omega
      have p2 : ((l.length - 1 : Nat) : Int) < (l.length : Int) := by omega
      simp only [if_pos p1, if_pos p2, hr]
      cases (rd_T43 l 0).f0 == 0 <;> cases (rd_T43 l 0).f1 == 1 <;> cases (rF l (l.length - 1)).f0 == 1 <;> cases (rF l (l.length - 1)).f1 == 0 <;> simp
  · rw [if_neg (by simp; omega), decide_eq_false h, Bool.false_and]
    simp [impl_IsFractionPolygon.j0]

def conv43 (x : S40) : S43 := ⟨x.f0, x.f1⟩
theorem toS43_rounds (x0 : List S40) (hl : x0.length ≤ 1048576) (d : Nat) : ∀ (i k : Nat) (x3 : List S43), x3.length = x0.length → i + d = x0.length → d < k →
    laws_toFractionS.l0 k x0 x3 (i : Int) = some (x3.take i ++ (x0.drop i).map conv43) := by
  induction d with
  | zero =>
    intro i k x3 h3 hi hk
    obtain ⟨k, rfl⟩ : ∃ m, k = m + 1 := ⟨k - 1, by omega⟩
    simp only [laws_toFractionS.l0]
    rw [if_neg (by omega), List.drop_of_length_le (by omega), List.take_of_length_le (by omega), List.map_nil, List.append_nil]
  | succ d ih =>
    intro i k x3 h3 hi hk
    obtain ⟨k, rfl⟩ : ∃ m, k = m + 1 := ⟨k - 1, by omega⟩
    simp only [laws_toFractionS.l0, laws_toFraction.f, Option.bind_some]
    rw [if_pos (by omega), if_pos (by omega), if_pos (by omega), wrap_succ i (by omega), ih (i + 1) k _ (by rw [List.length_set]; exact h3) (by omega) (by omega), Int.toNat_natCast, take_set_succ _ _ _ (by omega), getD_drop x0 z40 i (by omega), List.map_cons]
    simp [rd_T40, conv43]
theorem toS43_tells (x0 : List S40) (hl : x0.length ≤ 1048576) : Ev (fun k => laws_toFractionS.f k x0) (x0.map conv43) := by
  refine ⟨x0.length + 1, fun k hk => ?_⟩
  show laws_toFractionS.f k x0 = _
  unfold laws_toFractionS.f
  rw [if_pos (by omega), if_pos (by omega), Int.toNat_natCast]
  have h := toS43_rounds x0 hl x0.length 0 k (List.replicate x0.length z43) (by simp) (by omega) (by omega)
  simpa using h
theorem eqS43_rounds (l : List S43) (hl : l.length ≤ 4611686018427387904) (d : Nat) : ∀ (i k : Nat), i + d = l.length → d < k → laws_eqFractionS.l0 k l l (i : Int) = some true := by
  induction d with
  | zero =>
    intro i k hi hk
    obtain ⟨k, rfl⟩ : ∃ m, k = m + 1 := ⟨k - 1, by omega⟩
    simp only [laws_eqFractionS.l0]
    rw [if_neg (by omega)]
  | succ d ih =>
    intro i k hi hk
    obtain ⟨k, rfl⟩ : ∃ m, k = m + 1 := ⟨k - 1, by omega⟩
    simp only [laws_eqFractionS.l0, laws_eqFraction.f, if_true, Option.bind_some]
    rw [if_pos (by omega), if_pos (by omega), if_pos (by omega), wrap_succ i (by omega)]
    exact ih (i + 1) k (by omega) (by omega)
theorem eqS43_tells (l : List S43) (hl : l.length ≤ 4611686018427387904) : Ev (fun k => laws_eqFractionS.f k l l) true := by
  refine ⟨l.length + 1, fun k hk => ?_⟩
  show laws_eqFractionS.f k l l = _
  unfold laws_eqFractionS.f
  rw [if_pos rfl]
  exact eqS43_rounds l hl l.length 0 k (by omega) (by omega)
theorem sz43_tells (l : List S40) (n : Int) (h0 : 0 ≤ n) (h1 : n ≤ 1048576) (hl : l.length ≤ 4611686018427387904) : laws_szFractionS.f l n = some (if n - (l.length : Int) < 0 then -1 else n - (l.length : Int)) := by
  unfold laws_szFractionS.f
  have w : wrap64 (n - (l.length : Int)) = n - (l.length : Int) := by unfold wrap64; omega
  rw [w]
  split <;> rfl

theorem FnExactIsFractionPolygon (l : List S40) (hm : l.length ≤ maxLen) (_ : ∀ y ∈ l, (Lit.int .i64 y.f0).wf = true ∧ (Lit.int .i64 y.f1).wf = true) :
    ∃ k, laws_FnExactIsFractionPolygon.f k l = some true := by
  unfold maxLen at hm
  have hs := sz43_tells l 1048576 (by omega) (by omega)
  by_cases hl : l.length ≤ 1048576
  · have hc : (l.map conv43).length ≤ 4611686018427387904 := by rw [List.length_map]; omega
    obtain ⟨K, e0, e1, e2, e3⟩ := Ev.at4 (toS43_tells l hl) (nbPolygon_tells _ hc) (isFractionPolygon_tells _ hc) (eqS43_tells _ hc)
    refine ⟨K + 1, ?_⟩
    simp only [laws_FnExactIsFractionPolygon.f, Option.bind_some, spec_IsFractionPolygon.f, e0, e1, e2, e3]
    rw [hs (by omega), Option.bind_some]
    simp
  · by_cases h2 : l.length ≤ 4611686018427387904
    · refine ⟨0, ?_⟩
      unfold laws_FnExactIsFractionPolygon.f
      rw [hs h2, Option.bind_some, if_pos (by omega : (1048576 : Int) - (l.length : Int) < 0), if_pos (by omega)]
    · refine ⟨0, ?_⟩
      unfold laws_FnExactIsFractionPolygon.f laws_szFractionS.f
      have w : wrap64 (1048576 - (l.length : Int)) < 0 := by unfold wrap64; omega
      rw [if_pos w]
      rfl

end Go.Proofs.Ytnikefebkcminaa.PureFnExactIsFractionPolygon
