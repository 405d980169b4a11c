/- The program's QuiddityOfFractions and the reference's return the same for every list of pairs of numbers that the statement lets in: the quotient of the neighbours' denominators by the own one is one more than the number of near pairs at that corner (the near ones round a fraction take every value there is), and the near pairs are n - 3, a triangulation. No condition. -/
import Derived.Test.YtnjejmfnacpdoaaPFnExactQuiddityOfFractionsx0
import Derived.Test.YtnjejmfnacpdoaaPFnExactQuiddityOfFractionsx1
import Derived.Test.YtnjejmfnacpdoaaPFnExactQuiddityOfFractionsx10
import Derived.Test.YtnjejmfnacpdoaaPFnExactQuiddityOfFractionsx11
import Derived.Test.YtnjejmfnacpdoaaPFnExactQuiddityOfFractionsx12
import Derived.Test.YtnjejmfnacpdoaaPFnExactQuiddityOfFractionsx13
import Derived.Test.YtnjejmfnacpdoaaPFnExactQuiddityOfFractionsx2
import Derived.Test.YtnjejmfnacpdoaaPFnExactQuiddityOfFractionsx3
import Derived.Test.YtnjejmfnacpdoaaPFnExactQuiddityOfFractionsx4
import Derived.Test.YtnjejmfnacpdoaaPFnExactQuiddityOfFractionsx5
import Derived.Test.YtnjejmfnacpdoaaPFnExactQuiddityOfFractionsx6
import Derived.Test.YtnjejmfnacpdoaaPFnExactQuiddityOfFractionsx7
import Derived.Test.YtnjejmfnacpdoaaPFnExactQuiddityOfFractionsx8
import Derived.Test.YtnjejmfnacpdoaaPFnExactQuiddityOfFractionsx9
set_option linter.unusedSimpArgs false
set_option linter.unnecessarySimpa false
set_option linter.unusedVariables false
namespace Go.Proofs.Ytnjejmfnacpdoaa.PureFnExactQuiddityOfFractions
open Go.RowKit Go.Proofs.Ytnjejmfnacpdoaa.PFnExactQuiddityOfFractions Go.Proofs.YtnjejmfnacpdoaaW.PrintWords Go.Proofs.YtnjejmfnacpdoaaW.PrintLast

theorem Ev.at1 {α : Type} {g : Nat → Option α} {r : α} (h : Ev g r) : ∃ K, ∀ j, g (K + j) = some r := by
  obtain ⟨K, h⟩ := h
  exact ⟨K, fun j => h _ (by omega)⟩
theorem Ev.at2 {α β : Type} {g : Nat → Option α} {r : α} {g2 : Nat → Option β} {r2 : β} (h : Ev g r) (h2 : Ev g2 r2) : ∃ K, (∀ j, g (K + j) = some r) ∧ ∀ j, g2 (K + j) = some r2 := by
  obtain ⟨K, h⟩ := h
  obtain ⟨K2, h2⟩ := h2
  exact ⟨K + K2, fun j => h _ (by omega), fun j => h2 _ (by omega)⟩
theorem Ev.at3 {α β γ : Type} {g : Nat → Option α} {r : α} {g2 : Nat → Option β} {r2 : β} {g3 : Nat → Option γ} {r3 : γ} (h : Ev g r) (h2 : Ev g2 r2) (h3 : Ev g3 r3) :
    ∃ K, (∀ j, g (K + j) = some r) ∧ (∀ j, g2 (K + j) = some r2) ∧ ∀ j, g3 (K + j) = some r3 := by
  obtain ⟨K, h⟩ := h
  obtain ⟨K2, h2⟩ := h2
  obtain ⟨K3, h3⟩ := h3
  exact ⟨K + K2 + K3, fun j => h _ (by omega), fun j => h2 _ (by omega), fun j => h3 _ (by omega)⟩
theorem Ev.at4 {α β γ δ : Type} {g : Nat → Option α} {r : α} {g2 : Nat → Option β} {r2 : β} {g3 : Nat → Option γ} {r3 : γ} {g4 : Nat → Option δ} {r4 : δ} (h : Ev g r) (h2 : Ev g2 r2) (h3 : Ev g3 r3) (h4 : Ev g4 r4) :
    ∃ K, (∀ j, g (K + j) = some r) ∧ (∀ j, g2 (K + j) = some r2) ∧ (∀ j, g3 (K + j) = some r3) ∧ ∀ j, g4 (K + j) = some r4 := by
  obtain ⟨K, e1, e2, e3⟩ := Ev.at3 h h2 h3
  obtain ⟨K4, h4⟩ := h4
  exact ⟨K + K4, fun j => by rw [Nat.add_assoc]; exact e1 _, fun j => by rw [Nat.add_assoc]; exact e2 _, fun j => by rw [Nat.add_assoc]; exact e3 _, fun j => h4 _ (by omega)⟩
theorem Ev.all {α β : Type} {g : α → Nat → Option β} {r : α → β} (l : List α) (h : ∀ x, x ∈ l → Ev (g x) (r x)) : ∃ K, ∀ x, x ∈ l → ∀ k, K ≤ k → g x k = some (r x) := by
  induction l with
  | nil => exact ⟨0, fun x hx => by cases hx⟩
  | cons y l ih =>
    obtain ⟨K, hK⟩ := ih (fun x hx => h x (List.mem_cons_of_mem _ hx))
    obtain ⟨K2, hK2⟩ := h y (List.mem_cons_self ..)
    refine ⟨K + K2, fun x hx k hk => ?_⟩
    rcases List.mem_cons.1 hx with e | e
    · subst e
      exact hK2 k (by omega)
    · exact hK x e k (by omega)

theorem take_set_succ {α : Type} (l : List α) (i : Nat) (v : α) (h : i < l.length) : (l.set i v).take (i + 1) = l.take i ++ [v] := by
  rw [List.take_succ_eq_append_getElem (by rw [List.length_set]; exact h), List.getElem_set_self, List.take_set_of_le (Nat.le_refl i)]
theorem getD_drop {α : Type} (l : List α) (d : α) (i : Nat) (h : i < l.length) : l.drop i = l.getD i d :: l.drop (i + 1) := by
  rw [List.drop_eq_getElem_cons h, List.getD_eq_getElem?_getD, List.getElem?_eq_getElem h]
  rfl
theorem wrap_succ (i : Nat) (h : i < 4611686018427387904) : wrap64 ((i : Int) + 1) = ((i + 1 : Nat) : Int) := by unfold wrap64; omega
theorem wrap_pred (i : Nat) (h0 : 0 < i) (h : i < 4611686018427387904) : wrap64 ((i : Int) - 1) = ((i - 1 : Nat) : Int) := by unfold wrap64; omega

theorem l1In_tells (a b c : Int) : spec_l1In.f a b c = some (decide (b ≤ a ∧ a ≤ c)) := by
  unfold spec_l1In.f
  by_cases h : a ≥ b
  · rw [if_pos h]
    have : b ≤ a := h
    simp [this]
  · rw [if_neg h]
    have : ¬ b ≤ a := h
    simp [this]

theorem nbGood_rounds (b : Nat) : ∀ (a k : Nat), b < k → spec_nbGood.l0 k (a : Int) (b : Int) = some (Nat.gcd a b == 1) := by
  induction b using Nat.strongRecOn with
  | _ b ih =>
    intro a k hk
    obtain ⟨k, rfl⟩ : ∃ m, k = m + 1 := ⟨k - 1, by omega⟩
    simp only [spec_nbGood.l0]
    by_cases h : b = 0
    · subst h
      rw [if_neg (by omega), Nat.gcd_zero_right]
      congr 1
      rw [Bool.eq_iff_iff, beq_iff_eq, beq_iff_eq]
      omega
    · have hm : a % b < b := Nat.mod_lt _ (by omega)
      rw [if_pos (by omega), if_neg (by omega), ← Int.ofNat_tmod, ih (a % b) hm b k (by omega), Nat.gcd_comm a b, Nat.gcd_rec b a, Nat.gcd_comm]

theorem nbGood_tells (a b : Int) : Ev (fun k => spec_nbGood.f k a b) (okF a b) := by
  by_cases h0 : 0 ≤ a ∧ a ≤ 1000000
  · by_cases h1 : 0 ≤ b ∧ b ≤ 1000000
    · refine ⟨b.toNat + 2, fun k hk => ?_⟩
      obtain ⟨k, rfl⟩ : ∃ m, k = m + 1 := ⟨k - 1, by omega⟩
      show spec_nbGood.f (k + 1) a b = _
      unfold spec_nbGood.f
      rw [l1In_tells, l1In_tells]
      simp only [h0, h1, and_self, decide_true, Option.bind_some, if_true, okF, Bool.true_and, Bool.not_true, spec_nbGood.j0, Bool.false_eq_true, if_false]
      have h := nbGood_rounds b.toNat a.toNat k (by omega)
      rw [Int.toNat_of_nonneg h0.1, Int.toNat_of_nonneg h1.1] at h
      exact h
    · refine ⟨1, fun k hk => ?_⟩
      obtain ⟨k, rfl⟩ : ∃ m, k = m + 1 := ⟨k - 1, by omega⟩
      show spec_nbGood.f (k + 1) a b = _
      unfold spec_nbGood.f
      rw [l1In_tells, l1In_tells]
      simp [h0, h1, okF, spec_nbGood.j0]
  · refine ⟨1, fun k hk => ?_⟩
    obtain ⟨k, rfl⟩ : ∃ m, k = m + 1 := ⟨k - 1, by omega⟩
    show spec_nbGood.f (k + 1) a b = _
    unfold spec_nbGood.f
    rw [l1In_tells]
    simp [h0, okF, spec_nbGood.j0]

abbrev FR := S32
abbrev rF (l : List FR) (j : Nat) : FR := rd_T32 l (j : Int)
def crF (a b : FR) : Bool := wrap64 (wrap64 (b.f0 * a.f1) - wrap64 (a.f0 * b.f1)) == 1
def stepF (l : List FR) (j : Nat) : Bool := okF (rF l j).f0 (rF l j).f1 && (j == 0 || crF (rF l (j - 1)) (rF l j))
def endsF (l : List FR) : Bool := ((rd_T32 l 0).f0 == 0 && (rd_T32 l 0).f1 == 1) && ((rF l (l.length - 1)).f0 == 1 && (rF l (l.length - 1)).f1 == 0)
/-- Is it a polygon of fractions. -/
def isFP (l : List FR) : Bool := decide (3 ≤ l.length ∧ l.length ≤ 12) && ((List.range' 0 l.length).all (stepF l) && endsF l)

theorem rF_mem (l : List FR) (i : Nat) (h : i < l.length) : rF l i ∈ l := by
  unfold rF rd_T32
  rw [Int.toNat_natCast, List.getD_eq_getElem?_getD, List.getElem?_eq_getElem h]
  exact List.getElem_mem _

theorem nbPolygon_rounds (l : List FR) (h3 : 3 ≤ l.length) (h12 : l.length ≤ 12) (K : Nat) (hK : ∀ x, x ∈ l → ∀ k, K ≤ k → spec_nbGood.f k x.f0 x.f1 = some (okF x.f0 x.f1)) (d : Nat) : ∀ (i k : Nat), i + d = l.length → K + d < k →
    spec_nbPolygon.l0 k l (l.length : Int) l (l.length : Int) (i : Int) = some ((List.range' i d).all (stepF l) && endsF l) := by
  induction d with
  | zero =>
    intro i k hi hk
    obtain ⟨k, rfl⟩ : ∃ m, k = m + 1 := ⟨k - 1, by omega⟩
    simp only [spec_nbPolygon.l0]
    have w : wrap64 ((l.length : Int) - 1) = ((l.length - 1 : Nat) : Int) := wrap_pred _ (by omega) (by omega)
    rw [if_neg (by omega), if_pos (by omega), w]
    simp only [List.range'_zero, List.all_nil, Bool.true_and, endsF]
    cases ((rd_T32 l 0).f0 == 0 && (rd_T32 l 0).f1 == 1) with
    | true => rw [if_pos rfl, if_pos (by omega), if_pos (by omega), Bool.true_and]
    | false => rw [if_neg (by simp), Bool.false_and]
  | succ d ih =>
    intro i k hi hk
    obtain ⟨k, rfl⟩ : ∃ m, k = m + 1 := ⟨k - 1, by omega⟩
    have hg : spec_nbGood.f k (rF l i).f0 (rF l i).f1 = some (okF (rF l i).f0 (rF l i).f1) :=
      hK (rF l i) (rF_mem l i (by omega)) k (by omega)
    have e : (List.range' i (d + 1)).all (stepF l) = (stepF l i && (List.range' (i + 1) d).all (stepF l)) := by rw [List.range'_succ, List.all_cons]
    simp only [spec_nbPolygon.l0]
    rw [if_pos (by omega), if_pos (by omega), if_pos (by omega), hg, Option.bind_some, wrap_succ i (by omega), ih (i + 1) k (by omega) (by omega), e]
    unfold stepF
    cases okF (rF l i).f0 (rF l i).f1 with
    | false => simp
    | true =>
      by_cases h0 : i = 0
      · subst h0
        rw [if_pos rfl, if_neg (by omega)]
        rfl
      · rw [if_pos rfl, if_pos (by omega), wrap_pred i (by omega) (by omega), if_pos (by omega), if_pos (by omega)]
        simp only [spec_nbCross.f, Option.bind_some]
        have b0 : (i == 0) = false := by simp [h0]
        rw [b0]
        by_cases hc : wrap64 (wrap64 ((rF l i).f0 * (rF l (i - 1)).f1) - wrap64 ((rF l (i - 1)).f0 * (rF l i).f1)) = 1
        · rw [if_pos hc]
          simp [crF, hc]
        · rw [if_neg hc]
          simp [crF, hc]

theorem nbPolygon_tells (l : List FR) (hl : l.length ≤ 4611686018427387904) : Ev (fun k => spec_nbPolygon.f k l) (isFP l) := by
  by_cases h : 3 ≤ l.length ∧ l.length ≤ 12
  · obtain ⟨K, hK⟩ := Ev.all (g := fun x k => spec_nbGood.f k x.f0 x.f1) l (fun x _ => nbGood_tells x.f0 x.f1)
    refine ⟨K + l.length + 1, fun k hk => ?_⟩
    show spec_nbPolygon.f k l = _
    unfold spec_nbPolygon.f
    rw [l1In_tells, Option.bind_some, if_pos (by simp; omega)]
    have := nbPolygon_rounds l h.1 h.2 K hK l.length 0 k (by omega) (by omega)
    rw [show ((0 : Nat) : Int) = 0 from rfl] at this
    rw [this]
    unfold isFP
    rw [decide_eq_true h, Bool.true_and]
  · refine ⟨0, fun k _ => ?_⟩
    show spec_nbPolygon.f k l = _
    unfold spec_nbPolygon.f
    rw [l1In_tells, Option.bind_some, if_neg (by simp; omega)]
    unfold isFP
    rw [decide_eq_false h, Bool.false_and]

theorem crosses_rounds (l : List FR) (hl : l.length ≤ 4611686018427387904) (d : Nat) : ∀ (i k : Nat), 0 < i → i + d = l.length → d < k →
    impl_IsFractionPolygon.l0 k l (l.length : Int) (i : Int) = some ((List.range' i d).all fun j => crF (rF l (j - 1)) (rF l j)) := by
  induction d with
  | zero =>
    intro i k _ hi hk
    obtain ⟨k, rfl⟩ : ∃ m, k = m + 1 := ⟨k - 1, by omega⟩
    simp only [impl_IsFractionPolygon.l0]
    rw [if_neg (by omega)]
    rfl
  | succ d ih =>
    intro i k h0 hi hk
    obtain ⟨k, rfl⟩ : ∃ m, k = m + 1 := ⟨k - 1, by omega⟩
    simp only [impl_IsFractionPolygon.l0, impl_cross.f, Option.bind_some]
    rw [if_pos (by omega), wrap_pred i (by omega) (by omega), if_pos (by omega), if_pos (by omega), if_pos (by omega), if_pos (by omega), wrap_succ i (by omega), ih (i + 1) k (by omega) (by omega) (by omega), List.range'_succ, List.all_cons]
    by_cases hc : wrap64 (wrap64 ((rF l i).f0 * (rF l (i - 1)).f1) - wrap64 ((rF l (i - 1)).f0 * (rF l i).f1)) = 1
    · rw [if_pos hc]
      simp [crF, hc]
    · rw [if_neg hc]
      simp [crF, hc]

theorem all_rF (p : FR → Bool) (l : List FR) : l.all p = (List.range' 0 l.length).all fun j => p (rF l j) := by
  rw [Bool.eq_iff_iff, List.all_eq_true, List.all_eq_true]
  constructor
  · intro h j hj
    exact h _ (rF_mem l j (by simpa using hj))
  · intro h x hx
    obtain ⟨j, hj, rfl⟩ := List.getElem_of_mem hx
    have := h j (by simpa using hj)
    unfold rF rd_T32 at this
    rwa [Int.toNat_natCast, List.getD_eq_getElem?_getD, List.getElem?_eq_getElem hj] at this

theorem isFP_other (l : List FR) (h3 : 3 ≤ l.length) : ((List.range' 0 l.length).all (stepF l) && endsF l) = ((l.all fun x => okF x.f0 x.f1) && (endsF l && (List.range' 1 (l.length - 1)).all fun j => crF (rF l (j - 1)) (rF l j))) := by
  rw [all_rF (fun x => okF x.f0 x.f1) l]
  rw [Bool.eq_iff_iff]
  simp only [Bool.and_eq_true, List.all_eq_true, stepF, List.mem_range'_1, Bool.or_eq_true, beq_iff_eq]
  constructor
  · rintro ⟨h, he⟩
    exact ⟨fun j hj => (h j hj).1, he, fun j hj => by rcases (h j (by omega)).2 with e | e; · omega
                                                      · exact e⟩
  · rintro ⟨h, he, hc⟩
    refine ⟨fun j hj => ⟨h j hj, ?_⟩, he⟩
    by_cases e : j = 0
    · exact .inl e
    · exact .inr (hc j (by omega))

theorem isFractionPolygon_tells (l : List FR) (hl : l.length ≤ 4611686018427387904) : Ev (fun k => impl_IsFractionPolygon.f k l) (isFP l) := by
  refine ⟨l.length + 2, fun k hk => ?_⟩
  obtain ⟨k, rfl⟩ : ∃ m, k = m + 1 := ⟨k - 1, by omega⟩
  show impl_IsFractionPolygon.f (k + 1) l = _
  unfold impl_IsFractionPolygon.f impl_isPolygon.f isFP
  rw [within_tells, Option.bind_some, Option.bind_some]
  by_cases h : 3 ≤ l.length ∧ l.length ≤ 12
  · rw [if_pos (by simp; omega), decide_eq_true h, Bool.true_and, isFP_other l h.1]
    simp only [impl_areFractions.f, Option.bind_some]
    cases (l.all fun x => okF x.f0 x.f1) with
    | false => simp [impl_IsFractionPolygon.j0]
    | true =>
      rw [if_pos rfl, if_pos (by omega), wrap_pred _ (by omega) (by omega)]
      simp only [endsF, impl_IsFractionPolygon.j0, Bool.true_and]
      have hr := crosses_rounds l hl (l.length - 1) 1 k (by omega) (by omega) (by omega)
      rw [show ((1 : Nat) : Int) = 1 from rfl] at hr
      have p1 : (0 : Int) ≤ ((l.length - 1 : Nat) : Int) := by omega
      have p2 : ((l.length - 1 : Nat) : Int) < (l.length : Int) := by omega
      simp only [if_pos p1, if_pos p2, hr]
      cases (rd_T32 l 0).f0 == 0 <;> cases (rd_T32 l 0).f1 == 1 <;> cases (rF l (l.length - 1)).f0 == 1 <;> cases (rF l (l.length - 1)).f1 == 0 <;> simp
  · rw [if_neg (by simp; omega), decide_eq_false h, Bool.false_and]
    simp [impl_IsFractionPolygon.j0]

abbrev DG := S70
abbrev rD (l : List DG) (j : Nat) : DG := rd_T70 l (j : Int)
def crossB (a b c d : Int) : Bool := decide (a < c ∧ c < b ∧ b < d) || decide (c < a ∧ a < d ∧ d < b)
def diagB (n a b : Int) : Bool := decide (0 ≤ a ∧ b ≤ n - 1 ∧ b - a ≥ 2 ∧ b - a ≤ n - 2)
def lessB (a b c d : Int) : Bool := decide (a < c ∨ (a = c ∧ b < d))
def stepD (n : Int) (l : List DG) (j : Nat) : Bool :=
  diagB n (rD l j).f0 (rD l j).f1 && ((j == 0 || lessB (rD l (j - 1)).f0 (rD l (j - 1)).f1 (rD l j).f0 (rD l j).f1) && !(l.take j).any fun e => crossB (rD l j).f0 (rD l j).f1 e.f0 e.f1)
theorem stepD_def (n : Int) (l : List DG) (j : Nat) : stepD n l j = (diagB n (rD l j).f0 (rD l j).f1 && ((j == 0 || lessB (rD l (j - 1)).f0 (rD l (j - 1)).f1 (rD l j).f0 (rD l j).f1) && !(l.take j).any fun e => crossB (rD l j).f0 (rD l j).f1 e.f0 e.f1)) := rfl
def goodD (n : Int) (l : List DG) : Bool := (List.range' 0 l.length).all (stepD n l)

theorem rD_drop (l : List DG) (i : Nat) (h : i < l.length) : l.drop i = rD l i :: l.drop (i + 1) := by
  rw [getD_drop l z70 i h]
  unfold rD rd_T70
  rw [Int.toNat_natCast]
theorem any_take_step (p : DG → Bool) (l : List DG) (i : Nat) (h : i < l.length) : (l.drop i).any p = (p (rD l i) || (l.drop (i + 1)).any p) := by
  rw [rD_drop l i h, List.any_cons]

theorem isPolygon_tells (n : Int) : impl_isPolygon.f n = some (decide (3 ≤ n ∧ n ≤ 12)) := by
  unfold impl_isPolygon.f
  rw [within_tells]
  rfl
theorem isDiagonal_tells (n a b : Int) (h : 3 ≤ n ∧ n ≤ 12) : impl_isDiagonal.f n a b = some (diagB n a b) := by
  unfold impl_isDiagonal.f diagB
  rw [within_tells, within_tells]
  have w : wrap64 (n - 1) = n - 1 := by unfold wrap64; omega
  simp only [Option.bind_some, w, decide_eq_true_eq]
  by_cases h0 : 0 ≤ a ∧ a ≤ n - 1
  · by_cases h1 : 0 ≤ b ∧ b ≤ n - 1
    · have w3 : wrap64 (b - a) = b - a := by unfold wrap64; omega
      rw [if_pos h0, if_pos h1, w3]
      repeat' split
      all_goals congr 1; rw [Bool.eq_iff_iff]; simp only [decide_eq_true_eq, Bool.false_eq_true, false_iff, Bool.not_eq_true', beq_eq_false_iff_ne, ne_eq, Bool.not_false, true_iff]; omega
    · rw [if_pos h0, if_neg h1]
      congr 1; rw [Bool.eq_iff_iff]; simp only [decide_eq_true_eq, Bool.false_eq_true, false_iff]; omega
  · rw [if_neg h0]
    congr 1; rw [Bool.eq_iff_iff]; simp only [decide_eq_true_eq, Bool.false_eq_true, false_iff]; omega
def cmpI (a c : Int) : Int := if a < c then -1 else if a > c then 1 else 0
def cmpD (a b c d : Int) : Int := if a = c then cmpI b d else cmpI a c
theorem compare_tells (a c : Int) : cmp_Compare_int.f a c = some (cmpI a c) := by
  unfold cmp_Compare_int.f cmp_isNaN_int.f cmpI
  have h0 : (a != a) = false := by simp
  have h1 : (c != c) = false := by simp
  rw [h0, h1]
  simp only [Option.bind_some, Bool.false_eq_true, if_false]
  repeat' split
  all_goals rfl
theorem compareDiagonals_tells (a b c d : Int) (k : Nat) (hk : 3 ≤ k) : impl_compareDiagonals.f k a b c d = some (cmpD a b c d) := by
  obtain ⟨k, rfl⟩ : ∃ q, k = q + 3 := ⟨k - 3, by omega⟩
  unfold impl_compareDiagonals.f cmp_Or_int.f
  rw [compare_tells, compare_tells]
  simp only [Option.bind_some, List.length_cons, List.length_nil]
  have r0 : rd [cmpI a c, cmpI b d] 0 = cmpI a c := rfl
  have r1 : rd [cmpI a c, cmpI b d] 1 = cmpI b d := rfl
  have w0 : wrap64 (0 + 1) = 1 := by unfold wrap64; omega
  have w1 : wrap64 (1 + 1) = 2 := by unfold wrap64; omega
  simp only [cmp_Or_int.l0, w0, w1, r0, r1]
  unfold cmpD
  by_cases e : a = c
  · have z : cmpI a c = 0 := by unfold cmpI; rw [if_neg (by omega), if_neg (by omega)]
    rw [if_pos e, z]
    by_cases z2 : cmpI b d = 0
    · simp [z2]
    · simp [z2]
  · have z : ¬ cmpI a c = 0 := by unfold cmpI; split; · omega
                                  split <;> omega
    rw [if_neg e]
    simp [z]
theorem cmpD_nonneg (a b c d : Int) : cmpD a b c d ≥ 0 ↔ lessB a b c d = false := by
  unfold cmpD cmpI lessB
  rw [decide_eq_false_iff_not]
  repeat' split
  all_goals omega

def isTriB (n : Int) (l : List DG) : Bool := decide (3 ≤ n ∧ n ≤ 12) && (decide ((l.length : Int) = n - 3) && goodD n l)

theorem cnt_split {α : Type} (p q r : α → Bool) : ∀ l : List α, (∀ x ∈ l, p x = true → q x = true ∨ r x = true) → l.countP p ≤ l.countP q + l.countP r
  | [], _ => by simp
  | x :: l, h => by
    have ih := cnt_split p q r l (fun y hy => h y (List.mem_cons_of_mem _ hy))
    have hx := h x (List.mem_cons_self ..)
    simp only [List.countP_cons]
    cases hp : p x <;> cases hq : q x <;> cases hr : r x <;> simp_all <;> omega
theorem cnt_zero {α : Type} (p : α → Bool) (l : List α) (h : ∀ x ∈ l, p x = false) : l.countP p = 0 := by
  rw [List.countP_eq_zero]
  intro x hx
  simp [h x hx]
theorem last_of (P : Int → Prop) : ∀ (m : Nat) (lo hi : Int), hi - lo ≤ m → lo < hi → P lo → ∃ c, lo ≤ c ∧ c < hi ∧ P c ∧ ∀ c', c < c' → c' < hi → ¬ P c'
  | 0, lo, hi, h, h2, _ => by omega
  | m + 1, lo, hi, h, h2, hP => by
    by_cases hx : ∃ c, lo < c ∧ c < hi ∧ P c
    · obtain ⟨c, h3, h4, h5⟩ := hx
      obtain ⟨e, h6, h7, h8, h9⟩ := last_of P m c hi (by omega) h4 h5
      exact ⟨e, by omega, h7, h8, h9⟩
    · exact ⟨lo, by omega, h2, hP, fun c' h3 h4 h5 => hx ⟨c', h3, h4, h5⟩⟩

def hasD (l : List DG) (a b : Int) : Bool := l.any fun d => d.f0 == a && d.f1 == b
theorem hasD_of {l : List DG} {d : DG} (h : d ∈ l) : hasD l d.f0 d.f1 = true := List.any_eq_true.2 ⟨d, h, by simp⟩
theorem hasD_mem {l : List DG} {a b : Int} (h : hasD l a b = true) : ∃ d ∈ l, d.f0 = a ∧ d.f1 = b := by
  obtain ⟨d, h1, h2⟩ := List.any_eq_true.1 h
  simp only [Bool.and_eq_true, beq_iff_eq] at h2
  exact ⟨d, h1, h2⟩
def under (l : List DG) (i j : Int) : Nat := l.countP fun d => decide (i ≤ d.f0 ∧ d.f1 ≤ j)
def inner (l : List DG) (i j : Int) : Nat := l.countP fun d => decide (i ≤ d.f0 ∧ d.f1 ≤ j ∧ ¬ (d.f0 = i ∧ d.f1 = j))

structure Tri (n : Int) (l : List DG) : Prop where
  n3 : 3 ≤ n ∧ n ≤ 12
  len : (l.length : Int) = n - 3
  ok : ∀ d ∈ l, 0 ≤ d.f0 ∧ d.f1 ≤ n - 1 ∧ 2 ≤ d.f1 - d.f0 ∧ d.f1 - d.f0 ≤ n - 2
  nc : ∀ d ∈ l, ∀ e ∈ l, ¬ (d.f0 < e.f0 ∧ e.f0 < d.f1 ∧ d.f1 < e.f1)
  sorted : l.Pairwise fun d e => d.f0 < e.f0 ∨ (d.f0 = e.f0 ∧ d.f1 < e.f1)

theorem cnt_one (a b : Int) : ∀ l : List DG, (l.Pairwise fun d e => d.f0 < e.f0 ∨ (d.f0 = e.f0 ∧ d.f1 < e.f1)) → l.countP (fun d => decide (d.f0 = a ∧ d.f1 = b)) ≤ if hasD l a b = true then 1 else 0
  | [], _ => by simp
  | x :: l, h => by
    obtain ⟨h1, h2⟩ := List.pairwise_cons.1 h
    have ih := cnt_one a b l h2
    simp only [List.countP_cons]
    by_cases hx : x.f0 = a ∧ x.f1 = b
    · have hz : l.countP (fun d => decide (d.f0 = a ∧ d.f1 = b)) = 0 := by
        apply cnt_zero
        intro y hy
        have := h1 y hy
        rw [decide_eq_false_iff_not]
        omega
      have hh : hasD (x :: l) a b = true := by
        rw [← hx.1, ← hx.2]
        exact hasD_of (List.mem_cons_self ..)
      rw [hz, if_pos hh]
      simp [hx]
    · have hh : hasD (x :: l) a b = hasD l a b := by
        unfold hasD
        rw [List.any_cons]
        have : (x.f0 == a && x.f1 == b) = false := by
          rw [Bool.eq_false_iff]
          simpa using hx
        rw [this, Bool.false_or]
      rw [hh]
      simp only [hx, decide_false, Bool.false_eq_true, if_false]
      exact ih

theorem Tri.under_inner {n : Int} {l : List DG} (T : Tri n l) (i j : Int) : under l i j ≤ inner l i j + if hasD l i j = true then 1 else 0 := by
  have h1 := cnt_split (fun d : DG => decide (i ≤ d.f0 ∧ d.f1 ≤ j)) (fun d : DG => decide (i ≤ d.f0 ∧ d.f1 ≤ j ∧ ¬ (d.f0 = i ∧ d.f1 = j))) (fun d : DG => decide (d.f0 = i ∧ d.f1 = j)) l (fun x _ h => by
    simp only [decide_eq_true_eq] at h ⊢
    omega)
  have h2 := cnt_one i j l T.sorted
  unfold under inner
  omega

theorem Tri.half {n : Int} {l : List DG} (T : Tri n l) (a b : Int) (h1 : 1 ≤ b - a) (ih : 2 ≤ b - a → (inner l a b : Int) ≤ b - a - 2) :
    (under l a b : Int) ≤ b - a - 1 ∧ ((under l a b : Int) = b - a - 1 → b - a = 1 ∨ (hasD l a b = true ∧ 2 ≤ b - a ∧ (inner l a b : Int) = b - a - 2)) := by
  by_cases h2 : 2 ≤ b - a
  · have h3 := ih h2
    have h4 := T.under_inner a b
    cases hh : hasD l a b
    · rw [hh, if_neg (by simp)] at h4
      exact ⟨by omega, fun _ => by omega⟩
    · rw [hh, if_pos rfl] at h4
      exact ⟨by omega, fun _ => .inr ⟨rfl, h2, by omega⟩⟩
  · have hz : under l a b = 0 := by
      apply cnt_zero
      intro d hd
      have := T.ok d hd
      rw [decide_eq_false_iff_not]
      omega
    rw [hz]
    exact ⟨by omega, fun _ => .inl (by omega)⟩

theorem Tri.split {n : Int} {l : List DG} (T : Tri n l) (i j : Int) (h : 2 ≤ j - i) :
    ∃ c, i < c ∧ c < j ∧ ∀ d ∈ l, i ≤ d.f0 → d.f1 ≤ j → ¬ (d.f0 = i ∧ d.f1 = j) → d.f1 ≤ c ∨ c ≤ d.f0 := by
  obtain ⟨c, h1, h2, h3, h4⟩ := last_of (fun c => c = i + 1 ∨ hasD l i c = true) (j - (i + 1)).toNat (i + 1) j (by omega) (by omega) (.inl rfl)
  refine ⟨c, by omega, h2, fun d hd h5 h6 h7 => ?_⟩
  by_cases h8 : d.f1 ≤ c
  · exact .inl h8
  · by_cases h9 : c ≤ d.f0
    · exact .inr h9
    · exfalso
      by_cases e : d.f0 = i
      · refine h4 d.f1 (by omega) (by omega) (.inr ?_)
        rw [← e]
        exact hasD_of hd
      · rcases h3 with h3 | h3
        · omega
        · obtain ⟨x, hx, hx1, hx2⟩ := hasD_mem h3
          exact T.nc x hx d hd (by omega)

theorem inner_le (l : List DG) (i j c : Int) (h : ∀ d ∈ l, i ≤ d.f0 → d.f1 ≤ j → ¬ (d.f0 = i ∧ d.f1 = j) → d.f1 ≤ c ∨ c ≤ d.f0) : inner l i j ≤ under l i c + under l c j := by
  apply cnt_split
  intro d hd h1
  have h2 := h d hd
  simp only [decide_eq_true_eq] at h1 ⊢
  have h3 := h2 h1.1 h1.2.1 h1.2.2
  omega

theorem Tri.bound {n : Int} {l : List DG} (T : Tri n l) : ∀ (m : Nat) (i j : Int), j - i ≤ m → 2 ≤ j - i → (inner l i j : Int) ≤ j - i - 2
  | 0, i, j, h, h2 => by omega
  | m + 1, i, j, h, h2 => by
    obtain ⟨c, h3, h4, h5⟩ := T.split i j h2
    have h6 := inner_le l i j c h5
    have h7 := (T.half i c (by omega) (fun h => T.bound m i c (by omega) h)).1
    have h8 := (T.half c j (by omega) (fun h => T.bound m c j (by omega) h)).1
    omega

def Full (l : List DG) (i j : Int) : Prop := 2 ≤ j - i ∧ (inner l i j : Int) = j - i - 2

theorem Tri.apex {n : Int} {l : List DG} (T : Tri n l) (i j : Int) (hf : Full l i j) :
    ∃ c, i < c ∧ c < j ∧ (c - i = 1 ∨ (hasD l i c = true ∧ Full l i c)) ∧ (j - c = 1 ∨ (hasD l c j = true ∧ Full l c j)) ∧
      ∀ d ∈ l, i ≤ d.f0 → d.f1 ≤ j → ¬ (d.f0 = i ∧ d.f1 = j) → d.f1 ≤ c ∨ c ≤ d.f0 := by
  obtain ⟨h2, hf⟩ := hf
  obtain ⟨c, h3, h4, h5⟩ := T.split i j h2
  have h6 := inner_le l i j c h5
  obtain ⟨h7, g7⟩ := T.half i c (by omega) (fun h => T.bound (c - i).toNat i c (by omega) h)
  obtain ⟨h8, g8⟩ := T.half c j (by omega) (fun h => T.bound (j - c).toNat c j (by omega) h)
  exact ⟨c, h3, h4, g7 (by omega), g8 (by omega), h5⟩

/-- Two corners are joined: by a side or by a diagonal. -/
def J (n : Int) (l : List DG) (a b : Int) : Prop := b = a + 1 ∨ (a = 0 ∧ b = n - 1) ∨ hasD l a b = true

theorem J.of {n : Int} {l : List DG} {a b : Int} {P : Prop} (h : b - a = 1 ∨ (hasD l a b = true ∧ P)) : J n l a b := by
  rcases h with h | h
  · exact .inl (by omega)
  · exact .inr (.inr h.1)

theorem Tri.reach {n : Int} {l : List DG} (T : Tri n l) : ∀ (m : Nat) (i j : Int), j - i ≤ m → Full l i j → 0 ≤ i → j ≤ n - 1 → J n l i j → ∀ d ∈ l, i ≤ d.f0 → d.f1 ≤ j → ¬ (d.f0 = i ∧ d.f1 = j) →
    (∃ c, d.f0 < c ∧ c < d.f1 ∧ J n l d.f0 c ∧ J n l c d.f1) ∧ ∃ o, 0 ≤ o ∧ o ≤ n - 1 ∧ ((o < d.f0 ∧ J n l o d.f0 ∧ J n l o d.f1) ∨ (d.f1 < o ∧ J n l d.f0 o ∧ J n l d.f1 o))
  | 0, i, j, h, hf, _, _, _, d, _, _, _, _ => by have := hf.1; omega
  | m + 1, i, j, h, hf, hi, hj, hJ, d, hd, h1, h2, h3 => by
    obtain ⟨c, c1, c2, c3, c4, c5⟩ := T.apex i j hf
    have hok := T.ok d hd
    rcases c5 d hd h1 h2 h3 with h4 | h4
    · rcases c3 with c3 | ⟨c3, f3⟩
      · omega
      · by_cases e : d.f0 = i ∧ d.f1 = c
        · obtain ⟨e1, e2⟩ := e
          obtain ⟨x, x1, x2, x3, x4, _⟩ := T.apex i c f3
          rw [e1, e2]
          exact ⟨⟨x, x1, x2, J.of x3, J.of x4⟩, j, by omega, hj, .inr ⟨by omega, hJ, J.of c4⟩⟩
        · exact T.reach m i c (by omega) f3 hi (by omega) (.inr (.inr c3)) d hd h1 h4 e
    · rcases c4 with c4 | ⟨c4, f4⟩
      · omega
      · by_cases e : d.f0 = c ∧ d.f1 = j
        · obtain ⟨e1, e2⟩ := e
          obtain ⟨x, x1, x2, x3, x4, _⟩ := T.apex c j f4
          rw [e1, e2]
          exact ⟨⟨x, x1, x2, J.of x3, J.of x4⟩, i, by omega, by omega, .inl ⟨by omega, J.of c3, hJ⟩⟩
        · exact T.reach m c j (by omega) f4 (by omega) hj (.inr (.inr c4)) d hd h4 h2 e

theorem Tri.jcross {n : Int} {l : List DG} (T : Tri n l) {a b c d : Int} (h1 : J n l a b) (h2 : J n l c d) (ha : 0 ≤ a) (hd : d ≤ n - 1) : ¬ (a < c ∧ c < b ∧ b < d) := by
  intro h
  rcases h1 with h1 | h1 | h1
  · omega
  · omega
  · rcases h2 with h2 | h2 | h2
    · omega
    · omega
    · obtain ⟨x, hx, x1, x2⟩ := hasD_mem h1
      obtain ⟨y, hy, y1, y2⟩ := hasD_mem h2
      exact T.nc x hx y hy (by omega)

/-- The two corners with which the ends of a diagonal are joined: one inside, one outside, and no other. -/
theorem Tri.two {n : Int} {l : List DG} (T : Tri n l) (d : DG) (hd : d ∈ l) : ∃ x o, d.f0 < x ∧ x < d.f1 ∧ 0 ≤ o ∧ o ≤ n - 1 ∧ (o < d.f0 ∨ d.f1 < o) ∧
    (J n l d.f0 x ∧ J n l x d.f1) ∧ (J n l (min o d.f0) (max o d.f0) ∧ J n l (min o d.f1) (max o d.f1)) ∧
    ∀ c, 0 ≤ c → c ≤ n - 1 → c ≠ d.f0 → c ≠ d.f1 → (J n l (min c d.f0) (max c d.f0) ∧ J n l (min c d.f1) (max c d.f1)) → c = x ∨ c = o := by
  have hok := T.ok d hd
  have hn := T.n3
  have hfull : Full l 0 (n - 1) := by
    refine ⟨by omega, ?_⟩
    have : inner l 0 (n - 1) = l.length := by
      unfold inner
      rw [List.countP_eq_length]
      intro e he
      have := T.ok e he
      rw [decide_eq_true_eq]
      omega
    rw [this, T.len]
    omega
  obtain ⟨⟨x, x1, x2, x3, x4⟩, o, o1, o2, o3⟩ := T.reach (n - 1).toNat 0 (n - 1) (by omega) hfull (by omega) (by omega) (.inr (.inl ⟨rfl, rfl⟩)) d hd (by omega) (by omega) (by omega)
  refine ⟨x, o, x1, x2, o1, o2, by omega, ⟨x3, x4⟩, ?_, ?_⟩
  · rcases o3 with ⟨h, h5, h6⟩ | ⟨h, h5, h6⟩
    · rw [Int.min_eq_left (by omega), Int.max_eq_right (by omega), Int.min_eq_left (by omega), Int.max_eq_right (by omega)]
      exact ⟨h5, h6⟩
    · rw [Int.min_eq_right (by omega), Int.max_eq_left (by omega), Int.min_eq_right (by omega), Int.max_eq_left (by omega)]
      exact ⟨h5, h6⟩
  · intro c c1 c2 c3 c4 ⟨j1, j2⟩
    by_cases hx : c = x
    · exact .inl hx
    · by_cases ho : c = o
      · exact .inr ho
      · exfalso
        by_cases hin : d.f0 < c ∧ c < d.f1
        · rw [Int.min_eq_right (by omega), Int.max_eq_left (by omega)] at j1
          rw [Int.min_eq_left (by omega), Int.max_eq_right (by omega)] at j2
          by_cases hlt : c < x
          · exact T.jcross x3 j2 (by omega) (by omega) (by omega)
          · exact T.jcross j1 x4 (by omega) (by omega) (by omega)
        · rcases o3 with ⟨h, h5, h6⟩ | ⟨h, h5, h6⟩
          · by_cases hc : c < d.f0
            · rw [Int.min_eq_left (by omega), Int.max_eq_right (by omega)] at j1
              rw [Int.min_eq_left (by omega), Int.max_eq_right (by omega)] at j2
              by_cases hlt : c < o
              · exact T.jcross j1 h6 (by omega) (by omega) (by omega)
              · exact T.jcross h5 j2 (by omega) (by omega) (by omega)
            · rw [Int.min_eq_right (by omega), Int.max_eq_left (by omega)] at j1
              exact T.jcross h6 j1 (by omega) (by omega) (by omega)
          · by_cases hc : c < d.f0
            · rw [Int.min_eq_left (by omega), Int.max_eq_right (by omega)] at j2
              exact T.jcross j2 h5 (by omega) (by omega) (by omega)
            · rw [Int.min_eq_right (by omega), Int.max_eq_left (by omega)] at j1
              rw [Int.min_eq_right (by omega), Int.max_eq_left (by omega)] at j2
              by_cases hlt : c < o
              · exact T.jcross j1 h6 (by omega) (by omega) (by omega)
              · exact T.jcross h5 j2 (by omega) (by omega) (by omega)

theorem pair_chain (l : List DG) (h : ∀ j, 0 < j → j < l.length → (rD l (j - 1)).f0 < (rD l j).f0 ∨ ((rD l (j - 1)).f0 = (rD l j).f0 ∧ (rD l (j - 1)).f1 < (rD l j).f1)) : l.Pairwise fun d e => d.f0 < e.f0 ∨ (d.f0 = e.f0 ∧ d.f1 < e.f1) := by
  induction l with
  | nil => exact List.Pairwise.nil
  | cons x l ih =>
    have h' := ih (fun j j1 j2 => by
      have := h (j + 1) (by omega) (by simpa using j2)
      rw [show j + 1 - 1 = (j - 1) + 1 by omega] at this
      simpa [rD, rd_T70] using this)
    refine List.pairwise_cons.2 ⟨?_, h'⟩
    intro y hy
    cases l with
    | nil => cases hy
    | cons z l =>
      have h0 := h 1 (by omega) (by simp)
      have h1 : x.f0 < z.f0 ∨ (x.f0 = z.f0 ∧ x.f1 < z.f1) := by simpa [rD, rd_T70] using h0
      rcases List.mem_cons.1 hy with e | e
      · rw [e]
        exact h1
      · have := (List.pairwise_cons.1 h').1 y e
        omega

theorem rD_get (l : List DG) (j : Nat) (h : j < l.length) : rD l j = l[j] := by
  unfold rD rd_T70
  rw [Int.toNat_natCast, List.getD_eq_getElem?_getD, List.getElem?_eq_getElem h]
  rfl

theorem tri_of (n : Int) (l : List DG) (h : isTriB n l = true) : Tri n l := by
  unfold isTriB goodD at h
  simp only [Bool.and_eq_true, decide_eq_true_eq, List.all_eq_true] at h
  obtain ⟨hn, hl, hs⟩ := h
  have hst : ∀ j, j < l.length → stepD n l j = true := fun j hj => hs j (List.mem_range'_1.2 ⟨by omega, by omega⟩)
  have hok : ∀ d ∈ l, 0 ≤ d.f0 ∧ d.f1 ≤ n - 1 ∧ 2 ≤ d.f1 - d.f0 ∧ d.f1 - d.f0 ≤ n - 2 := by
    intro d hd
    obtain ⟨j, hj, e⟩ := List.getElem_of_mem hd
    have h1 := hst j hj
    rw [stepD_def, rD_get l j hj, e] at h1
    simp only [Bool.and_eq_true, diagB, decide_eq_true_eq] at h1
    omega
  have hnc : ∀ (j : Nat) (hj : j < l.length) (i : Nat) (hi : i < j), crossB l[j].f0 l[j].f1 l[i].f0 l[i].f1 = false := by
    intro j hj i hi
    have h1 := hst j hj
    rw [stepD_def, rD_get l j hj] at h1
    simp only [Bool.and_eq_true, Bool.not_eq_true'] at h1
    have h2 := List.any_eq_false.1 h1.2.2 l[i] (by
      rw [List.mem_take_iff_getElem]
      exact ⟨i, by omega, rfl⟩)
    simpa using h2
  refine ⟨hn, hl, hok, ?_, pair_chain l ?_⟩
  · intro d hd e he hx
    obtain ⟨i, hi, e1⟩ := List.getElem_of_mem hd
    obtain ⟨j, hj, e2⟩ := List.getElem_of_mem he
    subst e1 e2
    rcases Nat.lt_trichotomy i j with h1 | h1 | h1
    · have := hnc j hj i h1
      simp only [crossB, Bool.or_eq_false_iff, decide_eq_false_iff_not] at this
      omega
    · subst h1
      omega
    · have := hnc i hi j h1
      simp only [crossB, Bool.or_eq_false_iff, decide_eq_false_iff_not] at this
      omega
  · intro j j1 j2
    have h1 := hst j j2
    rw [stepD_def] at h1
    have b0 : (j == 0) = false := by rw [beq_eq_false_iff_ne]; omega
    rw [b0] at h1
    simp only [Bool.and_eq_true, Bool.false_or, lessB, decide_eq_true_eq] at h1
    exact h1.2.1

structure NC (n : Int) (l : List DG) : Prop where
  ok : ∀ d ∈ l, 0 ≤ d.f0 ∧ d.f1 ≤ n - 1 ∧ 2 ≤ d.f1 - d.f0 ∧ d.f1 - d.f0 ≤ n - 2
  nc : ∀ d ∈ l, ∀ e ∈ l, ¬ (d.f0 < e.f0 ∧ e.f0 < d.f1 ∧ d.f1 < e.f1)
  sorted : l.Pairwise fun d e => d.f0 < e.f0 ∨ (d.f0 = e.f0 ∧ d.f1 < e.f1)
theorem NC.under_inner {n : Int} {l : List DG} (T : NC n l) (i j : Int) : under l i j ≤ inner l i j + if hasD l i j = true then 1 else 0 := by
  have h1 := cnt_split (fun d : DG => decide (i ≤ d.f0 ∧ d.f1 ≤ j)) (fun d : DG => decide (i ≤ d.f0 ∧ d.f1 ≤ j ∧ ¬ (d.f0 = i ∧ d.f1 = j))) (fun d : DG => decide (d.f0 = i ∧ d.f1 = j)) l (fun x _ h => by
    simp only [decide_eq_true_eq] at h ⊢
    omega)
  have h2 := cnt_one i j l T.sorted
  unfold under inner
  omega

theorem NC.half {n : Int} {l : List DG} (T : NC n l) (a b : Int) (h1 : 1 ≤ b - a) (ih : 2 ≤ b - a → (inner l a b : Int) ≤ b - a - 2) :
    (under l a b : Int) ≤ b - a - 1 ∧ ((under l a b : Int) = b - a - 1 → b - a = 1 ∨ (hasD l a b = true ∧ 2 ≤ b - a ∧ (inner l a b : Int) = b - a - 2)) := by
  by_cases h2 : 2 ≤ b - a
  · have h3 := ih h2
    have h4 := T.under_inner a b
    cases hh : hasD l a b
    · rw [hh, if_neg (by simp)] at h4
      exact ⟨by omega, fun _ => by omega⟩
    · rw [hh, if_pos rfl] at h4
      exact ⟨by omega, fun _ => .inr ⟨rfl, h2, by omega⟩⟩
  · have hz : under l a b = 0 := by
      apply cnt_zero
      intro d hd
      have := T.ok d hd
      rw [decide_eq_false_iff_not]
      omega
    rw [hz]
    exact ⟨by omega, fun _ => .inl (by omega)⟩

theorem NC.split {n : Int} {l : List DG} (T : NC n l) (i j : Int) (h : 2 ≤ j - i) :
    ∃ c, i < c ∧ c < j ∧ ∀ d ∈ l, i ≤ d.f0 → d.f1 ≤ j → ¬ (d.f0 = i ∧ d.f1 = j) → d.f1 ≤ c ∨ c ≤ d.f0 := by
  obtain ⟨c, h1, h2, h3, h4⟩ := last_of (fun c => c = i + 1 ∨ hasD l i c = true) (j - (i + 1)).toNat (i + 1) j (by omega) (by omega) (.inl rfl)
  refine ⟨c, by omega, h2, fun d hd h5 h6 h7 => ?_⟩
  by_cases h8 : d.f1 ≤ c
  · exact .inl h8
  · by_cases h9 : c ≤ d.f0
    · exact .inr h9
    · exfalso
      by_cases e : d.f0 = i
      · refine h4 d.f1 (by omega) (by omega) (.inr ?_)
        rw [← e]
        exact hasD_of hd
      · rcases h3 with h3 | h3
        · omega
        · obtain ⟨x, hx, hx1, hx2⟩ := hasD_mem h3
          exact T.nc x hx d hd (by omega)

theorem NC.bound {n : Int} {l : List DG} (T : NC n l) : ∀ (m : Nat) (i j : Int), j - i ≤ m → 2 ≤ j - i → (inner l i j : Int) ≤ j - i - 2
  | 0, i, j, h, h2 => by omega
  | m + 1, i, j, h, h2 => by
    obtain ⟨c, h3, h4, h5⟩ := T.split i j h2
    have h6 := inner_le l i j c h5
    have h7 := (T.half i c (by omega) (fun h => T.bound m i c (by omega) h)).1
    have h8 := (T.half c j (by omega) (fun h => T.bound m c j (by omega) h)).1
    omega

theorem cnt_join {α : Type} (p q r : α → Bool) : ∀ l : List α, (∀ x ∈ l, q x = true → p x = true ∧ r x = false) → (∀ x ∈ l, r x = true → p x = true) → l.countP q + l.countP r ≤ l.countP p
  | [], _, _ => by simp
  | x :: l, h1, h2 => by
    have ih := cnt_join p q r l (fun y hy => h1 y (List.mem_cons_of_mem _ hy)) (fun y hy => h2 y (List.mem_cons_of_mem _ hy))
    have a1 := h1 x (List.mem_cons_self ..)
    have a2 := h2 x (List.mem_cons_self ..)
    simp only [List.countP_cons]
    cases hp : p x <;> cases hq : q x <;> cases hr : r x <;> simp_all <;> omega
theorem NC.inner_all {n : Int} {l : List DG} (T : NC n l) : inner l 0 (n - 1) = l.length := by
  unfold inner
  rw [List.countP_eq_length]
  intro d hd
  have := T.ok d hd
  rw [decide_eq_true_eq]
  omega
theorem NC.most {n : Int} {l : List DG} (T : NC n l) (hn : 3 ≤ n) : (l.length : Int) ≤ n - 3 := by
  have h := T.bound (n - 1).toNat 0 (n - 1) (by omega) (by omega)
  rw [T.inner_all] at h
  omega
theorem inner_ge {n : Int} {l : List DG} (T : NC n l) (i j c : Int) (h1 : i < c) (h2 : c < j) : under l i c + under l c j ≤ inner l i j := by
  apply cnt_join
  · intro d hd h
    have := T.ok d hd
    simp only [decide_eq_true_eq, decide_eq_false_iff_not] at h ⊢
    omega
  · intro d hd h
    have := T.ok d hd
    simp only [decide_eq_true_eq] at h ⊢
    omega
theorem under_ge {l : List DG} (i j : Int) (h : hasD l i j = true) : inner l i j + 1 ≤ under l i j := by
  obtain ⟨d, hd, e1, e2⟩ := hasD_mem h
  have h1 := cnt_join (fun d : DG => decide (i ≤ d.f0 ∧ d.f1 ≤ j)) (fun d : DG => decide (i ≤ d.f0 ∧ d.f1 ≤ j ∧ ¬ (d.f0 = i ∧ d.f1 = j))) (fun d : DG => decide (d.f0 = i ∧ d.f1 = j)) l (fun x _ h => by
    simp only [decide_eq_true_eq, decide_eq_false_iff_not] at h ⊢
    omega) (fun x _ h => by
    simp only [decide_eq_true_eq] at h ⊢
    omega)
  have h2 : 0 < l.countP (fun d : DG => decide (d.f0 = i ∧ d.f1 = j)) := List.countP_pos_iff.2 ⟨d, hd, by simp [e1, e2]⟩
  unfold under inner
  omega
theorem NC.full {n : Int} {l : List DG} (T : NC n l) (nofree : ∀ a b : Int, 0 ≤ a → b ≤ n - 1 → 2 ≤ b - a → b - a ≤ n - 2 → (∀ e ∈ l, ¬ (a < e.f0 ∧ e.f0 < b ∧ b < e.f1) ∧ ¬ (e.f0 < a ∧ a < e.f1 ∧ e.f1 < b)) → hasD l a b = true) :
    ∀ (m : Nat) (i j : Int), j - i ≤ m → 2 ≤ j - i → 0 ≤ i → j ≤ n - 1 → ((i = 0 ∧ j = n - 1) ∨ hasD l i j = true) → j - i - 2 ≤ (inner l i j : Int)
  | 0, i, j, h, h2, _, _, _ => by omega
  | m + 1, i, j, h, h2, hi, hj, hJ => by
    obtain ⟨c, h1, hc, h3, h4⟩ := last_of (fun c => c = i + 1 ∨ hasD l i c = true) (j - (i + 1)).toNat (i + 1) j (by omega) (by omega) (.inl rfl)
    have hge := inner_ge T i j c (by omega) hc
    have hleft : c - i - 1 ≤ (under l i c : Int) := by
      by_cases e : c - i = 1
      · omega
      · rcases h3 with h3 | h3
        · omega
        · have := NC.full T nofree m i c (by omega) (by omega) hi (by omega) (.inr h3)
          have := under_ge i c h3
          omega
    have hright : j - c - 1 ≤ (under l c j : Int) := by
      by_cases e : j - c = 1
      · omega
      · have h5 : hasD l c j = true := by
          refine nofree c j (by omega) hj (by omega) (by omega) (fun e he => ?_)
          have hoe := T.ok e he
          constructor
          · rintro ⟨q1, q2, q3⟩
            rcases hJ with hJ | hJ
            · omega
            · obtain ⟨x, hx, hx1, hx2⟩ := hasD_mem hJ
              exact T.nc x hx e he (by omega)
          · rintro ⟨q1, q2, q3⟩
            by_cases e1 : e.f0 = i
            · refine h4 e.f1 (by omega) (by omega) (.inr ?_)
              rw [← e1]
              exact hasD_of he
            · by_cases e2 : e.f0 < i
              · rcases hJ with hJ | hJ
                · omega
                · obtain ⟨x, hx, hx1, hx2⟩ := hasD_mem hJ
                  exact T.nc e he x hx (by omega)
              · rcases h3 with h3 | h3
                · omega
                · obtain ⟨x, hx, hx1, hx2⟩ := hasD_mem h3
                  exact T.nc x hx e he (by omega)
        have := NC.full T nofree m c j (by omega) (by omega) (by omega) hj (.inr h5)
        have := under_ge c j h5
        omega
    omega
theorem NC.free {n : Int} {l : List DG} (T : NC n l) (hn : 3 ≤ n) (h : (l.length : Int) < n - 3) : ∃ a b : Int, 0 ≤ a ∧ b ≤ n - 1 ∧ 2 ≤ b - a ∧ b - a ≤ n - 2 ∧ hasD l a b = false ∧ ∀ e ∈ l, ¬ (a < e.f0 ∧ e.f0 < b ∧ b < e.f1) ∧ ¬ (e.f0 < a ∧ a < e.f1 ∧ e.f1 < b) := by
  apply Classical.byContradiction
  intro hno
  have := T.full (fun a b h1 h2 h3 h4 h5 => by
    cases hh : hasD l a b
    · exact absurd ⟨a, b, h1, h2, h3, h4, hh, h5⟩ hno
    · rfl) (n - 1).toNat 0 (n - 1) (by omega) (by omega) (by omega) (by omega) (.inl ⟨rfl, rfl⟩)
  rw [T.inner_all] at this
  omega
theorem Tri.nct {n : Int} {l : List DG} (T : Tri n l) : NC n l := ⟨T.ok, T.nc, T.sorted⟩
theorem NC.tri {n : Int} {l : List DG} (T : NC n l) (hn : 3 ≤ n ∧ n ≤ 12) (h : (l.length : Int) = n - 3) : Tri n l := ⟨hn, h, T.ok, T.nc, T.sorted⟩

def ltD (x y : DG) : Prop := x.f0 < y.f0 ∨ (x.f0 = y.f0 ∧ x.f1 < y.f1)
def leD (x y : DG) : Prop := x.f0 < y.f0 ∨ (x.f0 = y.f0 ∧ x.f1 ≤ y.f1)
theorem leD_antisymm {x y : DG} (h1 : leD x y) (h2 : leD y x) : x = y := by
  obtain ⟨a, b⟩ := x
  obtain ⟨c, d⟩ := y
  unfold leD at h1 h2
  simp only at h1 h2
  have e1 : a = c := by omega
  have e2 : b = d := by omega
  rw [e1, e2]
theorem sorted_unique : ∀ {l m : List DG}, l.Perm m → l.Pairwise leD → m.Pairwise leD → l = m
  | [], m, h, _, _ => (List.Perm.nil_eq h)
  | x :: l, [], h, _, _ => by have := h.length_eq; simp at this
  | x :: l, y :: m, h, h1, h2 => by
    obtain ⟨a1, a2⟩ := List.pairwise_cons.1 h1
    obtain ⟨b1, b2⟩ := List.pairwise_cons.1 h2
    have e : x = y := by
      have hx : x ∈ y :: m := h.subset (List.mem_cons_self ..)
      have hy : y ∈ x :: l := h.symm.subset (List.mem_cons_self ..)
      rcases List.mem_cons.1 hx with hx | hx
      · exact hx
      · rcases List.mem_cons.1 hy with hy | hy
        · exact hy.symm
        · exact leD_antisymm (a1 y hy) (b1 x hx)
    rw [e] at h ⊢
    rw [sorted_unique (List.Perm.cons_inv h) a2 b2]
theorem sorted_ins {A B : List DG} {d : DG} (h : (A ++ B).Pairwise leD) (hA : ∀ x ∈ A, leD x d) (hB : ∀ x ∈ B, leD d x) : (A ++ d :: B).Pairwise leD := by
  rw [List.pairwise_append] at h ⊢
  obtain ⟨h1, h2, h3⟩ := h
  refine ⟨h1, List.pairwise_cons.2 ⟨hB, h2⟩, fun x hx y hy => ?_⟩
  rcases List.mem_cons.1 hy with e | e
  · rw [e]
    exact hA x hx
  · exact h3 x hx y e
theorem leD_trans {x y z : DG} (h1 : leD x y) (h2 : leD y z) : leD x z := by
  unfold leD at *
  omega
theorem rT_mid (A : List DG) (d : DG) (R : List DG) (i : Int) (hi : i = (A.length : Int)) : rd_T70 (A ++ d :: R) i = d := by
  unfold rd_T70
  rw [hi, Int.toNat_natCast, List.getD_eq_getElem?_getD]
  simp
/-- The reference's place for one: behind all that are less. -/

theorem cmpD_neg (a b c d : Int) : cmpD a b c d < 0 ↔ lessB a b c d = true := by
  have := cmpD_nonneg a b c d
  cases h : lessB a b c d
  · rw [h] at this
    simp only [true_iff, iff_true] at this
    simp only [Bool.false_eq_true, iff_false]
    omega
  · rw [h] at this
    simp only [Bool.true_eq_false, iff_false] at this
    simp only [iff_true]
    omega
theorem swap_set (A : List DG) (z d : DG) (R : List DG) : ((A ++ z :: d :: R).set (A.length + 1) z).set A.length d = A ++ d :: z :: R := by
  induction A with
  | nil => rfl
  | cons x A ih => simpa using ih

theorem ins_l1 (n : Int) (d : DG) (C : List DG) (m : Nat) : ∀ (A B : List DG) (k : Nat) (i : Nat), A.length = m → (A ++ B).Pairwise leD → (∀ x ∈ B, leD d x) → i = A.length + B.length → i ≤ 1000 → m + 8 < k →
    ∃ S k', k ≤ k' + m + 1 ∧ S.Pairwise leD ∧ S.Perm (A ++ d :: B) ∧ impl_Diagonal_163_s0.l1 k (A ++ d :: (B ++ C)) 0 n (i : Int) (m : Int) = impl_Diagonal_163_s0.l0 k' (S ++ C) 0 n ((i : Int) + 1) := by
  induction m with
  | zero =>
    intro A B k i hA hs hB hi hi2 hk
    obtain ⟨k, rfl⟩ : ∃ q, k = q + 1 := ⟨k - 1, by omega⟩
    have : A = [] := List.length_eq_zero_iff.1 hA
    subst this
    have w : wrap64 ((i : Int) + 1) = (i : Int) + 1 := by unfold wrap64; omega
    refine ⟨d :: B, k, by omega, sorted_ins hs (by simp) hB, List.Perm.refl _, ?_⟩
    simp only [impl_Diagonal_163_s0.l1]
    rw [if_neg (by omega), w]
    rfl
  | succ m ih =>
    intro A B k i hA hs hB hi hi2 hk
    obtain ⟨k, rfl⟩ : ∃ q, k = q + 1 := ⟨k - 1, by omega⟩
    rcases List.eq_nil_or_concat A with e | ⟨A', z, e⟩
    · subst e
      simp at hA
    · rw [List.concat_eq_append] at e
      subst e
      rw [List.length_append, List.length_singleton] at hA hi
      have w0 : wrap64 ((i : Int) + 1) = (i : Int) + 1 := by unfold wrap64; omega
      have w1 : wrap64 (((m + 1 : Nat) : Int) - 1) = (m : Int) := by unfold wrap64; omega
      have el : A' ++ [z] ++ d :: (B ++ C) = A' ++ z :: d :: (B ++ C) := by simp
      have r1 : rd_T70 (A' ++ z :: d :: (B ++ C)) ((m + 1 : Nat) : Int) = d := by
        rw [← el]
        exact rT_mid _ _ _ _ (by rw [List.length_append, List.length_singleton]; omega)
      have r2 : rd_T70 (A' ++ z :: d :: (B ++ C)) (m : Int) = z := rT_mid _ _ _ _ (by omega)
      have hlen : (A' ++ z :: d :: (B ++ C)).length = A'.length + (B.length + C.length + 2) := by simp
      rw [el]
      simp only [impl_Diagonal_163_s0.l1]
      rw [if_pos (by omega), if_pos (by omega), if_pos (by rw [hlen]; omega), w1, if_pos (by omega), if_pos (by rw [hlen]; omega), r1, r2, compareDiagonals_tells _ _ _ _ k (by omega), Option.bind_some, w0]
      by_cases hc : cmpD d.f0 d.f1 z.f0 z.f1 < 0
      · rw [if_pos hc]
        have hlt := (cmpD_neg _ _ _ _).1 hc
        simp only [lessB, decide_eq_true_eq] at hlt
        have hsw : ((A' ++ z :: d :: (B ++ C)).set ((m + 1 : Nat) : Int).toNat ⟨z.f0, z.f1⟩).set (m : Int).toNat ⟨d.f0, d.f1⟩ = A' ++ d :: ((z :: B) ++ C) := by
          rw [Int.toNat_natCast, Int.toNat_natCast, show m = A'.length by omega]
          exact swap_set A' z d (B ++ C)
        rw [hsw]
        rw [List.append_assoc] at hs
        obtain ⟨S, k', h1, h2, h3, h4⟩ := ih A' (z :: B) k i (by omega) (by simpa using hs) (by
          intro x hx
          have hdz : leD d z := by unfold leD; omega
          rcases List.mem_cons.1 hx with e | e
          · rw [e]
            exact hdz
          · exact hB x e) (by simp; omega) hi2 (by omega)
        refine ⟨S, k', by omega, h2, h3.trans ?_, h4⟩
        have : (A' ++ [z] ++ d :: B) = A' ++ z :: d :: B := by simp
        rw [this]
        exact List.Perm.append_left A' (List.Perm.swap z d B)
      · rw [if_neg hc]
        have hzd : leD z d := by
          have := mt (cmpD_neg _ _ _ _).2 hc
          simp only [lessB, decide_eq_true_eq] at this
          unfold leD
          omega
        refine ⟨A' ++ [z] ++ d :: B, k, by omega, ?_, List.Perm.refl _, ?_⟩
        · refine sorted_ins hs (fun x hx => ?_) hB
          rcases List.mem_append.1 hx with e | e
          · have h5 := (List.pairwise_append.1 (List.pairwise_append.1 hs).1).2.2 x e z (by simp)
            exact leD_trans h5 hzd
          · rw [List.mem_singleton] at e
            rw [e]
            exact hzd
        · simp

theorem ins_l0 (n : Nat) (hn : n ≤ 12) (C : List DG) : ∀ (S : List DG) (k : Nat), S.Pairwise leD → 0 < S.length → S.length + C.length = n → 25 * C.length + 25 < k →
    ∃ r, impl_Diagonal_163_s0.l0 k (S ++ C) 0 (n : Int) (S.length : Int) = some r ∧ r.Pairwise leD ∧ r.Perm (S ++ C) := by
  induction C with
  | nil =>
    intro S k hs h0 hl hk
    obtain ⟨k, rfl⟩ : ∃ q, k = q + 1 := ⟨k - 1, by omega⟩
    refine ⟨S, ?_, hs, by simp⟩
    simp only [impl_Diagonal_163_s0.l0, List.append_nil]
    rw [if_neg (by simp at hl; omega)]
  | cons d C ih =>
    intro S k hs h0 hl hk
    rw [List.length_cons] at hl hk
    obtain ⟨k, rfl⟩ : ∃ q, k = q + 1 := ⟨k - 1, by omega⟩
    obtain ⟨S', k', h1, h2, h3, h4⟩ := ins_l1 (n : Int) d C S.length S [] k S.length rfl (by simpa using hs) (by simp) (by simp) (by omega) (by omega)
    have hlen : S'.length = S.length + 1 := by rw [h3.length_eq]; simp
    obtain ⟨r, g1, g2, g3⟩ := ih S' k' h2 (by omega) (by omega) (by omega)
    refine ⟨r, ?_, g2, g3.trans ?_⟩
    · simp only [impl_Diagonal_163_s0.l0]
      rw [if_pos (by omega)]
      rw [show (S'.length : Int) = (S.length : Int) + 1 by omega] at g1
      rw [← g1, ← h4]
      simp
    · have := List.Perm.append_right C h3
      simpa using this

theorem len12 (k : Nat) (L : Nat) (h : L ≤ 12) : ∃ r, bits_Len.f (k + 1) (IntKind.u64.wrap (L : Int)) = some r := by
  have : L = 0 ∨ L = 1 ∨ L = 2 ∨ L = 3 ∨ L = 4 ∨ L = 5 ∨ L = 6 ∨ L = 7 ∨ L = 8 ∨ L = 9 ∨ L = 10 ∨ L = 11 ∨ L = 12 := by omega
  rcases this with rfl | rfl | rfl | rfl | rfl | rfl | rfl | rfl | rfl | rfl | rfl | rfl | rfl <;> exact ⟨_, rfl⟩

theorem sortFunc_tells (l : List DG) (h : l.length ≤ 12) (k : Nat) (hk : 400 < k) : ∃ r, impl_Diagonal_103_s1.f k l = some r ∧ r.Pairwise leD ∧ r.Perm l := by
  obtain ⟨k, rfl⟩ : ∃ q, k = q + 1 := ⟨k - 1, by omega⟩
  obtain ⟨q, hq⟩ := len12 k l.length h
  have w : wrap64 (0 + 1) = 1 := by unfold wrap64; omega
  unfold impl_Diagonal_103_s1.f impl_Diagonal_133.f
  rw [hq]
  simp only [Option.bind_some]
  rw [if_pos (by omega)]
  unfold impl_Diagonal_163_s0.f
  rw [w]
  cases l with
  | nil =>
    refine ⟨[], ?_, List.Pairwise.nil, List.Perm.refl _⟩
    rfl
  | cons d C =>
    obtain ⟨r, g1, g2, g3⟩ := ins_l0 (C.length + 1) h C [d] (k + 1) (by simp) (by simp) (by simp; omega) (by simp at h; omega)
    refine ⟨r, ?_, g2, g3⟩
    have e : impl_Diagonal_163_s0.l0 (k + 1) (d :: C) 0 ((d :: C).length : Int) 1 = some r := g1
    rw [e]
    rfl


/-- The cross of two fractions. -/
def crZ (x y : FR) : Int := y.f0 * x.f1 - x.f0 * y.f1
theorem pluck (p q r s : FR) : crZ p r * crZ q s = crZ p q * crZ r s + crZ p s * crZ q r := by
  unfold crZ
  grind
theorem pos_of_mul {a b : Int} (ha : 0 < a) (h : 0 < a * b) : 0 < b := by
  by_cases h1 : 0 < b
  · exact h1
  · have := Int.mul_le_mul_of_nonneg_left (show b ≤ 0 by omega) (Int.le_of_lt ha)
    omega
theorem den_pos (x y : FR) (hx : 0 ≤ x.f0 ∧ 0 ≤ x.f1) (hy : 0 ≤ y.f0 ∧ 0 ≤ y.f1) (h : crZ x y = 1) : 0 < x.f1 := by
  by_cases h1 : 0 < x.f1
  · exact h1
  · have e : x.f1 = 0 := by omega
    unfold crZ at h
    rw [e] at h
    have := Int.mul_nonneg hx.1 hy.2
    omega
theorem cr_step (x y z : FR) (hx : 0 < x.f1) (hy : 0 < y.f1) (hz : 0 ≤ z.f1) (h1 : 0 < crZ x y) (h2 : crZ y z = 1) : 0 < crZ x z := by
  refine pos_of_mul hy ?_
  have e : y.f1 * crZ x z = z.f1 * crZ x y + x.f1 * crZ y z := by
    unfold crZ
    grind
  rw [e, h2]
  have := Int.mul_nonneg hz (Int.le_of_lt h1)
  omega
theorem cr_pos (L : Nat → FR) (n : Nat) (h0 : ∀ i, i < n → 0 ≤ (L i).f0 ∧ 0 ≤ (L i).f1) (h1 : ∀ i, i + 1 < n → crZ (L i) (L (i + 1)) = 1) (e : Nat) : ∀ x, x + 1 + e < n → 0 < crZ (L x) (L (x + 1 + e)) := by
  induction e with
  | zero =>
    intro x hx
    have := h1 x hx
    rw [Nat.add_zero, this]
    omega
  | succ e ih =>
    intro x hx
    have hd : ∀ i, i + 1 < n → 0 < (L i).f1 := fun i hi => den_pos _ _ (h0 i (by omega)) (h0 (i + 1) hi) (h1 i hi)
    exact cr_step _ _ _ (hd x (by omega)) (hd (x + 1 + e) (by omega)) (h0 _ hx).2 (ih x (by omega)) (h1 (x + 1 + e) hx)
theorem near_cross (L : Nat → FR) (n : Nat) (hp : ∀ x y, x < y → y < n → 0 < crZ (L x) (L y)) (p q r s : Nat) (h1 : p < q) (h2 : q < r) (h3 : r < s) (h4 : s < n) : ¬ (crZ (L p) (L r) = 1 ∧ crZ (L q) (L s) = 1) := by
  rintro ⟨a, b⟩
  have h := pluck (L p) (L q) (L r) (L s)
  rw [a, b] at h
  have e1 := Int.mul_pos (hp p q h1 (by omega)) (hp r s h3 h4)
  have e2 := Int.mul_pos (hp p s (by omega) h4) (hp q r h2 (by omega))
  omega
/-- Near. -/
def nbZ (x y : FR) : Bool := decide (crZ x y = 1 ∨ crZ x y = -1)
theorem nbZ_comm (x y : FR) : nbZ x y = nbZ y x := by
  have : crZ x y = - crZ y x := by
    unfold crZ
    grind
  unfold nbZ
  rw [this, Bool.eq_iff_iff, decide_eq_true_eq, decide_eq_true_eq]
  omega
def dI (n i k : Nat) : DG := if k + 1 = n then ⟨0, (i : Int) + 1⟩ else ⟨(i : Int) + 1, (k : Int) + 1⟩
def imB (L : Nat → FR) (n i k : Nat) : Bool := diagB n (dI n i k).f0 (dI n i k).f1 && nbZ (L i) (L k)
def I1 (L : Nat → FR) (n i : Nat) (k e : Nat) : List DG := ((List.range' k e).filter (imB L n i)).map (dI n i)
def I0 (L : Nat → FR) (n : Nat) (i e : Nat) : List DG := (List.range' i e).flatMap fun i => I1 L n i (i + 1) (n - (i + 1))
def ixC (n a : Nat) : Nat := if a = 0 then n - 1 else a - 1
def spB (L : Nat → FR) (n a b : Nat) : Bool := decide ((b : Int) - a ≤ (n : Int) - 2) && nbZ (L (ixC n a)) (L (b - 1))
def S1 (L : Nat → FR) (n a : Nat) (b e : Nat) : List DG := ((List.range' b e).filter (spB L n a)).map fun (b : Nat) => ⟨(a : Int), (b : Int)⟩
def S0 (L : Nat → FR) (n : Nat) (a e : Nat) : List DG := (List.range' a e).flatMap fun a => S1 L n a (a + 2) (n - (a + 2))
theorem S0_mem (L : Nat → FR) (n : Nat) (d : DG) : d ∈ S0 L n 0 n ↔ ∃ a b : Nat, a + 2 ≤ b ∧ b < n ∧ spB L n a b = true ∧ d = ⟨(a : Int), (b : Int)⟩ := by
  unfold S0 S1
  simp only [List.mem_flatMap, List.mem_map, List.mem_filter, List.mem_range'_1]
  constructor
  · rintro ⟨a, ha, b, ⟨hb, hf⟩, e⟩
    exact ⟨a, b, by omega, by omega, hf, e.symm⟩
  · rintro ⟨a, b, h1, h2, h3, e⟩
    exact ⟨a, by omega, b, ⟨by omega, h3⟩, e.symm⟩
theorem I0_mem (L : Nat → FR) (n : Nat) (d : DG) : d ∈ I0 L n 0 n ↔ ∃ i k : Nat, i < k ∧ k < n ∧ imB L n i k = true ∧ d = dI n i k := by
  unfold I0 I1
  simp only [List.mem_flatMap, List.mem_map, List.mem_filter, List.mem_range'_1]
  constructor
  · rintro ⟨a, ha, b, ⟨hb, hf⟩, e⟩
    exact ⟨a, b, by omega, by omega, hf, e.symm⟩
  · rintro ⟨a, b, h1, h2, h3, e⟩
    exact ⟨a, by omega, b, ⟨by omega, h3⟩, e.symm⟩
theorem S0_sorted (L : Nat → FR) (n : Nat) : (S0 L n 0 n).Pairwise fun d e => d.f0 < e.f0 ∨ (d.f0 = e.f0 ∧ d.f1 < e.f1) := by
  unfold S0 S1
  rw [List.pairwise_flatMap]
  refine ⟨fun a _ => ?_, ?_⟩
  · rw [List.pairwise_map]
    refine List.Pairwise.filter _ ((List.pairwise_lt_range' (s := a + 2) (n := n - (a + 2)) (step := 1)).imp ?_)
    intro b c h
    exact .inr ⟨rfl, by simp only; omega⟩
  · refine (List.pairwise_lt_range' (s := 0) (n := n) (step := 1)).imp ?_
    intro a b h x hx y hy
    obtain ⟨u, _, rfl⟩ := List.mem_map.1 hx
    obtain ⟨v, _, rfl⟩ := List.mem_map.1 hy
    simp only
    omega
theorem I0_nodup (L : Nat → FR) (n : Nat) : (I0 L n 0 n).Pairwise fun d e => d ≠ e := by
  unfold I0 I1
  rw [List.pairwise_flatMap]
  have key : ∀ i k i' k' : Nat, i < k → i' < k' → (i ≠ i' ∨ k ≠ k') → dI n i k ≠ dI n i' k' := by
    intro i k i' k' h1 h2 h3 h4
    unfold dI at h4
    split at h4 <;> split at h4
    all_goals
      have e0 := congrArg (fun d : DG => d.f0) h4
      have e1 := congrArg (fun d : DG => d.f1) h4
      simp only at e0 e1
      omega
  refine ⟨fun i _ => ?_, ?_⟩
  · rw [List.pairwise_map]
    have h0 : (List.range' (i + 1) (n - (i + 1))).Pairwise fun a b => dI n i a ≠ dI n i b := by
      refine List.Pairwise.imp_of_mem ?_ (List.pairwise_lt_range' (s := i + 1) (n := n - (i + 1)) (step := 1))
      intro b c hb hc h
      have := List.mem_range'_1.1 hb
      have := List.mem_range'_1.1 hc
      exact key _ _ _ _ (by omega) (by omega) (by omega)
    exact List.Pairwise.filter _ h0
  · refine (List.pairwise_lt_range' (s := 0) (n := n) (step := 1)).imp ?_
    intro a b h x hx y hy
    obtain ⟨u, hu, rfl⟩ := List.mem_map.1 hx
    obtain ⟨v, hv, rfl⟩ := List.mem_map.1 hy
    have h1 := List.mem_range'_1.1 (List.mem_filter.1 hu).1
    have h2 := List.mem_range'_1.1 (List.mem_filter.1 hv).1
    exact key _ _ _ _ (by omega) (by omega) (by omega)
theorem I0_S0 (L : Nat → FR) (n : Nat) (hn : 3 ≤ n) : (I0 L n 0 n).Perm (S0 L n 0 n) := by
  rw [List.perm_ext_iff_of_nodup (List.nodup_iff_pairwise_ne.2 (I0_nodup L n)) (List.nodup_iff_pairwise_ne.2 ((S0_sorted L n).imp (fun {y z} h e => by rw [e] at h; omega)))]
  intro d
  rw [I0_mem, S0_mem]
  constructor
  · rintro ⟨i, k, h1, h2, h3, rfl⟩
    unfold imB at h3
    rw [Bool.and_eq_true] at h3
    obtain ⟨h3, h4⟩ := h3
    unfold diagB at h3
    rw [decide_eq_true_eq] at h3
    by_cases e : k + 1 = n
    · have hd : dI n i k = ⟨((0 : Nat) : Int), ((i + 1 : Nat) : Int)⟩ := by
        unfold dI
        rw [if_pos e]
        rfl
      rw [hd] at h3
      simp only at h3
      refine ⟨0, i + 1, by omega, by omega, ?_, hd⟩
      unfold spB ixC
      rw [Bool.and_eq_true, if_pos rfl, decide_eq_true_eq]
      refine ⟨by omega, ?_⟩
      rw [nbZ_comm, show n - 1 = k by omega, show i + 1 - 1 = i by omega]
      exact h4
    · have hd : dI n i k = ⟨((i + 1 : Nat) : Int), ((k + 1 : Nat) : Int)⟩ := by
        unfold dI
        rw [if_neg e]
        rfl
      rw [hd] at h3
      simp only at h3
      refine ⟨i + 1, k + 1, by omega, by omega, ?_, hd⟩
      unfold spB ixC
      rw [Bool.and_eq_true, if_neg (by omega), decide_eq_true_eq]
      refine ⟨by omega, ?_⟩
      rw [show k + 1 - 1 = k by omega, show i + 1 - 1 = i by omega]
      exact h4
  · rintro ⟨a, b, h1, h2, h3, rfl⟩
    unfold spB ixC at h3
    rw [Bool.and_eq_true, decide_eq_true_eq] at h3
    obtain ⟨h3, h4⟩ := h3
    by_cases e : a = 0
    · rw [if_pos e] at h4
      have hd : dI n (b - 1) (n - 1) = ⟨(a : Int), (b : Int)⟩ := by
        unfold dI
        rw [if_pos (by omega), e]
        congr 1
        omega
      refine ⟨b - 1, n - 1, by omega, by omega, ?_, hd.symm⟩
      unfold imB diagB
      rw [hd, Bool.and_eq_true, decide_eq_true_eq]
      refine ⟨by simp only; omega, ?_⟩
      rw [nbZ_comm]
      exact h4
    · rw [if_neg e] at h4
      have hd : dI n (a - 1) (b - 1) = ⟨(a : Int), (b : Int)⟩ := by
        unfold dI
        rw [if_neg (by omega)]
        congr 1 <;> omega
      refine ⟨a - 1, b - 1, by omega, by omega, ?_, hd.symm⟩
      unfold imB diagB
      rw [hd, Bool.and_eq_true, decide_eq_true_eq]
      exact ⟨by simp only; omega, h4⟩
theorem S0_nc (L : Nat → FR) (n : Nat) (hn : 3 ≤ n) (hp : ∀ x y, x < y → y < n → 0 < crZ (L x) (L y)) : NC n (S0 L n 0 n) := by
  refine ⟨?_, ?_, S0_sorted L n⟩
  · intro d hd
    obtain ⟨a, b, h1, h2, h3, rfl⟩ := (S0_mem L n d).1 hd
    unfold spB at h3
    rw [Bool.and_eq_true, decide_eq_true_eq] at h3
    simp only
    omega
  · intro d hd e he
    obtain ⟨a, b, h1, h2, h3, rfl⟩ := (S0_mem L n d).1 hd
    obtain ⟨a', b', g1, g2, g3, rfl⟩ := (S0_mem L n e).1 he
    unfold spB at h3 g3
    rw [Bool.and_eq_true, decide_eq_true_eq] at h3 g3
    obtain ⟨_, h4⟩ := h3
    obtain ⟨_, g4⟩ := g3
    have one : ∀ x y, x < y → y < n → nbZ (L x) (L y) = true → crZ (L x) (L y) = 1 := by
      intro x y h1 h2 h
      have := hp x y h1 h2
      unfold nbZ at h
      rw [decide_eq_true_eq] at h
      omega
    simp only
    rintro ⟨q1, q2, q3⟩
    unfold ixC at h4 g4
    rw [if_neg (by omega)] at g4
    by_cases e : a = 0
    · rw [if_pos e, nbZ_comm] at h4
      exact near_cross L n hp (a' - 1) (b - 1) (b' - 1) (n - 1) (by omega) (by omega) (by omega) (by omega) ⟨one _ _ (by omega) (by omega) g4, one _ _ (by omega) (by omega) h4⟩
    · rw [if_neg e] at h4
      exact near_cross L n hp (a - 1) (a' - 1) (b - 1) (b' - 1) (by omega) (by omega) (by omega) (by omega) ⟨one _ _ (by omega) (by omega) h4, one _ _ (by omega) (by omega) g4⟩

theorem ix_tmod (N a : Nat) (hN : 3 ≤ N) (ha : a < N) : Int.tmod ((a : Int) + N - 1) (N : Int) = ((ixC N a : Nat) : Int) := by
  unfold ixC
  by_cases h : a = 0
  · rw [if_pos h, Int.tmod_eq_of_lt (by omega) (by omega)]
    omega
  · rw [if_neg h, Int.tmod_eq_emod_of_nonneg (by omega), show (a : Int) + N - 1 = ((a - 1 : Nat) : Int) + N by omega, Int.add_emod_right, Int.emod_eq_of_lt (by omega) (by omega)]
theorem prod_b (a b : Int) (h0 : 0 ≤ a ∧ a ≤ 1000000) (h1 : 0 ≤ b ∧ b ≤ 1000000) : 0 ≤ a * b ∧ a * b ≤ 1000000000000 := by
  refine ⟨Int.mul_nonneg h0.1 h1.1, ?_⟩
  have := Int.mul_le_mul h0.2 h1.2 h1.1 (by omega : (0 : Int) ≤ 1000000)
  omega
theorem ok_b {x : FR} (h : okF x.f0 x.f1 = true) : (0 ≤ x.f0 ∧ x.f0 ≤ 1000000) ∧ (0 ≤ x.f1 ∧ x.f1 ≤ 1000000) := by
  unfold okF at h
  rw [Bool.and_eq_true, Bool.and_eq_true, decide_eq_true_eq, decide_eq_true_eq] at h
  exact ⟨h.1, h.2.1⟩
theorem cross_val {x y : FR} (hx : okF x.f0 x.f1 = true) (hy : okF y.f0 y.f1 = true) : wrap64 (wrap64 (y.f0 * x.f1) - wrap64 (x.f0 * y.f1)) = crZ x y ∧ -1000000000000 ≤ crZ x y ∧ crZ x y ≤ 1000000000000 := by
  have bx := ok_b hx
  have bz := ok_b hy
  have p1 := prod_b y.f0 x.f1 bz.1 bx.2
  have p2 := prod_b x.f0 y.f1 bx.1 bz.2
  unfold crZ
  generalize y.f0 * x.f1 = P at p1 ⊢
  generalize x.f0 * y.f1 = Q at p2 ⊢
  have w1 : wrap64 P = P := by unfold wrap64; omega
  have w2 : wrap64 Q = Q := by unfold wrap64; omega
  rw [w1, w2]
  refine ⟨by unfold wrap64; omega, by omega, by omega⟩
theorem near_val {x y : FR} (hx : okF x.f0 x.f1 = true) (hy : okF y.f0 y.f1 = true) : impl_areNear.f x.f0 x.f1 y.f0 y.f1 = some (nbZ x y) := by
  obtain ⟨h1, h2, h3⟩ := cross_val hx hy
  unfold impl_areNear.f impl_cross.f impl_size.f nbZ
  rw [h1, Option.bind_some, Option.bind_some]
  congr 1
  generalize crZ x y = Z at h2 h3
  have w : wrap64 (-Z) = -Z := by unfold wrap64; omega
  rw [w, Bool.eq_iff_iff, beq_iff_eq, decide_eq_true_eq]
  unfold mx
  split <;> omega
theorem dI_mn (N i k : Nat) (hN : N ≤ 12) (hik : i < k) (hk : k < N) : (⟨mn (Int.tmod (wrap64 ((i : Int) + 1)) (N : Int)) (Int.tmod (wrap64 ((k : Int) + 1)) (N : Int)), mx (Int.tmod (wrap64 ((i : Int) + 1)) (N : Int)) (Int.tmod (wrap64 ((k : Int) + 1)) (N : Int))⟩ : DG) = dI N i k := by
  have w1 : wrap64 ((i : Int) + 1) = (i : Int) + 1 := by unfold wrap64; omega
  have w2 : wrap64 ((k : Int) + 1) = (k : Int) + 1 := by unfold wrap64; omega
  rw [w1, w2, Int.tmod_eq_of_lt (show (0 : Int) ≤ (i : Int) + 1 by omega) (by omega)]
  unfold dI mn mx
  by_cases e : k + 1 = N
  · rw [if_pos e, show (k : Int) + 1 = (N : Int) by omega, Int.tmod_self, if_pos (by omega), if_neg (by omega)]
  · rw [if_neg e, Int.tmod_eq_of_lt (show (0 : Int) ≤ (k : Int) + 1 by omega) (by omega), if_neg (by omega), if_pos (by omega)]
theorem I1_len (L : Nat → FR) (n i k e : Nat) : (I1 L n i k e).length ≤ e := by
  unfold I1
  rw [List.length_map]
  exact Nat.le_trans (List.length_filter_le ..) (by rw [List.length_range']; exact Nat.le_refl _)
theorem S1_len (L : Nat → FR) (n i k e : Nat) : (S1 L n i k e).length ≤ e := by
  unfold S1
  rw [List.length_map]
  exact Nat.le_trans (List.length_filter_le ..) (by rw [List.length_range']; exact Nat.le_refl _)
theorem im_l1 (l : List FR) (N : Nat) (hl : l.length = N) (hN : 3 ≤ N ∧ N ≤ 12) (hok : ∀ x ∈ l, okF x.f0 x.f1 = true) (i : Nat) (r : Option (List DG)) (e : Nat) :
    ∀ (k : Nat) (acc : List DG) (K : Nat), i < k → k + e = N → acc.length + e ≤ 4000 → (∀ q, K ≤ q → impl_nearPairs.l0 q l (N : Int) (acc ++ I1 (rF l) N i k e) (N : Int) (wrap64 ((i : Int) + 1)) = r) →
    ∀ q, K + e < q → impl_nearPairs.l1 q l (N : Int) acc (i : Int) (k : Int) (N : Int) (i : Int) = r := by
  induction e with
  | zero =>
    intro k acc K hik he hacc h q hq
    obtain ⟨q, rfl⟩ : ∃ z, q = z + 1 := ⟨q - 1, by omega⟩
    simp only [impl_nearPairs.l1]
    rw [if_neg (by omega)]
    have := h q (by omega)
    simpa [I1] using this
  | succ e ih =>
    intro k acc K hik he hacc h q hq
    obtain ⟨q, rfl⟩ : ∃ z, q = z + 1 := ⟨q - 1, by omega⟩
    have h3 : (3 : Int) ≤ (N : Int) ∧ (N : Int) ≤ 12 := by omega
    have hx := hok _ (rF_mem l i (by omega))
    have hy := hok _ (rF_mem l k (by omega))
    have hd := dI_mn N i k hN.2 hik (by omega)
    have hd0 : mn (Int.tmod (wrap64 ((i : Int) + 1)) (N : Int)) (Int.tmod (wrap64 ((k : Int) + 1)) (N : Int)) = (dI N i k).f0 := by rw [← hd]
    have hd1 : mx (Int.tmod (wrap64 ((i : Int) + 1)) (N : Int)) (Int.tmod (wrap64 ((k : Int) + 1)) (N : Int)) = (dI N i k).f1 := by rw [← hd]
    have hI : I1 (rF l) N i k (e + 1) = (if imB (rF l) N i k = true then [dI N i k] else []) ++ I1 (rF l) N i (k + 1) e := by
      unfold I1
      rw [List.range'_succ, List.filter_cons]
      split <;> rfl
    have him : imB (rF l) N i k = (diagB (N : Int) (dI N i k).f0 (dI N i k).f1 && nbZ (rF l i) (rF l k)) := rfl
    have hskip : imB (rF l) N i k = false → impl_nearPairs.l1 q l (N : Int) acc (i : Int) (wrap64 ((k : Int) + 1)) (N : Int) (i : Int) = r := by
      intro hb
      rw [wrap_succ k (by omega)]
      refine ih (k + 1) acc K (by omega) (by omega) (by omega) ?_ q (by omega)
      intro q' hq'
      have := h q' hq'
      rw [hI, hb, if_neg (by simp), List.nil_append] at this
      exact this
    simp only [impl_nearPairs.l1]
    rw [if_pos (by omega), if_neg (by omega), hd, hd0, hd1, isDiagonal_tells _ _ _ h3, Option.bind_some]
    cases hdb : diagB (N : Int) (dI N i k).f0 (dI N i k).f1 with
    | false =>
      rw [if_neg (by simp)]
      exact hskip (by rw [him, hdb, Bool.false_and])
    | true =>
      have hnv : impl_areNear.f (rd_T32 l (i : Int)).f0 (rd_T32 l (i : Int)).f1 (rd_T32 l (k : Int)).f0 (rd_T32 l (k : Int)).f1 = some (nbZ (rF l i) (rF l k)) := near_val hx hy
      rw [if_pos rfl, if_pos (by omega), if_pos (by omega), if_pos (by omega), if_pos (by omega), hnv, Option.bind_some]
      cases hnb : nbZ (rF l i) (rF l k) with
      | false =>
        rw [if_neg (by simp)]
        exact hskip (by rw [him, hdb, hnb]; rfl)
      | true =>
        have hlt : acc.length < 8796093022208 := by omega
        rw [if_pos rfl, if_pos hlt, wrap_succ k (by omega)]
        refine ih (k + 1) _ K (by omega) (by omega) (by rw [List.length_append, List.length_singleton]; omega) ?_ q (by omega)
        intro q' hq'
        have := h q' hq'
        rw [hI, him, hdb, hnb] at this
        simpa using this
theorem im_l0 (l : List FR) (N : Nat) (hl : l.length = N) (hN : 3 ≤ N ∧ N ≤ 12) (hok : ∀ x ∈ l, okF x.f0 x.f1 = true) (R : List DG) (e : Nat) :
    ∀ (i : Nat) (acc : List DG) (K : Nat), i + e = N → acc.length + 12 * e ≤ 3000 → (∀ q, K ≤ q → impl_Diagonal_103_s1.f q (acc ++ I0 (rF l) N i e) = some R) → ∀ q, K + 20 * e < q → impl_nearPairs.l0 q l (N : Int) acc (N : Int) (i : Int) = some R := by
  induction e with
  | zero =>
    intro i acc K he hacc h q hq
    obtain ⟨q, rfl⟩ : ∃ z, q = z + 1 := ⟨q - 1, by omega⟩
    have h1 := h q (by omega)
    simp only [impl_nearPairs.l0]
    rw [if_neg (by omega)]
    have e0 : I0 (rF l) N i 0 = [] := rfl
    rw [e0, List.append_nil] at h1
    rw [h1]
    rfl
  | succ e ih =>
    intro i acc K he hacc h q hq
    obtain ⟨q, rfl⟩ : ∃ z, q = z + 1 := ⟨q - 1, by omega⟩
    have hI : I0 (rF l) N i (e + 1) = I1 (rF l) N i (i + 1) (N - (i + 1)) ++ I0 (rF l) N (i + 1) e := by
      unfold I0
      rw [List.range'_succ, List.flatMap_cons]
    have hlen := I1_len (rF l) N i (i + 1) (N - (i + 1))
    rw [hI] at h
    simp only [← List.append_assoc] at h
    simp only [impl_nearPairs.l0]
    rw [if_pos (by omega), wrap_succ i (by omega)]
    refine im_l1 l N hl hN hok i _ (N - (i + 1)) (i + 1) acc (K + 20 * e + 1) (by omega) (by omega) (by omega) ?_ q (by omega)
    intro q' hq'
    rw [wrap_succ i (by omega)]
    exact ih (i + 1) _ K (by omega) (by rw [List.length_append]; omega) h q' (by omega)
/-- What is known of a polygon of fractions. -/
theorem fp_facts (C : List FR) (ht : isFP C = true) : (3 ≤ C.length ∧ C.length ≤ 12) ∧ (∀ x ∈ C, okF x.f0 x.f1 = true) ∧ (∀ i, i + 1 < C.length → crZ (rF C i) (rF C (i + 1)) = 1) ∧ (∀ x y, x < y → y < C.length → 0 < crZ (rF C x) (rF C y))
    ∧ rF C 0 = ⟨0, 1⟩ ∧ rF C (C.length - 1) = ⟨1, 0⟩ := by
  have ht2 := ht
  unfold isFP at ht2
  rw [Bool.and_eq_true, Bool.and_eq_true, decide_eq_true_eq] at ht2
  obtain ⟨hN, hst, hends⟩ := ht2
  rw [List.all_eq_true] at hst
  have hstep : ∀ j, j < C.length → stepF C j = true := fun j hj => hst j (List.mem_range'_1.2 ⟨by omega, by omega⟩)
  have hokj : ∀ j, j < C.length → okF (rF C j).f0 (rF C j).f1 = true := fun j hj => by
    have := hstep j hj
    unfold stepF at this
    rw [Bool.and_eq_true] at this
    exact this.1
  have hok : ∀ x ∈ C, okF x.f0 x.f1 = true := by
    intro x hx
    obtain ⟨j, hj, rfl⟩ := List.getElem_of_mem hx
    have := hokj j hj
    unfold rF rd_T32 at this
    rwa [Int.toNat_natCast, List.getD_eq_getElem?_getD, List.getElem?_eq_getElem hj] at this
  have hcr : ∀ i, i + 1 < C.length → crZ (rF C i) (rF C (i + 1)) = 1 := by
    intro i hi
    have h1 := hstep (i + 1) hi
    unfold stepF at h1
    rw [Bool.and_eq_true, show (i + 1 == 0) = false by simp, Bool.false_or] at h1
    have h2 := h1.2
    unfold crF at h2
    rw [show i + 1 - 1 = i by omega, beq_iff_eq, (cross_val (hokj i (by omega)) (hokj (i + 1) hi)).1] at h2
    exact h2
  have hpos : ∀ x y, x < y → y < C.length → 0 < crZ (rF C x) (rF C y) := by
    intro x y hxy hy
    have := cr_pos (rF C) C.length (fun i hi => by have := ok_b (hokj i hi); omega) hcr (y - x - 1) x (by omega)
    rwa [show x + 1 + (y - x - 1) = y by omega] at this
  unfold endsF at hends
  simp only [Bool.and_eq_true, beq_iff_eq] at hends
  obtain ⟨⟨a1, a2⟩, b1, b2⟩ := hends
  refine ⟨hN, hok, hcr, hpos, ?_, ?_⟩
  · show rd_T32 C 0 = _
    generalize rd_T32 C 0 = z at a1 a2
    cases z
    simp only at a1 a2
    rw [a1, a2]
  · generalize rF C (C.length - 1) = z at b1 b2
    cases z
    simp only at b1 b2
    rw [b1, b2]
theorem nearPairs_tells (C : List FR) (ht : isFP C = true) (k : Nat) (hk : 900 < k) : impl_nearPairs.f k C = some (S0 (rF C) C.length 0 C.length) := by
  obtain ⟨hN, hok, hcr, hpos, _⟩ := fp_facts C ht
  have hnc := S0_nc (rF C) C.length hN.1 hpos
  have hmost := hnc.most (by omega)
  have hperm := I0_S0 (rF C) C.length hN.1
  have hIl : (I0 (rF C) C.length 0 C.length).length ≤ 12 := by rw [hperm.length_eq]; omega
  have h1 := im_l0 C C.length rfl hN hok (S0 (rF C) C.length 0 C.length) C.length 0 [] 401 (by omega) (by simp; omega) (fun q hq => by
    obtain ⟨r, h2, h3, h4⟩ := sortFunc_tells (I0 (rF C) C.length 0 C.length) hIl q (by omega)
    have er : r = S0 (rF C) C.length 0 C.length := sorted_unique (h4.trans hperm) h3 (hnc.sorted.imp (fun {y z} h => by unfold leD; omega))
    rw [List.nil_append, h2, er]) k (by omega)
  rw [show ((0 : Nat) : Int) = 0 from rfl] at h1
  unfold impl_nearPairs.f
  exact h1

theorem rd_set (l : List Int) (a v i : Int) (ha : 0 ≤ a ∧ a < (l.length : Int)) (hi : 0 ≤ i) : rd (l.set a.toNat v) i = if i = a then v else rd l i := by
  unfold rd
  rw [List.getD_eq_getElem?_getD, List.getD_eq_getElem?_getD, List.getElem?_set]
  by_cases h : i = a
  · rw [if_pos (by omega), if_pos (by omega), if_pos h]
    rfl
  · rw [if_neg (by omega), if_neg h]
theorem ext_rd (l m : List Int) (hl : l.length = m.length) (h : ∀ i : Int, 0 ≤ i → i < (l.length : Int) → rd l i = rd m i) : l = m := by
  apply List.ext_getElem hl
  intro i h1 h2
  have := h (i : Int) (by omega) (by omega)
  unfold rd at this
  rw [Int.toNat_natCast, List.getD_eq_getElem?_getD, List.getD_eq_getElem?_getD, List.getElem?_eq_getElem h1, List.getElem?_eq_getElem h2] at this
  exact this
/-- How many ends of diagonals lie at a corner. -/
def dg (l : List DG) (i : Int) : Int := ((l.countP fun d => d.f0 == i : Nat) : Int) + ((l.countP fun d => d.f1 == i : Nat) : Int)
theorem dg_perm {l m : List DG} (h : l.Perm m) (i : Int) : dg l i = dg m i := by
  unfold dg
  rw [h.countP_eq, h.countP_eq]
theorem dg_cons (d : DG) (l : List DG) (i : Int) : dg (d :: l) i = dg l i + (if d.f0 = i then 1 else 0) + if d.f1 = i then 1 else 0 := by
  unfold dg
  rw [List.countP_cons, List.countP_cons]
  by_cases h1 : d.f0 = i <;> by_cases h2 : d.f1 = i <;> simp [h1, h2] <;> omega
theorem dg_bounds (l : List DG) (i : Int) : 0 ≤ dg l i ∧ dg l i ≤ 2 * (l.length : Int) := by
  unfold dg
  have h1 := List.countP_le_length (p := fun d : DG => d.f0 == i) (l := l)
  have h2 := List.countP_le_length (p := fun d : DG => d.f1 == i) (l := l)
  omega
theorem quid_l1 (l : List DG) (N : Nat) (hl : l.length ≤ 1000) (hd : ∀ d ∈ l, 0 ≤ d.f0 ∧ d.f0 < d.f1 ∧ d.f1 < (N : Int)) (e : Nat) : ∀ (j : Nat) (x5 : List Int) (D : List DG), j + e = l.length → D.length = j → x5.length = N → (∀ i : Int, 0 ≤ i → i < (N : Int) → rd x5 i = 1 + dg D i) →
    ∃ R, R.length = N ∧ (∀ i : Int, 0 ≤ i → i < (N : Int) → rd R i = 1 + dg (D ++ l.drop j) i) ∧ ∀ k, e < k → impl_quiddity.l0 k x5 l (l.length : Int) (j : Int) = some R := by
  induction e with
  | zero =>
    intro j x5 D hj hD hx h
    refine ⟨x5, hx, fun i h1 h2 => ?_, fun k hk => ?_⟩
    · rw [List.drop_of_length_le (by omega), List.append_nil]
      exact h i h1 h2
    · obtain ⟨k, rfl⟩ : ∃ q, k = q + 1 := ⟨k - 1, by omega⟩
      simp only [impl_quiddity.l0]
      rw [if_neg (by omega)]
  | succ e ih =>
    intro j x5 D hj hD hx h
    have hm : rD l j ∈ l := by
      have : rD l j ∈ l.drop j := by
        rw [rD_drop l j (by omega)]
        exact List.mem_cons_self ..
      exact List.mem_of_mem_drop this
    have hok := hd _ hm
    have hb := dg_bounds D
    obtain ⟨y, hy⟩ : ∃ y, y = x5.set (rD l j).f0.toNat (rd x5 (rD l j).f0 + 1) := ⟨_, rfl⟩
    have hyl : y.length = N := by rw [hy, List.length_set]; exact hx
    have hy1 : rd y (rD l j).f1 = rd x5 (rD l j).f1 := by
      rw [hy, rd_set _ _ _ _ (by omega) (by omega), if_neg (by omega)]
    have w1 : wrap64 (rd x5 (rD l j).f0 + 1) = rd x5 (rD l j).f0 + 1 := by
      have h1 := h (rD l j).f0 (by omega) (by omega)
      have h2 := hb (rD l j).f0
      rw [h1]
      unfold wrap64
      omega
    have w2 : wrap64 (rd y (rD l j).f1 + 1) = rd x5 (rD l j).f1 + 1 := by
      have h1 := h (rD l j).f1 (by omega) (by omega)
      have h2 := hb (rD l j).f1
      rw [hy1, h1]
      unfold wrap64
      omega
    obtain ⟨R, r1, r2, r3⟩ := ih (j + 1) (y.set (rD l j).f1.toNat (rd x5 (rD l j).f1 + 1)) (D ++ [rD l j]) (by omega) (by rw [List.length_append, List.length_singleton]; omega) (by rw [List.length_set]; exact hyl) (by
      intro i h1 h2
      have h3 := h i h1 h2
      have hp : dg (D ++ [rD l j]) i = dg (rD l j :: D) i := dg_perm (List.perm_append_singleton _ _) i
      rw [rd_set _ _ _ _ (by omega) h1, hp, dg_cons, hy]
      by_cases e1 : i = (rD l j).f1
      · rw [if_pos e1, if_neg (by omega), if_pos e1.symm, ← e1, h3]
        omega
      · rw [if_neg e1, rd_set _ _ _ _ (by omega) h1, if_neg (show ¬ (rD l j).f1 = i by omega)]
        by_cases e0 : i = (rD l j).f0
        · rw [if_pos e0, if_pos e0.symm, ← e0, h3]
          omega
        · rw [if_neg e0, if_neg (by omega), h3]
          omega)
    refine ⟨R, r1, ?_, fun k hk => ?_⟩
    · rw [rD_drop l j (by omega)]
      simpa using r2
    · obtain ⟨k, rfl⟩ : ∃ q, k = q + 1 := ⟨k - 1, by omega⟩
      have h3 := r3 k (by omega)
      simp only [impl_quiddity.l0]
      have g1 : (rD l j).f0 < (x5.length : Int) := by omega
      have g2 : 0 ≤ (rD l j).f1 := by omega
      have g3 : (rD l j).f1 < (x5.length : Int) := by omega
      rw [if_pos (by omega), if_pos (by omega), if_pos (by omega), if_pos hok.1, if_pos g1, w1]
      simp only [Option.bind_some]
      rw [if_pos g2, if_pos g3, ← hy, w2, wrap_succ j (by omega)]
      exact h3
theorem mul_one_n (n : Int) (h : 3 ≤ n ∧ n ≤ 12) : bits_Mul.f 1 n = some (0, n) := by
  have : n = 3 ∨ n = 4 ∨ n = 5 ∨ n = 6 ∨ n = 7 ∨ n = 8 ∨ n = 9 ∨ n = 10 ∨ n = 11 ∨ n = 12 := by omega
  rcases this with rfl | rfl | rfl | rfl | rfl | rfl | rfl | rfl | rfl | rfl <;> rfl
theorem quiddity_tells (n : Int) (l : List DG) (hn : 3 ≤ n ∧ n ≤ 12) (hl : l.length ≤ 1000) (hd : ∀ d ∈ l, 0 ≤ d.f0 ∧ d.f0 < d.f1 ∧ d.f1 < n) :
    ∃ R, R.length = n.toNat ∧ (∀ i : Int, 0 ≤ i → i < n → rd R i = 1 + dg l i) ∧ ∀ k, l.length + 20 < k → impl_quiddity.f k n l = some R := by
  obtain ⟨R, q1, q2, q3⟩ := quid_l1 l n.toNat hl (fun d h => by have := hd d h; omega) l.length 0 (List.replicate n.toNat 1) [] (by omega) rfl (by simp) (fun i h1 h2 => by
    unfold rd
    rw [List.getD_eq_getElem?_getD, List.getElem?_replicate, if_pos (by omega)]
    rfl)
  refine ⟨R, q1, fun i h1 h2 => by rw [q2 i h1 (by omega)]; rfl, fun k hk => ?_⟩
  have hrep : slices_Repeat_int_int.f [1] n = some (List.replicate n.toNat 1) := by
    unfold slices_Repeat_int_int.f
    rw [if_pos ⟨rfl, by omega, by omega, mul_one_n n hn⟩]
    rfl
  have h3 := q3 k (by omega)
  rw [show ((0 : Nat) : Int) = 0 from rfl] at h3
  unfold impl_quiddity.f
  rw [hrep, Option.bind_some]
  exact h3

theorem cr_lin (v u w : FR) (h1 : crZ v u = 1) (h2 : crZ v w = 1) (z : FR) : crZ w z = crZ u z - crZ u w * crZ v z := by
  unfold crZ at *
  grind
theorem cr_anti (x y : FR) : crZ x y = - crZ y x := by
  unfold crZ
  grind
theorem cone (v a b u : FR) (s : Int) (h0 : crZ v u = 1) (h1 : crZ a b = 1) : 1 = crZ v b * (s * crZ v a - crZ u a) + crZ v a * (crZ u b - s * crZ v b) := by
  unfold crZ at *
  grind
/-- Every value is taken. -/
theorem fan_onto (v : FR) (U : Nat → FR) (m : Nat) (h0 : ∀ j, j ≤ m → 0 < crZ v (U j)) (hone : crZ v (U 0) = 1) (hend : crZ v (U m) = 1) (hstep : ∀ j, j < m → crZ (U j) (U (j + 1)) = 1)
    (s : Int) (hs0 : 0 ≤ s) (hs1 : s ≤ crZ (U 0) (U m)) : ∃ j, j ≤ m ∧ crZ v (U j) = 1 ∧ crZ (U 0) (U j) = s := by
  have key : ∀ e j, j + e = m → crZ (U 0) (U j) - s * crZ v (U j) < 0 → ∃ i, j < i ∧ i ≤ m ∧ crZ v (U i) = 1 ∧ crZ (U 0) (U i) = s := by
    intro e
    induction e with
    | zero =>
      intro j hj h
      rw [show j = m by omega, hend] at h
      omega
    | succ e ih =>
      intro j hj h
      by_cases h' : crZ (U 0) (U (j + 1)) - s * crZ v (U (j + 1)) < 0
      · obtain ⟨i, h1, h2, h3⟩ := ih (j + 1) (by omega) h'
        exact ⟨i, by omega, h2, h3⟩
      · refine ⟨j + 1, by omega, by omega, ?_⟩
        have c := cone v (U j) (U (j + 1)) (U 0) s hone (hstep j (by omega))
        have p1 := h0 j (by omega)
        have p2 := h0 (j + 1) (by omega)
        generalize hX : crZ v (U (j + 1)) = X at *
        generalize hY : crZ v (U j) = Y at *
        generalize hP : crZ (U 0) (U (j + 1)) = P at *
        generalize hQ : crZ (U 0) (U j) = Q at *
        obtain ⟨A, hA⟩ : ∃ A, A = s * Y - Q := ⟨_, rfl⟩
        obtain ⟨B, hB⟩ : ∃ B, B = P - s * X := ⟨_, rfl⟩
        rw [← hA, ← hB] at c
        have q1 : X * 1 ≤ X * A := Int.mul_le_mul_of_nonneg_left (by omega) (by omega)
        have q2 : Y * 0 ≤ Y * B := Int.mul_le_mul_of_nonneg_left (by omega) (by omega)
        have q3 : 1 * B ≤ Y * B := Int.mul_le_mul_of_nonneg_right (by omega) (by omega)
        have hX1 : X = 1 := by omega
        subst hX1
        exact ⟨rfl, by omega⟩
  by_cases h : s = 0
  · refine ⟨0, by omega, hone, ?_⟩
    rw [h]
    unfold crZ
    omega
  · obtain ⟨i, h1, h2, h3⟩ := key m 0 (by omega) (by
      rw [hone]
      have : crZ (U 0) (U 0) = 0 := by unfold crZ; omega
      omega)
    exact ⟨i, h2, h3⟩
theorem fan_diff (v : FR) (U : Nat → FR) (hone : crZ v (U 0) = 1) (i j : Nat) (hi : crZ v (U i) = 1) (hj : crZ v (U j) = 1) : crZ (U i) (U j) = crZ (U 0) (U j) - crZ (U 0) (U i) := by
  have := cr_lin v (U 0) (U i) hone hi (U j)
  rw [hj] at this
  omega
theorem int_list (l : List Int) (c : Nat) (h : l.Pairwise fun x y => x < y) (hm : ∀ x, x ∈ l ↔ 0 ≤ x ∧ x < (c : Int)) : l.length = c := by
  have e : l.Perm ((List.range' 0 c).map fun i : Nat => (i : Int)) := by
    rw [List.perm_ext_iff_of_nodup (List.nodup_iff_pairwise_ne.2 (h.imp (fun h => by omega))) ?_]
    · intro x
      rw [hm, List.mem_map]
      constructor
      · intro h
        exact ⟨x.toNat, List.mem_range'_1.2 (by omega), by omega⟩
      · rintro ⟨i, hi, rfl⟩
        have := List.mem_range'_1.1 hi
        omega
    · rw [List.nodup_iff_pairwise_ne, List.pairwise_map]
      exact (List.pairwise_lt_range' (s := 0) (n := c) (step := 1)).imp (fun h => by omega)
  rw [e.length_eq, List.length_map, List.length_range']
/-- How many there are. -/
theorem fan_count (v : FR) (U : Nat → FR) (m : Nat) (h0 : ∀ j, j ≤ m → 0 < crZ v (U j)) (hone : crZ v (U 0) = 1) (hend : crZ v (U m) = 1) (hstep : ∀ j, j < m → crZ (U j) (U (j + 1)) = 1)
    (hpos : ∀ i j, i < j → j ≤ m → 0 < crZ (U i) (U j)) (hm : 0 < m) : ((((List.range' 0 (m + 1)).filter fun j => decide (crZ v (U j) = 1)).length : Nat) : Int) = crZ (U 0) (U m) + 1 := by
  have hc := hpos 0 m hm (by omega)
  have h := int_list (((List.range' 0 (m + 1)).filter fun j => decide (crZ v (U j) = 1)).map fun j => crZ (U 0) (U j)) (crZ (U 0) (U m) + 1).toNat (by
    rw [List.pairwise_map]
    refine List.Pairwise.imp_of_mem ?_ (List.Pairwise.filter _ (List.pairwise_lt_range' (s := 0) (n := m + 1) (step := 1)))
    intro a b ha hb hab
    rw [List.mem_filter, decide_eq_true_eq] at ha hb
    have := List.mem_range'_1.1 hb.1
    have e := fan_diff v U hone a b ha.2 hb.2
    have := hpos a b hab (by omega)
    omega) (by
    intro x
    rw [List.mem_map]
    constructor
    · rintro ⟨j, hj, rfl⟩
      rw [List.mem_filter, decide_eq_true_eq] at hj
      have hr := List.mem_range'_1.1 hj.1
      have e := fan_diff v U hone j m hj.2 hend
      have z : crZ (U 0) (U 0) = 0 := by unfold crZ; omega
      by_cases e0 : j = 0
      · rw [e0, z]
        omega
      · have := hpos 0 j (by omega) (by omega)
        by_cases e1 : j = m
        · rw [e1]
          omega
        · have := hpos j m (by omega) (by omega)
          omega
    · intro hx
      obtain ⟨j, h1, h2, h3⟩ := fan_onto v U m h0 hone hend hstep x hx.1 (by omega)
      exact ⟨j, by rw [List.mem_filter, decide_eq_true_eq]; exact ⟨List.mem_range'_1.2 (by omega), h2⟩, h3⟩)
  rw [List.length_map] at h
  omega

def ngF (x : FR) : FR := ⟨-x.f0, -x.f1⟩
/-- The fractions by corners, twice round. -/
def VF (L : Nat → FR) (n a : Nat) : FR := if a = 0 then ngF (L (n - 1)) else if a ≤ n then L (a - 1) else ngF (L (a - n - 1))
theorem ng_l (x y : FR) : crZ (ngF x) y = crZ y x := by
  unfold crZ ngF
  grind
theorem ng_r (x y : FR) : crZ x (ngF y) = crZ y x := by
  unfold crZ ngF
  grind
theorem ng_lr (x y : FR) : crZ (ngF x) (ngF y) = crZ x y := by
  unfold crZ ngF
  grind
theorem VF_pos (L : Nat → FR) (n : Nat) (hn : 3 ≤ n) (hp : ∀ x y, x < y → y < n → 0 < crZ (L x) (L y)) (j k : Nat) (h1 : j < k) (h2 : k < j + n) (h3 : k ≤ 2 * n) : 0 < crZ (VF L n j) (VF L n k) := by
  unfold VF
  by_cases a : j = 0
  · rw [if_pos a, if_neg (by omega), if_pos (by omega), ng_l]
    exact hp _ _ (by omega) (by omega)
  · rw [if_neg a, if_neg (show ¬ k = 0 by omega)]
    by_cases b : j ≤ n
    · rw [if_pos b]
      by_cases c : k ≤ n
      · rw [if_pos c]
        exact hp _ _ (by omega) (by omega)
      · rw [if_neg c, ng_r]
        exact hp _ _ (by omega) (by omega)
    · rw [if_neg b, if_neg (show ¬ k ≤ n by omega), ng_lr]
      exact hp _ _ (by omega) (by omega)
theorem VF_step (L : Nat → FR) (n : Nat) (hn : 3 ≤ n) (hs : ∀ i, i + 1 < n → crZ (L i) (L (i + 1)) = 1) (he : crZ (L 0) (L (n - 1)) = 1) (j : Nat) (h3 : j + 1 ≤ 2 * n) : crZ (VF L n j) (VF L n (j + 1)) = 1 := by
  unfold VF
  by_cases a : j = 0
  · rw [if_pos a, if_neg (by omega), if_pos (by omega), ng_l, a]
    exact he
  · rw [if_neg a, if_neg (show ¬ j + 1 = 0 by omega)]
    by_cases b : j ≤ n
    · rw [if_pos b]
      by_cases c : j + 1 ≤ n
      · rw [if_pos c]
        have := hs (j - 1) (by omega)
        rwa [show j - 1 + 1 = j + 1 - 1 by omega] at this
      · rw [if_neg c, ng_r, show j + 1 - n - 1 = 0 by omega, show j - 1 = n - 1 by omega]
        exact he
    · rw [if_neg b, if_neg (show ¬ j + 1 ≤ n by omega), ng_lr]
      have := hs (j - n - 1) (by omega)
      rwa [show j - n - 1 + 1 = j + 1 - n - 1 by omega] at this
theorem VF_turn (L : Nat → FR) (n : Nat) (hn : 3 ≤ n) (z : FR) (b : Nat) (hb : b ≤ n) : crZ z (VF L n (n + b)) = crZ (VF L n b) z := by
  unfold VF
  by_cases a : b = 0
  · rw [if_neg (by omega), if_pos (by omega), if_pos a, ng_l, show n + b - 1 = n - 1 by omega]
  · rw [if_neg (by omega), if_neg (by omega), if_neg a, if_pos hb, ng_r, show n + b - n - 1 = b - 1 by omega]
theorem near_VF (L : Nat → FR) (n : Nat) (hn : 3 ≤ n) (hp : ∀ x y, x < y → y < n → 0 < crZ (L x) (L y)) (a b : Nat) (h1 : a < b) (h2 : b < n) : nbZ (L (ixC n a)) (L (b - 1)) = decide (crZ (VF L n a) (VF L n b) = 1) := by
  have h := VF_pos L n hn hp a b h1 (by omega) (by omega)
  unfold nbZ
  rw [decide_eq_decide]
  unfold VF at h ⊢
  unfold ixC
  rw [if_neg (show ¬ b = 0 by omega), if_pos (show b ≤ n by omega)] at h ⊢
  by_cases e : a = 0
  · rw [if_pos e, ng_l] at h
    rw [if_pos e, if_pos e, ng_l, cr_anti]
    omega
  · rw [if_neg e, if_pos (by omega)] at h
    rw [if_neg e, if_neg e, if_pos (by omega)]
    omega
theorem spB_VF (L : Nat → FR) (n : Nat) (hn : 3 ≤ n) (hp : ∀ x y, x < y → y < n → 0 < crZ (L x) (L y)) (a b : Nat) (h1 : a < b) (h2 : b < n) : spB L n a b = true ↔ b - a ≤ n - 2 ∧ crZ (VF L n a) (VF L n b) = 1 := by
  unfold spB
  rw [near_VF L n hn hp a b h1 h2, Bool.and_eq_true, decide_eq_true_eq, decide_eq_true_eq]
  constructor
  · rintro ⟨x, y⟩
    exact ⟨by omega, y⟩
  · rintro ⟨x, y⟩
    exact ⟨by omega, y⟩
theorem VF_back (L : Nat → FR) (n : Nat) (hn : 3 ≤ n) (hs : ∀ i, i + 1 < n → crZ (L i) (L (i + 1)) = 1) (he : crZ (L 0) (L (n - 1)) = 1) (a : Nat) (ha : a < n) : crZ (VF L n a) (VF L n (a + n - 1)) = 1 := by
  by_cases e : a = 0
  · unfold VF
    rw [if_pos e, if_neg (by omega), if_pos (by omega), ng_l]
    have := hs (n - 2) (by omega)
    rwa [show n - 2 + 1 = n - 1 by omega, show n - 2 = a + n - 1 - 1 by omega] at this
  · rw [show a + n - 1 = n + (a - 1) by omega, VF_turn L n hn _ _ (by omega)]
    have := VF_step L n hn hs he (a - 1) (by omega)
    rwa [show a - 1 + 1 = a by omega] at this
/-- How many near pairs lie at a corner. -/
theorem S0_dg (L : Nat → FR) (n : Nat) (hn : 3 ≤ n) (hp : ∀ x y, x < y → y < n → 0 < crZ (L x) (L y)) (hs : ∀ i, i + 1 < n → crZ (L i) (L (i + 1)) = 1) (he : crZ (L 0) (L (n - 1)) = 1) (a : Nat) (ha : a < n) :
    1 + dg (S0 L n 0 n) (a : Int) = crZ (VF L n (a + 1)) (VF L n (a + n - 1)) := by
  have hc := fan_count (VF L n a) (fun j => VF L n (a + 1 + j)) (n - 2) (fun j hj => VF_pos L n hn hp a _ (by omega) (by omega) (by omega)) (VF_step L n hn hs he a (by omega)) (by
    show crZ (VF L n a) (VF L n (a + 1 + (n - 2))) = 1
    rw [show a + 1 + (n - 2) = a + n - 1 by omega]
    exact VF_back L n hn hs he a ha) (fun j hj => VF_step L n hn hs he (a + 1 + j) (by omega)) (fun i j h1 h2 => VF_pos L n hn hp _ _ (by omega) (by omega) (by omega)) (by omega)
  rw [show a + 1 + (n - 2) = a + n - 1 by omega, Nat.add_zero] at hc
  rw [show n - 2 + 1 = n - 1 by omega] at hc
  have hsort := S0_sorted L n
  have hmem := S0_mem L n
  have hcon : ∀ x : Int, (∃ d ∈ S0 L n 0 n, d.f0 = (a : Int) ∧ d.f1 = x) ↔ ∃ b : Nat, a + 2 ≤ b ∧ b < n ∧ b - a ≤ n - 2 ∧ crZ (VF L n a) (VF L n b) = 1 ∧ x = (b : Int) := by
    intro x
    constructor
    · rintro ⟨d, hd, h1, h2⟩
      obtain ⟨p, q, q1, q2, q3, rfl⟩ := (hmem d).1 hd
      simp only at h1 h2
      have ep : p = a := by omega
      subst ep
      have := (spB_VF L n hn hp p q (by omega) q2).1 q3
      exact ⟨q, q1, q2, this.1, this.2, by omega⟩
    · rintro ⟨b, q1, q2, q3, q4, rfl⟩
      exact ⟨⟨(a : Int), (b : Int)⟩, (hmem _).2 ⟨a, b, q1, q2, (spB_VF L n hn hp a b (by omega) q2).2 ⟨q3, q4⟩, rfl⟩, rfl, rfl⟩
  have hcon2 : ∀ x : Int, (∃ d ∈ S0 L n 0 n, d.f1 = (a : Int) ∧ d.f0 + (n : Int) = x) ↔ ∃ b : Nat, b + 2 ≤ a ∧ a - b ≤ n - 2 ∧ crZ (VF L n a) (VF L n (n + b)) = 1 ∧ x = ((n + b : Nat) : Int) := by
    intro x
    constructor
    · rintro ⟨d, hd, h1, h2⟩
      obtain ⟨p, q, q1, q2, q3, rfl⟩ := (hmem d).1 hd
      simp only at h1 h2
      have ep : q = a := by omega
      subst ep
      have := (spB_VF L n hn hp p q (by omega) q2).1 q3
      exact ⟨p, q1, this.1, by rw [VF_turn L n hn _ _ (by omega)]; exact this.2, by omega⟩
    · rintro ⟨b, q1, q3, q4, rfl⟩
      rw [VF_turn L n hn _ _ (by omega)] at q4
      exact ⟨⟨(b : Int), (a : Int)⟩, (hmem _).2 ⟨b, a, q1, ha, (spB_VF L n hn hp b a (by omega) ha).2 ⟨q3, q4⟩, rfl⟩, rfl, by simp only; omega⟩
  obtain ⟨A, hA⟩ : ∃ A : List Int, A = ((S0 L n 0 n).filter fun d => d.f0 == (a : Int)).map fun d => d.f1 := ⟨_, rfl⟩
  obtain ⟨B, hB⟩ : ∃ B : List Int, B = ((S0 L n 0 n).filter fun d => d.f1 == (a : Int)).map fun d => d.f0 + (n : Int) := ⟨_, rfl⟩
  have mA : ∀ x, x ∈ A ↔ ∃ b : Nat, a + 2 ≤ b ∧ b < n ∧ b - a ≤ n - 2 ∧ crZ (VF L n a) (VF L n b) = 1 ∧ x = (b : Int) := by
    intro x
    rw [← hcon, hA]
    simp only [List.mem_map, List.mem_filter, beq_iff_eq, and_assoc]
  have mB : ∀ x, x ∈ B ↔ ∃ b : Nat, b + 2 ≤ a ∧ a - b ≤ n - 2 ∧ crZ (VF L n a) (VF L n (n + b)) = 1 ∧ x = ((n + b : Nat) : Int) := by
    intro x
    rw [← hcon2, hB]
    simp only [List.mem_map, List.mem_filter, beq_iff_eq, and_assoc]
  have nA : A.Nodup := by
    rw [hA, List.nodup_iff_pairwise_ne, List.pairwise_map]
    refine List.Pairwise.imp_of_mem ?_ (List.Pairwise.filter _ hsort)
    intro x y hx hy hxy
    rw [List.mem_filter, beq_iff_eq] at hx hy
    omega
  have nB : B.Nodup := by
    rw [hB, List.nodup_iff_pairwise_ne, List.pairwise_map]
    refine List.Pairwise.imp_of_mem ?_ (List.Pairwise.filter _ hsort)
    intro x y hx hy hxy
    rw [List.mem_filter, beq_iff_eq] at hx hy
    omega
  have hperm : (A ++ (B ++ [(a : Int) + 1, (a : Int) + n - 1])).Perm (((List.range' 0 (n - 1)).filter fun j => decide (crZ (VF L n a) (VF L n (a + 1 + j)) = 1)).map fun j => ((a + 1 + j : Nat) : Int)) := by
    rw [List.perm_ext_iff_of_nodup]
    · intro x
      rw [List.mem_append, List.mem_append, mA, mB, List.mem_map]
      constructor
      · rintro (⟨b, h1, h2, h3, h4, rfl⟩ | ⟨b, h1, h2, h3, rfl⟩ | h)
        · refine ⟨b - (a + 1), ?_, by omega⟩
          rw [List.mem_filter, List.mem_range'_1, decide_eq_true_eq, show a + 1 + (b - (a + 1)) = b by omega]
          exact ⟨by omega, h4⟩
        · refine ⟨n + b - (a + 1), ?_, by omega⟩
          rw [List.mem_filter, List.mem_range'_1, decide_eq_true_eq, show a + 1 + (n + b - (a + 1)) = n + b by omega]
          exact ⟨by omega, h3⟩
        · simp only [List.mem_cons, List.not_mem_nil, or_false] at h
          rcases h with rfl | rfl
          · refine ⟨0, ?_, by omega⟩
            rw [List.mem_filter, List.mem_range'_1, decide_eq_true_eq]
            exact ⟨by omega, VF_step L n hn hs he a (by omega)⟩
          · refine ⟨n - 2, ?_, by omega⟩
            rw [List.mem_filter, List.mem_range'_1, decide_eq_true_eq, show a + 1 + (n - 2) = a + n - 1 by omega]
            exact ⟨by omega, VF_back L n hn hs he a ha⟩
      · rintro ⟨j, hj, rfl⟩
        rw [List.mem_filter, List.mem_range'_1, decide_eq_true_eq] at hj
        obtain ⟨hj1, hj2⟩ := hj
        by_cases e0 : j = 0
        · exact .inr (.inr (by rw [e0]; simp))
        · by_cases e1 : j = n - 2
          · refine .inr (.inr ?_)
            simp only [List.mem_cons, List.not_mem_nil, or_false]
            omega
          · by_cases e2 : a + 1 + j < n
            · exact .inl ⟨a + 1 + j, by omega, e2, by omega, hj2, rfl⟩
            · refine .inr (.inl ⟨a + 1 + j - n, by omega, by omega, ?_, ?_⟩)
              · rw [show n + (a + 1 + j - n) = a + 1 + j by omega]
                exact hj2
              · rw [show n + (a + 1 + j - n) = a + 1 + j by omega]
    · rw [List.nodup_append]
      refine ⟨nA, ?_, ?_⟩
      · rw [List.nodup_append]
        refine ⟨nB, by simp; omega, ?_⟩
        intro x hx y hy
        obtain ⟨b, h1, h2, h3, rfl⟩ := (mB x).1 hx
        simp only [List.mem_cons, List.not_mem_nil, or_false] at hy
        omega
      · intro x hx y hy
        obtain ⟨b, h1, h2, h3, h4, rfl⟩ := (mA x).1 hx
        rcases List.mem_append.1 hy with hy | hy
        · obtain ⟨b', g1, g2, g3, rfl⟩ := (mB y).1 hy
          omega
        · simp only [List.mem_cons, List.not_mem_nil, or_false] at hy
          omega
    · rw [List.nodup_iff_pairwise_ne, List.pairwise_map]
      exact List.Pairwise.filter _ ((List.pairwise_lt_range' (s := 0) (n := n - 1) (step := 1)).imp (fun h => by omega))
  have hl := hperm.length_eq
  rw [List.length_append, List.length_append, List.length_map] at hl
  have lA : A.length = (S0 L n 0 n).countP fun d => d.f0 == (a : Int) := by rw [hA, List.length_map, List.countP_eq_length_filter]
  have lB : B.length = (S0 L n 0 n).countP fun d => d.f1 == (a : Int) := by rw [hB, List.length_map, List.countP_eq_length_filter]
  simp only [List.length_cons, List.length_nil] at hl
  unfold dg
  omega
theorem last_near (p : Nat → Bool) (h0 : p 0 = true) (e : Nat) : ∃ k, k ≤ e ∧ p k = true ∧ ∀ i, k < i → i ≤ e → p i = false := by
  induction e with
  | zero => exact ⟨0, by omega, h0, fun i h1 h2 => by omega⟩
  | succ e ih =>
    cases hp : p (e + 1) with
    | true => exact ⟨e + 1, by omega, hp, fun i h1 h2 => by omega⟩
    | false =>
      obtain ⟨k, h1, h2, h3⟩ := ih
      refine ⟨k, by omega, h2, fun i g1 g2 => ?_⟩
      by_cases e0 : i = e + 1
      · rw [e0]
        exact hp
      · exact h3 i g1 (by omega)
/-- There are n - 3 of them. -/
theorem S0_full (L : Nat → FR) (n : Nat) (hn : 3 ≤ n) (hp : ∀ x y, x < y → y < n → 0 < crZ (L x) (L y)) (hs : ∀ i, i + 1 < n → crZ (L i) (L (i + 1)) = 1) (he : crZ (L 0) (L (n - 1)) = 1) : ((S0 L n 0 n).length : Int) = n - 3 := by
  have T := S0_nc L n hn hp
  have hmost := T.most (by omega)
  by_cases hlt : ((S0 L n 0 n).length : Int) < n - 3
  · obtain ⟨ai, bi, h1, h2, h3, h4, h5, h6⟩ := T.free (by omega) hlt
    obtain ⟨a, rfl⟩ : ∃ a : Nat, ai = (a : Int) := ⟨ai.toNat, by omega⟩
    obtain ⟨b, rfl⟩ : ∃ b : Nat, bi = (b : Int) := ⟨bi.toNat, by omega⟩
    have hmem := S0_mem L n
    have hone := VF_step L n hn hs he a (by omega)
    have hend : crZ (VF L n a) (VF L n (a + 1 + (n - 2))) = 1 := by
      rw [show a + 1 + (n - 2) = a + n - 1 by omega]
      exact VF_back L n hn hs he a (by omega)
    obtain ⟨k, k1, k2, k3⟩ := last_near (fun j => decide (crZ (VF L n a) (VF L n (a + 1 + j)) = 1)) (decide_eq_true hone) (b - a - 1)
    simp only [decide_eq_true_eq] at k2
    simp only [decide_eq_false_iff_not] at k3
    have hkb : k ≠ b - a - 1 := by
      intro e
      rw [e, show a + 1 + (b - a - 1) = b by omega] at k2
      have hin := hasD_of ((hmem ⟨(a : Int), (b : Int)⟩).2 ⟨a, b, by omega, by omega, (spB_VF L n hn hp a b (by omega) (by omega)).2 ⟨by omega, k2⟩, rfl⟩)
      simp only at hin
      rw [hin] at h5
      cases h5
    have d1 := fan_diff (VF L n a) (fun j => VF L n (a + 1 + j)) hone k (n - 2) k2 hend
    have d2 := VF_pos L n hn hp (a + 1 + k) (a + 1 + (n - 2)) (by omega) (by omega) (by omega)
    have d3 : 0 ≤ crZ (VF L n (a + 1)) (VF L n (a + 1 + k)) := by
      by_cases e : k = 0
      · rw [e]
        have : crZ (VF L n (a + 1)) (VF L n (a + 1 + 0)) = 0 := by
          rw [Nat.add_zero]
          unfold crZ
          omega
        omega
      · have := VF_pos L n hn hp (a + 1) (a + 1 + k) (by omega) (by omega) (by omega)
        omega
    simp only [Nat.add_zero] at d1
    obtain ⟨q, q1, q2, q3⟩ := fan_onto (VF L n a) (fun j => VF L n (a + 1 + j)) (n - 2) (fun j hj => VF_pos L n hn hp a _ (by omega) (by omega) (by omega)) hone hend (fun j hj => VF_step L n hn hs he (a + 1 + j) (by omega))
      (crZ (VF L n (a + 1)) (VF L n (a + 1 + k)) + 1) (by omega) (by simp only [Nat.add_zero]; omega)
    simp only [Nat.add_zero] at q2 q3
    have d4 := fan_diff (VF L n a) (fun j => VF L n (a + 1 + j)) hone k q k2 q2
    simp only [Nat.add_zero] at d4
    have hkq : k < q := by
      by_cases e : k < q
      · exact e
      · by_cases e2 : k = q
        · rw [e2] at q3
          omega
        · have d5 := fan_diff (VF L n a) (fun j => VF L n (a + 1 + j)) hone q k q2 k2
          simp only [Nat.add_zero] at d5
          have := VF_pos L n hn hp (a + 1 + q) (a + 1 + k) (by omega) (by omega) (by omega)
          omega
    have hqb : b - a - 1 < q := by
      by_cases e : b - a - 1 < q
      · exact e
      · exact absurd q2 (k3 q hkq (by omega))
    have hnear : crZ (VF L n (a + 1 + k)) (VF L n (a + 1 + q)) = 1 := by omega
    by_cases e : a + 1 + q < n
    · have hin := (hmem ⟨((a + 1 + k : Nat) : Int), ((a + 1 + q : Nat) : Int)⟩).2 ⟨a + 1 + k, a + 1 + q, by omega, e, (spB_VF L n hn hp _ _ (by omega) e).2 ⟨by omega, hnear⟩, rfl⟩
      have := (h6 _ hin).1
      simp only at this
      omega
    · rw [show a + 1 + q = n + (a + 1 + q - n) by omega, VF_turn L n hn _ _ (by omega)] at hnear
      have hin := (hmem ⟨((a + 1 + q - n : Nat) : Int), ((a + 1 + k : Nat) : Int)⟩).2 ⟨a + 1 + q - n, a + 1 + k, by omega, by omega, (spB_VF L n hn hp _ _ (by omega) (by omega)).2 ⟨by omega, hnear⟩, rfl⟩
      have := (h6 _ hin).2
      simp only at this
      omega
  · omega
/-- All corners together. -/
def sumQ (l : List DG) : Nat → Nat → Int
  | _, 0 => 0
  | j, e + 1 => (1 + dg l (j : Int)) + sumQ l (j + 1) e
theorem sumQ_cons (d : DG) (l : List DG) (e : Nat) : ∀ j, sumQ (d :: l) j e = sumQ l j e + (if (j : Int) ≤ d.f0 ∧ d.f0 < (j : Int) + e then 1 else 0) + (if (j : Int) ≤ d.f1 ∧ d.f1 < (j : Int) + e then 1 else 0) := by
  induction e with
  | zero =>
    intro j
    unfold sumQ
    rw [if_neg (by omega), if_neg (by omega)]
    omega
  | succ e ih =>
    intro j
    have h := ih (j + 1)
    have g := dg_cons d l (j : Int)
    simp only [sumQ]
    rw [h, g]
    split <;> split <;> split <;> split <;> split <;> split <;> omega
theorem sumQ_all (l : List DG) (n : Nat) (h : ∀ d ∈ l, 0 ≤ d.f0 ∧ d.f0 < (n : Int) ∧ 0 ≤ d.f1 ∧ d.f1 < (n : Int)) : sumQ l 0 n = n + 2 * (l.length : Int) := by
  induction l with
  | nil =>
    have : ∀ e j, sumQ [] j e = (e : Int) := by
      intro e
      induction e with
      | zero => intro j; rfl
      | succ e ih =>
        intro j
        simp only [sumQ]
        rw [ih]
        unfold dg
        simp
        omega
    rw [this]
    simp
  | cons d l ih =>
    have hd := h d (by simp)
    rw [sumQ_cons, ih (fun x hx => h x (by simp [hx])), if_pos (by omega), if_pos (by omega), List.length_cons]
    omega

def conv32 (x : S31) : S32 := ⟨x.f0, x.f1⟩
theorem toS32_rounds (x0 : List S31) (hl : x0.length ≤ 1048576) (d : Nat) : ∀ (i k : Nat) (x3 : List S32), x3.length = x0.length → i + d = x0.length → d < k →
    laws_toFractionS.l0 k x0 x3 (i : Int) = some (x3.take i ++ (x0.drop i).map conv32) := by
  induction d with
  | zero =>
    intro i k x3 h3 hi hk
    obtain ⟨k, rfl⟩ : ∃ m, k = m + 1 := ⟨k - 1, by omega⟩
    simp only [laws_toFractionS.l0]
    rw [if_neg (by omega), List.drop_of_length_le (by omega), List.take_of_length_le (by omega), List.map_nil, List.append_nil]
  | succ d ih =>
    intro i k x3 h3 hi hk
    obtain ⟨k, rfl⟩ : ∃ m, k = m + 1 := ⟨k - 1, by omega⟩
    simp only [laws_toFractionS.l0, laws_toFraction.f, Option.bind_some]
    rw [if_pos (by omega), if_pos (by omega), if_pos (by omega), wrap_succ i (by omega), ih (i + 1) k _ (by rw [List.length_set]; exact h3) (by omega) (by omega), Int.toNat_natCast, take_set_succ _ _ _ (by omega), getD_drop x0 z31 i (by omega), List.map_cons]
    simp [rd_T31, conv32]
theorem toS32_tells (x0 : List S31) (hl : x0.length ≤ 1048576) : Ev (fun k => laws_toFractionS.f k x0) (x0.map conv32) := by
  refine ⟨x0.length + 1, fun k hk => ?_⟩
  show laws_toFractionS.f k x0 = _
  unfold laws_toFractionS.f
  rw [if_pos (by omega), if_pos (by omega), Int.toNat_natCast]
  have h := toS32_rounds x0 hl x0.length 0 k (List.replicate x0.length z32) (by simp) (by omega) (by omega)
  simpa using h
theorem eqS32_rounds (l : List S32) (hl : l.length ≤ 4611686018427387904) (d : Nat) : ∀ (i k : Nat), i + d = l.length → d < k → laws_eqFractionS.l0 k l l (i : Int) = some true := by
  induction d with
  | zero =>
    intro i k hi hk
    obtain ⟨k, rfl⟩ : ∃ m, k = m + 1 := ⟨k - 1, by omega⟩
    simp only [laws_eqFractionS.l0]
    rw [if_neg (by omega)]
  | succ d ih =>
    intro i k hi hk
    obtain ⟨k, rfl⟩ : ∃ m, k = m + 1 := ⟨k - 1, by omega⟩
    simp only [laws_eqFractionS.l0, laws_eqFraction.f, if_true, Option.bind_some]
    rw [if_pos (by omega), if_pos (by omega), if_pos (by omega), wrap_succ i (by omega)]
    exact ih (i + 1) k (by omega) (by omega)
theorem eqS32_tells (l : List S32) (hl : l.length ≤ 4611686018427387904) : Ev (fun k => laws_eqFractionS.f k l l) true := by
  refine ⟨l.length + 1, fun k hk => ?_⟩
  show laws_eqFractionS.f k l l = _
  unfold laws_eqFractionS.f
  rw [if_pos rfl]
  exact eqS32_rounds l hl l.length 0 k (by omega) (by omega)
theorem sz32_tells (l : List S31) (n : Int) (h0 : 0 ≤ n) (h1 : n ≤ 1048576) (hl : l.length ≤ 4611686018427387904) : laws_szFractionS.f l n = some (if n - (l.length : Int) < 0 then -1 else n - (l.length : Int)) := by
  unfold laws_szFractionS.f
  have w : wrap64 (n - (l.length : Int)) = n - (l.length : Int) := by unfold wrap64; omega
  rw [w]
  split <;> rfl
theorem sz32_any (l : List S31) (n : Int) (h0 : 0 ≤ n) (h1 : n ≤ 1048576) (hl : l.length ≤ maxLen) : ∃ r, laws_szFractionS.f l n = some r ∧ (r < 0 ∨ (0 ≤ r ∧ r = n - (l.length : Int))) := by
  unfold maxLen at hl
  unfold laws_szFractionS.f
  by_cases h : wrap64 (n - (l.length : Int)) < 0
  · rw [if_pos h]
    exact ⟨_, rfl, .inl (by omega)⟩
  · rw [if_neg h]
    have w : wrap64 (n - (l.length : Int)) = n - (l.length : Int) := by unfold wrap64 at h ⊢; omega
    exact ⟨_, rfl, .inr ⟨by omega, w⟩⟩

def iota32 : Int → Nat → List S32
  | _, 0 => []
  | v, m + 1 => ⟨v, v + 1⟩ :: iota32 (v + 2) m
theorem iota32_len : ∀ (m : Nat) (v : Int), (iota32 v m).length = m
  | 0, _ => rfl
  | m + 1, v => by rw [iota32, List.length_cons, iota32_len m]
theorem mark32_rounds (l : List S32) (hl : l.length ≤ 1048576) (e : Nat) : ∀ (i k : Nat) (P R : List S32) (v0 v : Int), P.length = i → R.length = e → i + e = l.length → 0 ≤ v0 → v0 ≤ 100000000 → v = v0 + 2 * (i : Int) → e < k →
    laws_markFractionS.l0 k (P ++ R) v (i : Int) = some (v0 + 2 * (l.length : Int), P ++ iota32 v e) := by
  induction e with
  | zero =>
    intro i k P R v0 v hP hR hi h00 h01 hv hk
    obtain ⟨k, rfl⟩ : ∃ q, k = q + 1 := ⟨k - 1, by omega⟩
    have : R = [] := List.length_eq_zero_iff.1 hR
    subst this
    simp only [laws_markFractionS.l0, List.append_nil, iota32]
    rw [if_neg (by omega), hv, show i = l.length by omega]
  | succ e ih =>
    intro i k P R v0 v hP hR hi h00 h01 hv hk
    obtain ⟨k, rfl⟩ : ∃ q, k = q + 1 := ⟨k - 1, by omega⟩
    cases R with
    | nil => simp at hR
    | cons x R =>
      rw [List.length_cons] at hR
      have w1 : wrap64 (v + 1) = v + 1 := by unfold wrap64; omega
      have w2 : wrap64 (v + 1 + 1) = v + 2 := by unfold wrap64; omega
      have s1 : ∀ y z : S32, (P ++ y :: R).set i z = P ++ z :: R := by
        intro y z
        rw [List.set_append_right _ _ (by omega), hP, Nat.sub_self]
        rfl
      have r1 : ∀ y : S32, rd_T32 (P ++ y :: R) (i : Int) = y := by
        intro y
        unfold rd_T32
        rw [Int.toNat_natCast, List.getD_eq_getElem?_getD, ← hP]
        simp
      simp only [laws_markFractionS.l0, Int.toNat_natCast, Option.bind_some, s1, r1, w1, w2]
      rw [if_pos (by rw [List.length_append, List.length_cons]; omega), if_pos (by omega), wrap_succ i (by omega)]
      have h := ih (i + 1) k (P ++ [⟨v, v + 1⟩]) R v0 (v + 2) (by rw [List.length_append, List.length_singleton]; omega) (by omega) (by omega) h00 h01 (by omega) (by omega)
      rw [iota32]
      simpa using h
theorem mark32_any (l : List S32) (hl : l.length ≤ 1048576) (v : Int) (h0 : 0 ≤ v) (h1 : v ≤ 100000000) (k : Nat) (hk : l.length < k) : laws_markFractionS.f k l v = some (v + 2 * (l.length : Int), iota32 v l.length) := by
  have h := mark32_rounds l hl l.length 0 k [] l v v rfl rfl (by omega) h0 h1 (by omega) hk
  unfold laws_markFractionS.f
  simpa using h
theorem mark32_tells (l : List S32) (hl : l.length ≤ 1048576) (k : Nat) (hk : l.length < k) : laws_markFractionS.f k l 1 = some (1 + 2 * (l.length : Int), iota32 1 l.length) :=
  mark32_any l hl 1 (by omega) (by omega) k hk

theorem eqI_rounds (l : List Int) (hl : l.length ≤ 1048576) (d : Nat) : ∀ (i k : Nat), i + d = l.length → d < k → laws_eqIntS.l0 k l l (i : Int) = some true := by
  induction d with
  | zero =>
    intro i k hi hk
    obtain ⟨k, rfl⟩ : ∃ m, k = m + 1 := ⟨k - 1, by omega⟩
    simp only [laws_eqIntS.l0]
    rw [if_neg (by omega)]
  | succ d ih =>
    intro i k hi hk
    obtain ⟨k, rfl⟩ : ∃ m, k = m + 1 := ⟨k - 1, by omega⟩
    simp only [laws_eqIntS.l0, if_true]
    rw [if_pos (by omega), if_pos (by omega), if_pos (by omega), wrap_succ i (by omega)]
    exact ih (i + 1) k (by omega) (by omega)
theorem eqI_tells (l : List Int) (hl : l.length ≤ 1048576) (k : Nat) (hk : l.length < k) : laws_eqIntS.f k l l = some true := by
  unfold laws_eqIntS.f
  rw [if_pos rfl]
  exact eqI_rounds l hl l.length 0 k (by omega) hk
def iotaI : Int → Nat → List Int
  | _, 0 => []
  | v, m + 1 => v :: iotaI (v + 1) m
theorem iotaI_len : ∀ (m : Nat) (v : Int), (iotaI v m).length = m
  | 0, _ => rfl
  | m + 1, v => by rw [iotaI, List.length_cons, iotaI_len m]
theorem markI_rounds (L : Nat) (hl : L ≤ 1048576) (e : Nat) : ∀ (i k : Nat) (P R : List Int) (v : Int), P.length = i → R.length = e → i + e = L → v = 1 + (i : Int) → e < k →
    laws_markIntS.l0 k (P ++ R) v (i : Int) = some (1 + (L : Int), P ++ iotaI v e) := by
  induction e with
  | zero =>
    intro i k P R v hP hR hi hv hk
    obtain ⟨k, rfl⟩ : ∃ q, k = q + 1 := ⟨k - 1, by omega⟩
    have : R = [] := List.length_eq_zero_iff.1 hR
    subst this
    simp only [laws_markIntS.l0, List.append_nil, iotaI]
    rw [if_neg (by omega), hv, show i = L by omega]
  | succ e ih =>
    intro i k P R v hP hR hi hv hk
    obtain ⟨k, rfl⟩ : ∃ q, k = q + 1 := ⟨k - 1, by omega⟩
    cases R with
    | nil => simp at hR
    | cons x R =>
      rw [List.length_cons] at hR
      have w1 : wrap64 (v + 1) = v + 1 := by unfold wrap64; omega
      have s1 : ∀ y z : Int, (P ++ y :: R).set i z = P ++ z :: R := by
        intro y z
        rw [List.set_append_right _ _ (by omega), hP, Nat.sub_self]
        rfl
      simp only [laws_markIntS.l0, Int.toNat_natCast, s1, w1]
      rw [if_pos (by rw [List.length_append, List.length_cons]; omega), if_pos (by omega), wrap_succ i (by omega)]
      have h := ih (i + 1) k (P ++ [v]) R (v + 1) (by rw [List.length_append, List.length_singleton]; omega) (by omega) (by omega) (by omega) (by omega)
      rw [iotaI]
      simpa using h
theorem markI_tells (l : List Int) (hl : l.length ≤ 1048576) (k : Nat) (hk : l.length < k) : laws_markIntS.f k l 1 = some (1 + (l.length : Int), iotaI 1 l.length) := by
  have h := markI_rounds l.length hl l.length 0 k [] l 1 rfl rfl (by omega) (by omega) hk
  unfold laws_markIntS.f
  simpa using h

theorem heldI_rounds (L : Nat) (hl : L ≤ 1048576) (e : Nat) : ∀ (i k : Nat) (P : List Int) (v : Int), P.length = i → i + e = L → v = 1 + (i : Int) → e < k →
    laws_heldIntS.l0 k (P ++ iotaI v e) v (i : Int) = some (1 + (L : Int)) := by
  induction e with
  | zero =>
    intro i k P v hP hi hv hk
    obtain ⟨k, rfl⟩ : ∃ q, k = q + 1 := ⟨k - 1, by omega⟩
    simp only [laws_heldIntS.l0, iotaI, List.append_nil]
    rw [if_neg (by omega), hv, show i = L by omega]
  | succ e ih =>
    intro i k P v hP hi hv hk
    obtain ⟨k, rfl⟩ : ∃ q, k = q + 1 := ⟨k - 1, by omega⟩
    have w1 : wrap64 (v + 1) = v + 1 := by unfold wrap64; omega
    have r1 : rd (P ++ iotaI v (e + 1)) (i : Int) = v := by
      unfold rd
      rw [Int.toNat_natCast, List.getD_eq_getElem?_getD, ← hP, iotaI]
      simp
    simp only [laws_heldIntS.l0, r1, w1, if_true]
    rw [if_pos (by rw [List.length_append, iotaI_len]; omega), if_pos (by omega), wrap_succ i (by omega)]
    have h := ih (i + 1) k (P ++ [v]) (v + 1) (by rw [List.length_append, List.length_singleton]; omega) (by omega) (by omega) (by omega)
    rw [iotaI]
    simpa using h
theorem heldI_tells (L : Nat) (hl : L ≤ 1048576) (k : Nat) (hk : L < k) : laws_heldIntS.f k (iotaI 1 L) 1 = some (1 + (L : Int)) := by
  have h := heldI_rounds L hl L 0 k [] 1 rfl (by omega) (by omega) hk
  unfold laws_heldIntS.f
  simpa using h

theorem quo_val (X d c : Int) (hd : 0 < d) (hX : X = d * c) (h0 : 0 ≤ X) (h1 : X ≤ 4000000) (hc : 0 ≤ c ∧ c ≤ 1000) : wrap64 (Int.tdiv (wrap64 X) d) = c := by
  have w : wrap64 X = X := by unfold wrap64; omega
  have e : Int.tdiv X d = c := by rw [hX]; exact Int.mul_tdiv_cancel_left _ (by omega)
  rw [w, e]
  clear hX
  unfold wrap64
  omega
theorem sum_val (N x : Int) (hN : 0 ≤ N ∧ N ≤ 12) (hx : 0 ≤ x ∧ x ≤ 1000) : wrap64 (wrap64 (wrap64 (3 * N) - 6) - x) = 3 * N - 6 - x := by
  have a : wrap64 (3 * N) = 3 * N := by unfold wrap64; omega
  have b : wrap64 (3 * N - 6) = 3 * N - 6 := by unfold wrap64; omega
  rw [a, b]
  unfold wrap64
  omega
theorem add_val (x y : Int) (hx : 0 ≤ x ∧ x ≤ 1000) (hy : 0 ≤ y ∧ y ≤ 1000) : wrap64 (x + y) = x + y := by unfold wrap64; omega
theorem nq_rounds (C : List FR) (N : Nat) (hl : C.length = N) (hN : 3 ≤ N ∧ N ≤ 12) (l : List DG) (R : List Int) (hR : R.length = N) (hRd : ∀ i : Int, 0 ≤ i → i < (N : Int) → rd R i = 1 + dg l i) (hll : (l.length : Int) = N - 3)
    (hb : ∀ i, i < N → 0 ≤ (rF C i).f1 ∧ (rF C i).f1 ≤ 1000000) (hq : ∀ i, i + 1 < N → 0 < (rF C i).f1 ∧ (if i = 0 then (0 : Int) else (rF C (i - 1)).f1) + (rF C (i + 1)).f1 = (rF C i).f1 * (1 + dg l ((i : Int) + 1))) (e : Nat) :
    ∀ (i : Nat) (x4 : List Int) (x5 : Int), i + 1 + e = N → x4.length = N → (∀ j : Int, 1 ≤ j → j ≤ (i : Int) → rd x4 j = 1 + dg l j) → x5 + sumQ l (i + 1) e + (1 + dg l 0) = N + 2 * (l.length : Int) → 0 ≤ x5 → x5 ≤ 30 * i →
    ∀ k, e < k → spec_nbQuiddity.l0 k C (N : Int) x4 x5 (i : Int) = some R := by
  induction e with
  | zero =>
    intro i x4 x5 hi hx4 hv hs h0 h1 k hk
    obtain ⟨k, rfl⟩ : ∃ q, k = q + 1 := ⟨k - 1, by omega⟩
    simp only [spec_nbQuiddity.l0]
    rw [wrap_succ i (by omega), if_neg (by omega), if_pos (by omega), sum_val N x5 (by omega) (by omega)]
    simp only [sumQ] at hs
    congr 1
    refine ext_rd _ _ (by rw [List.length_set]; omega) (fun j j0 j1 => ?_)
    rw [List.length_set] at j1
    rw [rd_set _ _ _ _ (by omega) j0, hRd j j0 (by omega)]
    by_cases e : j = 0
    · rw [if_pos e, e]
      omega
    · rw [if_neg e]
      exact hv j (by omega) (by omega)
  | succ e ih =>
    intro i x4 x5 hi hx4 hv hs h0 h1 k hk
    obtain ⟨k, rfl⟩ : ∃ q, k = q + 1 := ⟨k - 1, by omega⟩
    obtain ⟨hd, hX⟩ := hq i (by omega)
    have b0 := hb i (by omega)
    have b1 := hb (i + 1) (by omega)
    have hdb := dg_bounds l ((i : Int) + 1)
    obtain ⟨c, hc⟩ : ∃ c, c = 1 + dg l ((i : Int) + 1) := ⟨_, rfl⟩
    rw [← hc] at hX
    have hcb : 0 ≤ c ∧ c ≤ 30 := by omega
    have hs' : x5 + c + sumQ l (i + 1 + 1) e + (1 + dg l 0) = N + 2 * (l.length : Int) := by
      simp only [sumQ] at hs
      rw [show (((i + 1 : Nat) : Int)) = (i : Int) + 1 by omega] at hs
      omega
    have hrec := ih (i + 1) (x4.set ((i + 1 : Nat) : Int).toNat c) (x5 + c) (by omega) (by rw [List.length_set]; exact hx4) (by
      intro j j0 j1
      rw [rd_set _ _ _ _ (by omega) (by omega)]
      by_cases e : j = ((i + 1 : Nat) : Int)
      · rw [if_pos e, e, hc]
        rfl
      · rw [if_neg e]
        exact hv j j0 (by omega)) hs' (by omega) (by omega) k (by omega)
    have i12 : i < 12 := by omega
    have g1 : ((i + 1 : Nat) : Int) < (N : Int) := by omega
    have g2 : ((i + 1 : Nat) : Int) < (C.length : Int) := by omega
    have g3 : ((i + 1 : Nat) : Int) < (x4.length : Int) := by omega
    have g4 : 0 ≤ ((i + 1 : Nat) : Int) := by omega
    have g5 : 0 ≤ (i : Int) := by omega
    have g6 : (i : Int) < (C.length : Int) := by omega
    have hd0 : ¬ (rF C i).f1 = 0 := by omega
    have va := add_val x5 c (by omega) (by omega)
    by_cases e0 : i = 0
    · rw [if_pos e0, Int.zero_add] at hX
      have v := quo_val ((rF C (i + 1)).f1) (rF C i).f1 c hd hX (by omega) (by omega) (by omega)
      have q0 : ¬ (i : Int) > 0 := by omega
      clear hb hq hdb hs hs' hX ih hv
      have w1 := wrap_succ i (Nat.lt_of_lt_of_le i12 (by decide))
      simp only [spec_nbQuiddity.l0]
      rw [w1, if_pos g1, if_neg q0, if_pos g4, if_pos g2, if_pos g5, if_pos g6, if_neg hd0, if_pos g3, v, va]
      exact hrec
    · rw [if_neg e0] at hX
      have b2 := hb (i - 1) (by omega)
      have v := quo_val ((rF C (i - 1)).f1 + (rF C (i + 1)).f1) (rF C i).f1 c hd hX (by omega) (by omega) (by omega)
      have q0 : (i : Int) > 0 := by omega
      have q1 : 0 ≤ ((i - 1 : Nat) : Int) := by omega
      have q2 : ((i - 1 : Nat) : Int) < (C.length : Int) := by omega
      have i0 : 0 < i := by omega
      clear hb hq hdb hs hs' hX ih hv
      have w1 := wrap_succ i (Nat.lt_of_lt_of_le i12 (by decide))
      have w2 := wrap_pred i i0 (Nat.lt_of_lt_of_le i12 (by decide))
      simp only [spec_nbQuiddity.l0]
      rw [w1, if_pos g1, if_pos q0, w2, if_pos q1, if_pos q2, if_pos g4, if_pos g2, if_pos g5, if_pos g6, if_neg hd0, if_pos g3, v, va]
      exact hrec
theorem quo_id (x y z : FR) (h1 : crZ x y = 1) (h2 : crZ y z = 1) : x.f1 + z.f1 = y.f1 * crZ x z := by
  unfold crZ at *
  grind
/-- What both return. -/
theorem both (C : List FR) (hc : C.length ≤ 1048576) : ∃ K r ok, r.length ≤ 1048576 ∧ ∀ k, K ≤ k → spec_QuiddityOfFractions.f k C = some (r, ok) ∧ impl_QuiddityOfFractions.f k C = some (r, ok) := by
  obtain ⟨K, e1, e2⟩ := Ev.at2 (nbPolygon_tells C (by omega)) (isFractionPolygon_tells C (by omega))
  have E1 : ∀ k, K ≤ k → spec_nbPolygon.f k C = some (isFP C) := fun k hk => by rw [show k = K + (k - K) by omega]; exact e1 _
  have E2 : ∀ k, K ≤ k → impl_IsFractionPolygon.f k C = some (isFP C) := fun k hk => by rw [show k = K + (k - K) by omega]; exact e2 _
  cases ht : isFP C
  · refine ⟨K, [], false, by simp, fun k hk => ?_⟩
    simp [spec_QuiddityOfFractions.f, impl_QuiddityOfFractions.f, E1 k hk, E2 k hk, ht]
  · obtain ⟨hN, hok, hcr, hpos, hf, hla⟩ := fp_facts C ht
    have he : crZ (rF C 0) (rF C (C.length - 1)) = 1 := by rw [hf, hla]; rfl
    have T := S0_nc (rF C) C.length hN.1 hpos
    have hfull := S0_full (rF C) C.length hN.1 hpos hcr he
    have hdg := S0_dg (rF C) C.length hN.1 hpos hcr he
    have hend : ∀ d ∈ S0 (rF C) C.length 0 C.length, 0 ≤ d.f0 ∧ d.f0 < d.f1 ∧ d.f1 < (C.length : Int) := fun d hd => by have := T.ok d hd; omega
    obtain ⟨R, r1, r2, r3⟩ := quiddity_tells (C.length : Int) (S0 (rF C) C.length 0 C.length) (by omega) (by omega) hend
    have hsum := sumQ_all (S0 (rF C) C.length 0 C.length) C.length (fun d hd => by have := hend d hd; omega)
    have hbd : ∀ i, i < C.length → 0 ≤ (rF C i).f1 ∧ (rF C i).f1 ≤ 1000000 := fun i hi => (ok_b (hok _ (rF_mem C i hi))).2
    have hq : ∀ i, i + 1 < C.length → 0 < (rF C i).f1 ∧ (if i = 0 then (0 : Int) else (rF C (i - 1)).f1) + (rF C (i + 1)).f1 = (rF C i).f1 * (1 + dg (S0 (rF C) C.length 0 C.length) ((i : Int) + 1)) := by
      intro i hi
      have o1 := ok_b (hok _ (rF_mem C i (by omega)))
      have o2 := ok_b (hok _ (rF_mem C (i + 1) hi))
      refine ⟨den_pos _ _ (by omega) (by omega) (hcr i hi), ?_⟩
      have h := hdg (i + 1) hi
      rw [show ((i + 1 : Nat) : Int) = (i : Int) + 1 by omega, show i + 1 + C.length - 1 = C.length + i by omega, VF_turn (rF C) C.length hN.1 _ i (by omega)] at h
      rw [h]
      unfold VF
      rw [if_neg (show ¬ i + 1 + 1 = 0 by omega), if_pos (show i + 1 + 1 ≤ C.length by omega), show i + 1 + 1 - 1 = i + 1 by omega]
      by_cases e0 : i = 0
      · rw [if_pos e0, if_pos e0, ng_l, hla, e0, hf]
        unfold crZ
        simp only
        omega
      · rw [if_neg e0, if_neg e0, if_pos (by omega)]
        have s1 := hcr (i - 1) (by omega)
        rw [show i - 1 + 1 = i by omega] at s1
        exact quo_id _ _ _ s1 (hcr i hi)
    have hs1 : sumQ (S0 (rF C) C.length 0 C.length) 0 C.length = (1 + dg (S0 (rF C) C.length 0 C.length) 0) + sumQ (S0 (rF C) C.length 0 C.length) 1 (C.length - 1) := by
      obtain ⟨m, hm⟩ : ∃ m, C.length = m + 1 := ⟨C.length - 1, by omega⟩
      generalize S0 (rF C) C.length 0 C.length = l
      rw [hm]
      rfl
    have hnq := nq_rounds C C.length rfl hN (S0 (rF C) C.length 0 C.length) R (by omega) r2 hfull hbd hq (C.length - 1) 0 (List.replicate C.length 0) 0 (by omega) (by simp) (fun j j0 j1 => by omega) (by
      rw [hs1] at hsum
      rw [show 0 + 1 = 1 from rfl]
      omega) (by omega) (by omega)
    refine ⟨K + 2000, R, true, by omega, fun k hk => ⟨?_, ?_⟩⟩
    · have h3 := hnq k (by omega)
      rw [show ((0 : Nat) : Int) = 0 from rfl] at h3
      unfold spec_QuiddityOfFractions.f spec_nbQuiddity.f
      rw [E1 k (by omega), ht, Option.bind_some, if_pos rfl, if_pos (by omega), if_pos (by omega), Int.toNat_natCast, h3]
      rfl
    · unfold impl_QuiddityOfFractions.f
      rw [E2 k (by omega), ht, Option.bind_some, if_pos rfl, nearPairs_tells C ht k (by omega), Option.bind_some, r3 k (by omega)]
      rfl

theorem FnExactQuiddityOfFractions (l : List S31) (hm_l : l.length ≤ maxLen) (_ : ∀ y ∈ l, (Lit.int .i64 y.f0).wf = true ∧ (Lit.int .i64 y.f1).wf = true) :
    ∃ k, laws_FnExactQuiddityOfFractions.f k l = some true := by
  obtain ⟨q0, hr0, hz0⟩ := sz32_any l 1048576 (by omega) (by omega) hm_l
  rcases hz0 with hz0 | ⟨hz0, hy0⟩
  · refine ⟨0, ?_⟩
    unfold laws_FnExactQuiddityOfFractions.f
    rw [hr0, Option.bind_some, if_pos hz0]
  ·
    obtain ⟨Cl, hCl⟩ : ∃ C, C = l.map conv32 := ⟨_, rfl⟩
    have hcl : Cl.length ≤ 1048576 := by rw [hCl, List.length_map]; omega
    obtain ⟨K1, r, ok, hrl, hb⟩ := both Cl hcl
    obtain ⟨K2, e0, e1⟩ := Ev.at2 (toS32_tells l (by omega)) (eqS32_tells Cl (by omega))
    simp only [← hCl] at e0
    obtain ⟨K3, hK3⟩ : ∃ K3 : Nat, K3 = 0 := ⟨_, rfl⟩
    obtain ⟨M, hM⟩ : ∃ M, M = K1 + (K2 + (K3 + (Cl.length + r.length + 1))) := ⟨_, rfl⟩
    have b1 : ∀ j, spec_QuiddityOfFractions.f (M + j) Cl = some (r, ok) := fun j => (hb (M + j) (by omega)).1
    have b2 : ∀ j, impl_QuiddityOfFractions.f (M + j) Cl = some (r, ok) := fun j => (hb (M + j) (by omega)).2
    have t0 : ∀ j, laws_toFractionS.f (M + j) l = some Cl := fun j => by rw [show M + j = K2 + (M + j - K2) by omega]; exact e0 _
    have c0 : ∀ j, laws_eqFractionS.f (M + j) Cl Cl = some true := fun j => by rw [show M + j = K2 + (M + j - K2) by omega]; exact e1 _
    have m0 : ∀ j, laws_markFractionS.f (M + j) Cl 1 = _ := fun j => mark32_tells Cl hcl (M + j) (by omega)
    have er : ∀ j, laws_eqIntS.f (M + j) r r = some true := fun j => eqI_tells r hrl (M + j) (by omega)
    have mr : ∀ j, laws_markIntS.f (M + j) r 1 = _ := fun j => markI_tells r hrl (M + j) (by omega)
    have hd : ∀ j, laws_heldIntS.f (M + j) (iotaI 1 r.length) 1 = _ := fun j => heldI_tells r.length hrl (M + j) (by omega)
    have j2 : laws_FnExactQuiddityOfFractions.j2 (M + 2) (iotaI 1 r.length) (1 + (r.length : Int)) false = some true := by
      simp only [laws_FnExactQuiddityOfFractions.j2, hd, Option.bind_some, Bool.false_eq_true, if_false, if_true]
      rw [if_neg (by omega)]
    have j1 : laws_FnExactQuiddityOfFractions.j1 (M + 3) l r ok r false = some true := by
      simp only [laws_FnExactQuiddityOfFractions.j1, mr, hd, t0, b2, er, Option.bind_some, Bool.false_eq_true, if_false, if_true]
      rw [if_neg (by omega), bne_self_eq_false]
      exact j2
    have j0 : laws_FnExactQuiddityOfFractions.j0 (M + 4) l r ok Cl r ok false = some true := by
      simp only [laws_FnExactQuiddityOfFractions.j0, t0, c0, er, m0, Option.bind_some, Bool.false_eq_true, if_false, if_true]
      rw [if_neg (by omega), bne_self_eq_false]
      exact j1
    refine ⟨M + 4, ?_⟩
    simp only [laws_FnExactQuiddityOfFractions.f, hr0, Option.bind_some, b1, b2, t0, er, if_true]
    rw [if_neg (by omega), bne_self_eq_false]
    exact j0

end Go.Proofs.Ytnjejmfnacpdoaa.PureFnExactQuiddityOfFractions
