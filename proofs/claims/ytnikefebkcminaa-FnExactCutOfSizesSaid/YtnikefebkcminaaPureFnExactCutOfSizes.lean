/- The program's CutOfSizes and the reference's return the same for every list of numbers that the statement lets in: the reference asks first whether all sizes are within bounds and the program asks it of each on its way; both add up the sizes in the same way. No condition. -/
import Derived.Test.YtnikefebkcminaaPFnExactCutOfSizesx0
import Derived.Test.YtnikefebkcminaaPFnExactCutOfSizesx1
import Derived.Test.YtnikefebkcminaaPFnExactCutOfSizesx2
import Derived.Test.YtnikefebkcminaaPFnExactCutOfSizesx3
set_option linter.unusedSimpArgs false
set_option linter.unnecessarySimpa false
set_option linter.unusedVariables false
namespace Go.Proofs.Ytnikefebkcminaa.PureFnExactCutOfSizes
open Go.RowKit Go.Proofs.Ytnikefebkcminaa.PFnExactCutOfSizes Go.Proofs.YtnikefebkcminaaW.PrintWords Go.Proofs.YtnikefebkcminaaW.PrintLast

theorem Ev.at1 {α : Type} {g : Nat → Option α} {r : α} (h : Ev g r) : ∃ K, ∀ j, g (K + j) = some r := by
  obtain ⟨K, h⟩ := h
  exact ⟨K, fun j => h _ (by omega)⟩
theorem Ev.at2 {α β : Type} {g : Nat → Option α} {r : α} {g2 : Nat → Option β} {r2 : β} (h : Ev g r) (h2 : Ev g2 r2) : ∃ K, (∀ j, g (K + j) = some r) ∧ ∀ j, g2 (K + j) = some r2 := by
  obtain ⟨K, h⟩ := h
  obtain ⟨K2, h2⟩ := h2
  exact ⟨K + K2, fun j => h _ (by omega), fun j => h2 _ (by omega)⟩
theorem Ev.at3 {α β γ : Type} {g : Nat → Option α} {r : α} {g2 : Nat → Option β} {r2 : β} {g3 : Nat → Option γ} {r3 : γ} (h : Ev g r) (h2 : Ev g2 r2) (h3 : Ev g3 r3) :
    ∃ K, (∀ j, g (K + j) = some r) ∧ (∀ j, g2 (K + j) = some r2) ∧ ∀ j, g3 (K + j) = some r3 := by
  obtain ⟨K, h⟩ := h
  obtain ⟨K2, h2⟩ := h2
  obtain ⟨K3, h3⟩ := h3
  exact ⟨K + K2 + K3, fun j => h _ (by omega), fun j => h2 _ (by omega), fun j => h3 _ (by omega)⟩
theorem Ev.at4 {α β γ δ : Type} {g : Nat → Option α} {r : α} {g2 : Nat → Option β} {r2 : β} {g3 : Nat → Option γ} {r3 : γ} {g4 : Nat → Option δ} {r4 : δ} (h : Ev g r) (h2 : Ev g2 r2) (h3 : Ev g3 r3) (h4 : Ev g4 r4) :
    ∃ K, (∀ j, g (K + j) = some r) ∧ (∀ j, g2 (K + j) = some r2) ∧ (∀ j, g3 (K + j) = some r3) ∧ ∀ j, g4 (K + j) = some r4 := by
  obtain ⟨K, e1, e2, e3⟩ := Ev.at3 h h2 h3
  obtain ⟨K4, h4⟩ := h4
  exact ⟨K + K4, fun j => by rw [Nat.add_assoc]; exact e1 _, fun j => by rw [Nat.add_assoc]; exact e2 _, fun j => by rw [Nat.add_assoc]; exact e3 _, fun j => h4 _ (by omega)⟩
theorem Ev.all {α β : Type} {g : α → Nat → Option β} {r : α → β} (l : List α) (h : ∀ x, x ∈ l → Ev (g x) (r x)) : ∃ K, ∀ x, x ∈ l → ∀ k, K ≤ k → g x k = some (r x) := by
  induction l with
  | nil => exact ⟨0, fun x hx => by cases hx⟩
  | cons y l ih =>
    obtain ⟨K, hK⟩ := ih (fun x hx => h x (List.mem_cons_of_mem _ hx))
    obtain ⟨K2, hK2⟩ := h y (List.mem_cons_self ..)
    refine ⟨K + K2, fun x hx k hk => ?_⟩
    rcases List.mem_cons.1 hx with e | e
    · subst e
      exact hK2 k (by omega)
    · exact hK x e k (by omega)

theorem take_set_succ {α : Type} (l : List α) (i : Nat) (v : α) (h : i < l.length) : (l.set i v).take (i + 1) = l.take i ++ [v] := by
  rw [List.take_succ_eq_append_getElem (by rw [List.length_set]; exact h), List.getElem_set_self, List.take_set_of_le (Nat.le_refl i)]
theorem getD_drop {α : Type} (l : List α) (d : α) (i : Nat) (h : i < l.length) : l.drop i = l.getD i d :: l.drop (i + 1) := by
  rw [List.drop_eq_getElem_cons h, List.getD_eq_getElem?_getD, List.getElem?_eq_getElem h]
  rfl
theorem wrap_succ (i : Nat) (h : i < 4611686018427387904) : wrap64 ((i : Int) + 1) = ((i + 1 : Nat) : Int) := by unfold wrap64; omega
theorem wrap_pred (i : Nat) (h0 : 0 < i) (h : i < 4611686018427387904) : wrap64 ((i : Int) - 1) = ((i - 1 : Nat) : Int) := by unfold wrap64; omega

theorem within_tells (a b c : Int) : impl_within.f a b c = some (decide (b ≤ a ∧ a ≤ c)) := by
  unfold impl_within.f
  by_cases h : a ≥ b
  · rw [if_pos h]
    have : b ≤ a := h
    simp [this]
  · rw [if_neg h]
    have : ¬ b ≤ a := h
    simp [this]

theorem l1In_tells (a b c : Int) : spec_l1In.f a b c = some (decide (b ≤ a ∧ a ≤ c)) := by
  unfold spec_l1In.f
  by_cases h : a ≥ b
  · rw [if_pos h]
    have : b ≤ a := h
    simp [this]
  · rw [if_neg h]
    have : ¬ b ≤ a := h
    simp [this]

theorem toI_rounds (x0 : List Int) (hl : x0.length ≤ 1048576) (d : Nat) : ∀ (i k : Nat) (x3 : List Int), x3.length = x0.length → i + d = x0.length → d < k →
    laws_toIntS.l0 k x0 x3 (i : Int) = some (x3.take i ++ x0.drop i) := by
  induction d with
  | zero =>
    intro i k x3 h3 hi hk
    obtain ⟨k, rfl⟩ : ∃ m, k = m + 1 := ⟨k - 1, by omega⟩
    simp only [laws_toIntS.l0]
    rw [if_neg (by omega), List.drop_of_length_le (by omega), List.take_of_length_le (by omega), List.append_nil]
  | succ d ih =>
    intro i k x3 h3 hi hk
    obtain ⟨k, rfl⟩ : ∃ m, k = m + 1 := ⟨k - 1, by omega⟩
    simp only [laws_toIntS.l0]
    rw [if_pos (by omega), if_pos (by omega), if_pos (by omega), wrap_succ i (by omega), ih (i + 1) k _ (by rw [List.length_set]; exact h3) (by omega) (by omega), Int.toNat_natCast, take_set_succ _ _ _ (by omega), getD_drop x0 0 i (by omega)]
    simp [rd]
theorem toI_tells (x0 : List Int) (hl : x0.length ≤ 1048576) (k : Nat) (hk : x0.length < k) : laws_toIntS.f k x0 = some x0 := by
  unfold laws_toIntS.f
  rw [if_pos (by omega), if_pos (by omega), Int.toNat_natCast]
  have h := toI_rounds x0 hl x0.length 0 k (List.replicate x0.length 0) (by simp) (by omega) hk
  simpa using h

theorem eqI_rounds (l : List Int) (hl : l.length ≤ 1048576) (d : Nat) : ∀ (i k : Nat), i + d = l.length → d < k → laws_eqIntS.l0 k l l (i : Int) = some true := by
  induction d with
  | zero =>
    intro i k hi hk
    obtain ⟨k, rfl⟩ : ∃ m, k = m + 1 := ⟨k - 1, by omega⟩
    simp only [laws_eqIntS.l0]
    rw [if_neg (by omega)]
  | succ d ih =>
    intro i k hi hk
    obtain ⟨k, rfl⟩ : ∃ m, k = m + 1 := ⟨k - 1, by omega⟩
    simp only [laws_eqIntS.l0, if_true]
    rw [if_pos (by omega), if_pos (by omega), if_pos (by omega), wrap_succ i (by omega)]
    exact ih (i + 1) k (by omega) (by omega)
theorem eqI_tells (l : List Int) (hl : l.length ≤ 1048576) (k : Nat) (hk : l.length < k) : laws_eqIntS.f k l l = some true := by
  unfold laws_eqIntS.f
  rw [if_pos rfl]
  exact eqI_rounds l hl l.length 0 k (by omega) hk
def iotaI : Int → Nat → List Int
  | _, 0 => []
  | v, m + 1 => v :: iotaI (v + 1) m
theorem iotaI_len : ∀ (m : Nat) (v : Int), (iotaI v m).length = m
  | 0, _ => rfl
  | m + 1, v => by rw [iotaI, List.length_cons, iotaI_len m]
theorem markI_rounds (L : Nat) (hl : L ≤ 1048576) (e : Nat) : ∀ (i k : Nat) (P R : List Int) (v : Int), P.length = i → R.length = e → i + e = L → v = 1 + (i : Int) → e < k →
    laws_markIntS.l0 k (P ++ R) v (i : Int) = some (1 + (L : Int), P ++ iotaI v e) := by
  induction e with
  | zero =>
    intro i k P R v hP hR hi hv hk
    obtain ⟨k, rfl⟩ : ∃ q, k = q + 1 := ⟨k - 1, by omega⟩
    have : R = [] := List.length_eq_zero_iff.1 hR
    subst this
    simp only [laws_markIntS.l0, List.append_nil, iotaI]
    rw [if_neg (by omega), hv, show i = L by omega]
  | succ e ih =>
    intro i k P R v hP hR hi hv hk
    obtain ⟨k, rfl⟩ : ∃ q, k = q + 1 := ⟨k - 1, by omega⟩
    cases R with
    | nil => simp at hR
    | cons x R =>
      rw [List.length_cons] at hR
      have w1 : wrap64 (v + 1) = v + 1 := by unfold wrap64; omega
      have s1 : ∀ y z : Int, (P ++ y :: R).set i z = P ++ z :: R := by
        intro y z
        rw [List.set_append_right _ _ (by omega), hP, Nat.sub_self]
        rfl
      simp only [laws_markIntS.l0, Int.toNat_natCast, s1, w1]
      rw [if_pos (by rw [List.length_append, List.length_cons]; omega), if_pos (by omega), wrap_succ i (by omega)]
      have h := ih (i + 1) k (P ++ [v]) R (v + 1) (by rw [List.length_append, List.length_singleton]; omega) (by omega) (by omega) (by omega) (by omega)
      rw [iotaI]
      simpa using h
theorem markI_tells (l : List Int) (hl : l.length ≤ 1048576) (k : Nat) (hk : l.length < k) : laws_markIntS.f k l 1 = some (1 + (l.length : Int), iotaI 1 l.length) := by
  have h := markI_rounds l.length hl l.length 0 k [] l 1 rfl rfl (by omega) (by omega) hk
  unfold laws_markIntS.f
  simpa using h

def iota72 : Int → Nat → List S72
  | _, 0 => []
  | v, m + 1 => ⟨v, v + 1⟩ :: iota72 (v + 2) m
theorem iota72_len : ∀ (m : Nat) (v : Int), (iota72 v m).length = m
  | 0, _ => rfl
  | m + 1, v => by rw [iota72, List.length_cons, iota72_len m]
theorem mark72_rounds (l : List S72) (hl : l.length ≤ 1048576) (e : Nat) : ∀ (i k : Nat) (P R : List S72) (v0 v : Int), P.length = i → R.length = e → i + e = l.length → 0 ≤ v0 → v0 ≤ 100000000 → v = v0 + 2 * (i : Int) → e < k →
    laws_markDiagonalS.l0 k (P ++ R) v (i : Int) = some (v0 + 2 * (l.length : Int), P ++ iota72 v e) := by
  induction e with
  | zero =>
    intro i k P R v0 v hP hR hi h00 h01 hv hk
    obtain ⟨k, rfl⟩ : ∃ q, k = q + 1 := ⟨k - 1, by omega⟩
    have : R = [] := List.length_eq_zero_iff.1 hR
    subst this
    simp only [laws_markDiagonalS.l0, List.append_nil, iota72]
    rw [if_neg (by omega), hv, show i = l.length by omega]
  | succ e ih =>
    intro i k P R v0 v hP hR hi h00 h01 hv hk
    obtain ⟨k, rfl⟩ : ∃ q, k = q + 1 := ⟨k - 1, by omega⟩
    cases R with
    | nil => simp at hR
    | cons x R =>
      rw [List.length_cons] at hR
      have w1 : wrap64 (v + 1) = v + 1 := by unfold wrap64; omega
      have w2 : wrap64 (v + 1 + 1) = v + 2 := by unfold wrap64; omega
      have s1 : ∀ y z : S72, (P ++ y :: R).set i z = P ++ z :: R := by
        intro y z
        rw [List.set_append_right _ _ (by omega), hP, Nat.sub_self]
        rfl
      have r1 : ∀ y : S72, rd_T72 (P ++ y :: R) (i : Int) = y := by
        intro y
        unfold rd_T72
        rw [Int.toNat_natCast, List.getD_eq_getElem?_getD, ← hP]
        simp
      simp only [laws_markDiagonalS.l0, Int.toNat_natCast, Option.bind_some, s1, r1, w1, w2]
      rw [if_pos (by rw [List.length_append, List.length_cons]; omega), if_pos (by omega), wrap_succ i (by omega)]
      have h := ih (i + 1) k (P ++ [⟨v, v + 1⟩]) R v0 (v + 2) (by rw [List.length_append, List.length_singleton]; omega) (by omega) (by omega) h00 h01 (by omega) (by omega)
      rw [iota72]
      simpa using h
theorem mark72_any (l : List S72) (hl : l.length ≤ 1048576) (v : Int) (h0 : 0 ≤ v) (h1 : v ≤ 100000000) (k : Nat) (hk : l.length < k) : laws_markDiagonalS.f k l v = some (v + 2 * (l.length : Int), iota72 v l.length) := by
  have h := mark72_rounds l hl l.length 0 k [] l v v rfl rfl (by omega) h0 h1 (by omega) hk
  unfold laws_markDiagonalS.f
  simpa using h
theorem mark72_tells (l : List S72) (hl : l.length ≤ 1048576) (k : Nat) (hk : l.length < k) : laws_markDiagonalS.f k l 1 = some (1 + 2 * (l.length : Int), iota72 1 l.length) :=
  mark72_any l hl 1 (by omega) (by omega) k hk

theorem held72_rounds (L : Nat) (hl : L ≤ 1048576) (e : Nat) : ∀ (i k : Nat) (P : List S72) (v : Int), P.length = i → i + e = L → v = 1 + 2 * (i : Int) → e < k →
    laws_heldDiagonalS.l0 k (P ++ iota72 v e) v (i : Int) = some (1 + 2 * (L : Int)) := by
  induction e with
  | zero =>
    intro i k P v hP hi hv hk
    obtain ⟨k, rfl⟩ : ∃ q, k = q + 1 := ⟨k - 1, by omega⟩
    simp only [laws_heldDiagonalS.l0, iota72, List.append_nil]
    rw [if_neg (by omega), hv, show i = L by omega]
  | succ e ih =>
    intro i k P v hP hi hv hk
    obtain ⟨k, rfl⟩ : ∃ q, k = q + 1 := ⟨k - 1, by omega⟩
    have w1 : wrap64 (v + 1) = v + 1 := by unfold wrap64; omega
    have w2 : wrap64 (v + 1 + 1) = v + 2 := by unfold wrap64; omega
    have r1 : rd_T72 (P ++ iota72 v (e + 1)) (i : Int) = ⟨v, v + 1⟩ := by
      unfold rd_T72
      rw [Int.toNat_natCast, List.getD_eq_getElem?_getD, ← hP, iota72]
      simp
    simp only [laws_heldDiagonalS.l0, r1, w1, w2, if_true]
    rw [if_pos (by rw [List.length_append, iota72_len]; omega), if_pos (by omega), wrap_succ i (by omega)]
    have h := ih (i + 1) k (P ++ [⟨v, v + 1⟩]) (v + 2) (by rw [List.length_append, List.length_singleton]; omega) (by omega) (by omega) (by omega)
    rw [iota72]
    simpa using h
theorem held72_tells (L : Nat) (hl : L ≤ 1048576) (k : Nat) (hk : L < k) : laws_heldDiagonalS.f k (iota72 1 L) 1 = some (1 + 2 * (L : Int)) := by
  have h := held72_rounds L hl L 0 k [] 1 rfl (by omega) (by omega) hk
  unfold laws_heldDiagonalS.f
  simpa using h

theorem eqO72_rounds (l : List S72) (hl : l.length ≤ 4611686018427387904) (d : Nat) : ∀ (i k : Nat), i + d = l.length → d < k → laws_eqDiagonalS.l0 k l l (i : Int) = some true := by
  induction d with
  | zero =>
    intro i k hi hk
    obtain ⟨k, rfl⟩ : ∃ m, k = m + 1 := ⟨k - 1, by omega⟩
    simp only [laws_eqDiagonalS.l0]
    rw [if_neg (by omega)]
  | succ d ih =>
    intro i k hi hk
    obtain ⟨k, rfl⟩ : ∃ m, k = m + 1 := ⟨k - 1, by omega⟩
    simp only [laws_eqDiagonalS.l0, laws_eqDiagonal.f, if_true, Option.bind_some]
    rw [if_pos (by omega), if_pos (by omega), if_pos (by omega), wrap_succ i (by omega)]
    exact ih (i + 1) k (by omega) (by omega)
theorem eqO72_tells (l : List S72) (hl : l.length ≤ 1048576) (k : Nat) (hk : l.length < k) : laws_eqDiagonalS.f k l l = some true := by
  unfold laws_eqDiagonalS.f
  rw [if_pos rfl]
  exact eqO72_rounds l (by omega) l.length 0 k (by omega) (by omega)

def okS (x : Int) : Bool := decide (3 ≤ x ∧ x ≤ 12)
theorem rd_drop' (l : List Int) (i : Nat) (h : i < l.length) : l.drop i = rd l (i : Int) :: l.drop (i + 1) := by
  rw [getD_drop l 0 i h]
  unfold rd
  rw [Int.toNat_natCast]
theorem all_rounds (l : List Int) (hl : l.length ≤ 1048576) (e : Nat) : ∀ (i k : Nat), i + e = l.length → e < k → spec_l1All.l0 k 3 12 l (l.length : Int) (i : Int) = some ((l.drop i).all okS) := by
  induction e with
  | zero =>
    intro i k hi hk
    obtain ⟨k, rfl⟩ : ∃ q, k = q + 1 := ⟨k - 1, by omega⟩
    simp only [spec_l1All.l0]
    rw [if_neg (by omega), List.drop_of_length_le (by omega)]
    rfl
  | succ e ih =>
    intro i k hi hk
    obtain ⟨k, rfl⟩ : ∃ q, k = q + 1 := ⟨k - 1, by omega⟩
    simp only [spec_l1All.l0]
    rw [if_pos (by omega), if_pos (by omega), if_pos (by omega), l1In_tells, Option.bind_some, wrap_succ i (by omega), ih (i + 1) k (by omega) (by omega), rd_drop' l i (by omega), List.all_cons]
    unfold okS
    cases decide (3 ≤ rd l (i : Int) ∧ rd l (i : Int) ≤ 12) <;> simp
theorem size_rounds (l : List Int) (hl : l.length ≤ 10) (e : Nat) : ∀ (i : Nat) (acc : List S72) (last : Int), i + e = l.length → acc.length ≤ i → ∃ r0 r1 r2, r1.length ≤ 20 ∧ (∀ k, e < k → impl_CutOfSizes.l0 k l acc last l (l.length : Int) (i : Int) = some (r0, r1, r2)) ∧
    (l.all okS = true → ∀ k, e < k → spec_CutOfSizes.l0 k l acc last l (l.length : Int) (i : Int) = some (r0, r1, r2)) ∧ ((l.drop i).all okS = false → r0 = 0 ∧ r1 = [] ∧ r2 = false) := by
  induction e with
  | zero =>
    intro i acc last hi hacc
    by_cases hlast : last ≥ 12
    · refine ⟨0, [], false, by simp, ?_, ?_, fun _ => ⟨rfl, rfl, rfl⟩⟩
      · intro k hk
        obtain ⟨k, rfl⟩ : ∃ q, k = q + 1 := ⟨k - 1, by omega⟩
        simp only [impl_CutOfSizes.l0]
        rw [if_neg (by omega), if_pos hlast]
      · intro _ k hk
        obtain ⟨k, rfl⟩ : ∃ q, k = q + 1 := ⟨k - 1, by omega⟩
        simp only [spec_CutOfSizes.l0]
        rw [if_neg (by omega), if_pos hlast]
    · refine ⟨wrap64 (last + 1), acc, true, by omega, ?_, ?_, ?_⟩
      · intro k hk
        obtain ⟨k, rfl⟩ : ∃ q, k = q + 1 := ⟨k - 1, by omega⟩
        simp only [impl_CutOfSizes.l0]
        rw [if_neg (by omega), if_neg hlast]
      · intro _ k hk
        obtain ⟨k, rfl⟩ : ∃ q, k = q + 1 := ⟨k - 1, by omega⟩
        simp only [spec_CutOfSizes.l0]
        rw [if_neg (by omega), if_neg hlast]
      · intro h
        rw [List.drop_of_length_le (by omega)] at h
        cases h
  | succ e ih =>
    intro i acc last hi hacc
    have hdr := rd_drop' l i (by omega)
    have hmem : rd l (i : Int) ∈ l := by
      have : rd l (i : Int) ∈ l.drop i := by
        rw [hdr]
        exact List.mem_cons_self ..
      exact List.mem_of_mem_drop this
    have w1 : wrap64 ((i : Int) + 1) = ((i + 1 : Nat) : Int) := wrap_succ i (by omega)
    have w2 : wrap64 ((l.length : Int) - 1) = (l.length : Int) - 1 := by unfold wrap64; omega
    by_cases hok : okS (rd l (i : Int)) = true
    · have hwi : impl_within.f (rd l (i : Int)) 3 12 = some true := by
        rw [within_tells]
        unfold okS at hok
        rw [hok]
      by_cases hlt : (i : Int) + 1 < (l.length : Int)
      · obtain ⟨r0, r1, r2, h1, h2, h3, h4⟩ := ih (i + 1) (acc ++ [⟨0, wrap64 (last + wrap64 (rd l (i : Int) - 2))⟩]) (wrap64 (last + wrap64 (rd l (i : Int) - 2))) (by omega) (by rw [List.length_append, List.length_singleton]; omega)
        refine ⟨r0, r1, r2, h1, ?_, ?_, ?_⟩
        · intro k hk
          obtain ⟨k, rfl⟩ : ∃ q, k = q + 1 := ⟨k - 1, by omega⟩
          simp only [impl_CutOfSizes.l0]
          rw [if_pos (by omega), if_pos (by omega), if_pos (by omega), hwi, Option.bind_some, if_pos rfl, w2, if_pos (by omega), if_pos (by omega), w1]
          exact h2 k (by omega)
        · intro ha k hk
          obtain ⟨k, rfl⟩ : ∃ q, k = q + 1 := ⟨k - 1, by omega⟩
          simp only [spec_CutOfSizes.l0]
          rw [if_pos (by omega), if_pos (by omega), if_pos (by omega), w1, if_pos (by omega), if_pos (by omega)]
          exact h3 ha k (by omega)
        · intro h
          rw [hdr, List.all_cons, hok, Bool.true_and] at h
          exact h4 h
      · obtain ⟨r0, r1, r2, h1, h2, h3, h4⟩ := ih (i + 1) acc (wrap64 (last + wrap64 (rd l (i : Int) - 2))) (by omega) (by omega)
        refine ⟨r0, r1, r2, h1, ?_, ?_, ?_⟩
        · intro k hk
          obtain ⟨k, rfl⟩ : ∃ q, k = q + 1 := ⟨k - 1, by omega⟩
          simp only [impl_CutOfSizes.l0]
          rw [if_pos (by omega), if_pos (by omega), if_pos (by omega), hwi, Option.bind_some, if_pos rfl, w2, if_neg (by omega), w1]
          exact h2 k (by omega)
        · intro ha k hk
          obtain ⟨k, rfl⟩ : ∃ q, k = q + 1 := ⟨k - 1, by omega⟩
          simp only [spec_CutOfSizes.l0]
          rw [if_pos (by omega), if_pos (by omega), if_pos (by omega), w1, if_neg (by omega)]
          exact h3 ha k (by omega)
        · intro h
          rw [hdr, List.all_cons, hok, Bool.true_and] at h
          exact h4 h
    · have hwi : impl_within.f (rd l (i : Int)) 3 12 = some false := by
        rw [within_tells]
        unfold okS at hok
        rw [Bool.eq_false_iff.2 hok]
      refine ⟨0, [], false, by simp, ?_, ?_, fun _ => ⟨rfl, rfl, rfl⟩⟩
      · intro k hk
        obtain ⟨k, rfl⟩ : ∃ q, k = q + 1 := ⟨k - 1, by omega⟩
        simp only [impl_CutOfSizes.l0]
        rw [if_pos (by omega), if_pos (by omega), if_pos (by omega), hwi]
        rfl
      · intro ha
        exact absurd (List.all_eq_true.1 ha _ hmem) hok
theorem both (l : List Int) (hl : l.length ≤ 1048576) : ∃ K r0 r1 r2, r1.length ≤ 1048576 ∧ ∀ k, K ≤ k → spec_CutOfSizes.f k l = some (r0, r1, r2) ∧ impl_CutOfSizes.f k l = some (r0, r1, r2) := by
  by_cases hin : 1 ≤ (l.length : Int) ∧ (l.length : Int) ≤ 10
  · obtain ⟨r0, r1, r2, h1, h2, h3, h4⟩ := size_rounds l (by omega) l.length 0 [] 1 (by omega) (by simp)
    rw [show ((0 : Nat) : Int) = 0 from rfl, List.drop_zero] at *
    refine ⟨l.length + 2, r0, r1, r2, by omega, fun k hk => ?_⟩
    obtain ⟨k, rfl⟩ : ∃ q, k = q + 1 := ⟨k - 1, by omega⟩
    have ha := all_rounds l hl l.length 0 (k + 1) (by omega) (by omega)
    rw [show ((0 : Nat) : Int) = 0 from rfl, List.drop_zero] at ha
    constructor
    · simp only [spec_CutOfSizes.f, l1In_tells, decide_eq_true hin, Option.bind_some, if_true, spec_l1All.f, ha, spec_CutOfSizes.j0]
      cases hall : l.all okS
      · obtain ⟨q0, q1, q2⟩ := h4 hall
        rw [q0, q1, q2]
        rfl
      · rw [if_neg (by simp)]
        exact h3 hall k (by omega)
    · simp only [impl_CutOfSizes.f, within_tells, decide_eq_true hin, Option.bind_some, if_true]
      exact h2 (k + 1) (by omega)
  · refine ⟨1, 0, [], false, by simp, fun k hk => ?_⟩
    obtain ⟨k, rfl⟩ : ∃ q, k = q + 1 := ⟨k - 1, by omega⟩
    simp [spec_CutOfSizes.f, impl_CutOfSizes.f, l1In_tells, within_tells, hin, spec_CutOfSizes.j0]

theorem FnExactCutOfSizes (l : List Int) (hm : l.length ≤ maxLen) (_ : l.length * 8 ≤ 140737488351232) (_ : ∀ x ∈ l, (Lit.int .i64 x).wf = true) : ∃ k, laws_FnExactCutOfSizes.f k l = some true := by
  by_cases hl : l.length ≤ 1048576
  · obtain ⟨K1, r0, r, ok, hrl, hb⟩ := both l hl
    obtain ⟨M, hM⟩ : ∃ M, M = K1 + (l.length + (r.length + 1)) := ⟨_, rfl⟩
    have b1 : ∀ j, spec_CutOfSizes.f (M + j) l = some (r0, r, ok) := fun j => (hb (M + j) (by omega)).1
    have b2 : ∀ j, impl_CutOfSizes.f (M + j) l = some (r0, r, ok) := fun j => (hb (M + j) (by omega)).2
    have b3 : ∀ j, laws_toIntS.f (M + j) l = some l := fun j => toI_tells l hl (M + j) (by omega)
    have b4 : ∀ j, laws_eqIntS.f (M + j) l l = some true := fun j => eqI_tells l hl (M + j) (by omega)
    have b5 : ∀ j, laws_eqDiagonalS.f (M + j) r r = some true := fun j => eqO72_tells r hrl (M + j) (by omega)
    have b6 : ∀ j, laws_markIntS.f (M + j) l 1 = _ := fun j => markI_tells l hl (M + j) (by omega)
    have b7 : ∀ j, laws_markDiagonalS.f (M + j) r 1 = _ := fun j => mark72_tells r hrl (M + j) (by omega)
    have b8 : ∀ j, laws_heldDiagonalS.f (M + j) (iota72 1 r.length) 1 = _ := fun j => held72_tells r.length hrl (M + j) (by omega)
    have j2 : laws_FnExactCutOfSizes.j2 (M + 2) (iota72 1 r.length) (1 + 2 * (r.length : Int)) false = some true := by
      simp only [laws_FnExactCutOfSizes.j2, b8, Option.bind_some, Bool.false_eq_true, if_false, if_true]
      rw [if_neg (by omega)]
    have j1 : laws_FnExactCutOfSizes.j1 (M + 3) l r0 r ok r false = some true := by
      simp only [laws_FnExactCutOfSizes.j1, b7, b8, b3, b2, b5, Option.bind_some, Bool.false_eq_true, if_false, if_true]
      rw [if_neg (by omega), bne_self_eq_false]
      exact j2
    have j0 : laws_FnExactCutOfSizes.j0 (M + 4) l r0 r ok l r0 r ok false = some true := by
      simp only [laws_FnExactCutOfSizes.j0, b3, b4, b5, b6, Option.bind_some, Bool.false_eq_true, if_false, if_true]
      rw [if_neg (by omega), bne_self_eq_false]
      exact j1
    refine ⟨M + 4, ?_⟩
    simp only [laws_FnExactCutOfSizes.f, b1, b2, b3, b5, Option.bind_some, if_true]
    rw [if_neg (by omega), bne_self_eq_false]
    exact j0
  · refine ⟨0, ?_⟩
    unfold laws_FnExactCutOfSizes.f
    rw [if_pos (by omega)]

end Go.Proofs.Ytnikefebkcminaa.PureFnExactCutOfSizes
