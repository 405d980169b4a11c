/- The program's FractionText and the reference's return the same for every pair of numbers: both write the two numbers in decimal with a stroke between them, the program by the library's Itoa, the reference digit by digit. No condition beyond what the statement says of the package-level variables. -/
import Derived.Test.YtnikefebkcminaaDoorPFnExactFractionTextx0
import Derived.Test.YtnikefebkcminaaDoorPFnExactFractionTextx1
import Derived.Test.YtnikefebkcminaaDoorPFnExactFractionTextx2
set_option linter.unusedSimpArgs false
set_option linter.unnecessarySimpa false
set_option linter.unusedVariables false
namespace Go.Proofs.YtnikefebkcminaaDoor.PureFnExactFractionText
open Go.RowKit Go.Proofs.YtnikefebkcminaaDoor.PFnExactFractionText Go.Proofs.YtnikefebkcminaaDoorW.PrintWords Go.Proofs.YtnikefebkcminaaDoorW.PrintLast

theorem Ev.at1 {α : Type} {g : Nat → Option α} {r : α} (h : Ev g r) : ∃ K, ∀ j, g (K + j) = some r := by
  obtain ⟨K, h⟩ := h
  exact ⟨K, fun j => h _ (by omega)⟩
theorem Ev.at2 {α β : Type} {g : Nat → Option α} {r : α} {g2 : Nat → Option β} {r2 : β} (h : Ev g r) (h2 : Ev g2 r2) : ∃ K, (∀ j, g (K + j) = some r) ∧ ∀ j, g2 (K + j) = some r2 := by
  obtain ⟨K, h⟩ := h
  obtain ⟨K2, h2⟩ := h2
  exact ⟨K + K2, fun j => h _ (by omega), fun j => h2 _ (by omega)⟩
theorem Ev.at3 {α β γ : Type} {g : Nat → Option α} {r : α} {g2 : Nat → Option β} {r2 : β} {g3 : Nat → Option γ} {r3 : γ} (h : Ev g r) (h2 : Ev g2 r2) (h3 : Ev g3 r3) :
    ∃ K, (∀ j, g (K + j) = some r) ∧ (∀ j, g2 (K + j) = some r2) ∧ ∀ j, g3 (K + j) = some r3 := by
  obtain ⟨K, h⟩ := h
  obtain ⟨K2, h2⟩ := h2
  obtain ⟨K3, h3⟩ := h3
  exact ⟨K + K2 + K3, fun j => h _ (by omega), fun j => h2 _ (by omega), fun j => h3 _ (by omega)⟩
theorem Ev.at4 {α β γ δ : Type} {g : Nat → Option α} {r : α} {g2 : Nat → Option β} {r2 : β} {g3 : Nat → Option γ} {r3 : γ} {g4 : Nat → Option δ} {r4 : δ} (h : Ev g r) (h2 : Ev g2 r2) (h3 : Ev g3 r3) (h4 : Ev g4 r4) :
    ∃ K, (∀ j, g (K + j) = some r) ∧ (∀ j, g2 (K + j) = some r2) ∧ (∀ j, g3 (K + j) = some r3) ∧ ∀ j, g4 (K + j) = some r4 := by
  obtain ⟨K, e1, e2, e3⟩ := Ev.at3 h h2 h3
  obtain ⟨K4, h4⟩ := h4
  exact ⟨K + K4, fun j => by rw [Nat.add_assoc]; exact e1 _, fun j => by rw [Nat.add_assoc]; exact e2 _, fun j => by rw [Nat.add_assoc]; exact e3 _, fun j => h4 _ (by omega)⟩
theorem Ev.all {α β : Type} {g : α → Nat → Option β} {r : α → β} (l : List α) (h : ∀ x, x ∈ l → Ev (g x) (r x)) : ∃ K, ∀ x, x ∈ l → ∀ k, K ≤ k → g x k = some (r x) := by
  induction l with
  | nil => exact ⟨0, fun x hx => by cases hx⟩
  | cons y l ih =>
    obtain ⟨K, hK⟩ := ih (fun x hx => h x (List.mem_cons_of_mem _ hx))
    obtain ⟨K2, hK2⟩ := h y (List.mem_cons_self ..)
    refine ⟨K + K2, fun x hx k hk => ?_⟩
    rcases List.mem_cons.1 hx with e | e
    · subst e
      exact hK2 k (by omega)
    · exact hK x e k (by omega)

/-- Is it a fraction: both numbers within bounds, without a common divisor. -/
def okF (a b : Int) : Bool := decide (0 ≤ a ∧ a ≤ 1000000) && (decide (0 ≤ b ∧ b ≤ 1000000) && (Nat.gcd a.toNat b.toNat == 1))

theorem within_tells (a b c : Int) : impl_within.f a b c = some (decide (b ≤ a ∧ a ≤ c)) := by
  unfold impl_within.f
  by_cases h : a ≥ b
  · rw [if_pos h]
    have : b ≤ a := h
    simp [this]
  · rw [if_neg h]
    have : ¬ b ≤ a := h
    simp [this]

theorem divisor_rounds (b : Nat) : ∀ (a k : Nat), b < k → impl_divisor.l0 k (a : Int) (b : Int) = some ((Nat.gcd a b : Nat) : Int) := by
  induction b using Nat.strongRecOn with
  | _ b ih =>
    intro a k hk
    obtain ⟨k, rfl⟩ : ∃ m, k = m + 1 := ⟨k - 1, by omega⟩
    simp only [impl_divisor.l0]
    by_cases h : b = 0
    · subst h
      simp
    · have hm : a % b < b := Nat.mod_lt _ (by omega)
      rw [if_neg (by omega), ← Int.ofNat_tmod, ih (a % b) hm b k (by omega), Nat.gcd_comm a b, Nat.gcd_rec b a, Nat.gcd_comm]

theorem divisor_tells (a b : Int) (ha : 0 ≤ a) (hb : 0 ≤ b) : Ev (fun k => impl_divisor.f k a b) ((Nat.gcd a.toNat b.toNat : Nat) : Int) := by
  refine ⟨b.toNat + 1, fun k hk => ?_⟩
  have h := divisor_rounds b.toNat a.toNat k (by omega)
  rw [Int.toNat_of_nonneg ha, Int.toNat_of_nonneg hb] at h
  exact h

theorem isFraction_tells (a b : Int) : Ev (fun k => impl_IsFraction.f k a b) (okF a b) := by
  by_cases h0 : 0 ≤ a ∧ a ≤ 1000000
  · by_cases h1 : 0 ≤ b ∧ b ≤ 1000000
    · obtain ⟨K, hd⟩ := divisor_tells a b h0.1 h1.1
      refine ⟨K, fun k hk => ?_⟩
      show impl_IsFraction.f k a b = _
      unfold impl_IsFraction.f
      have hd' : impl_divisor.f k a b = some ((Nat.gcd a.toNat b.toNat : Nat) : Int) := hd k hk
      rw [within_tells, within_tells, hd']
      simp only [h0, h1, and_self, decide_true, Option.bind_some, if_true, okF, Bool.true_and]
      congr 1
      rw [Bool.eq_iff_iff, beq_iff_eq, beq_iff_eq]
      omega
    · refine ⟨0, fun k _ => ?_⟩
      show impl_IsFraction.f k a b = _
      unfold impl_IsFraction.f
      rw [within_tells, within_tells]
      simp [h0, h1, okF]
  · refine ⟨0, fun k _ => ?_⟩
    show impl_IsFraction.f k a b = _
    unfold impl_IsFraction.f
    rw [within_tells]
    simp [h0, okF]


theorem l1In_tells (a b c : Int) : spec_l1In.f a b c = some (decide (b ≤ a ∧ a ≤ c)) := by
  unfold spec_l1In.f
  by_cases h : a ≥ b
  · rw [if_pos h]
    have : b ≤ a := h
    simp [this]
  · rw [if_neg h]
    have : ¬ b ≤ a := h
    simp [this]

theorem nbGood_rounds (b : Nat) : ∀ (a k : Nat), b < k → spec_nbGood.l0 k (a : Int) (b : Int) = some (Nat.gcd a b == 1) := by
  induction b using Nat.strongRecOn with
  | _ b ih =>
    intro a k hk
    obtain ⟨k, rfl⟩ : ∃ m, k = m + 1 := ⟨k - 1, by omega⟩
    simp only [spec_nbGood.l0]
    by_cases h : b = 0
    · subst h
      rw [if_neg (by omega), Nat.gcd_zero_right]
      congr 1
      rw [Bool.eq_iff_iff, beq_iff_eq, beq_iff_eq]
      omega
    · have hm : a % b < b := Nat.mod_lt _ (by omega)
      rw [if_pos (by omega), if_neg (by omega), ← Int.ofNat_tmod, ih (a % b) hm b k (by omega), Nat.gcd_comm a b, Nat.gcd_rec b a, Nat.gcd_comm]

theorem nbGood_tells (a b : Int) : Ev (fun k => spec_nbGood.f k a b) (okF a b) := by
  by_cases h0 : 0 ≤ a ∧ a ≤ 1000000
  · by_cases h1 : 0 ≤ b ∧ b ≤ 1000000
    · refine ⟨b.toNat + 2, fun k hk => ?_⟩
      obtain ⟨k, rfl⟩ : ∃ m, k = m + 1 := ⟨k - 1, by omega⟩
      show spec_nbGood.f (k + 1) a b = _
      unfold spec_nbGood.f
      rw [l1In_tells, l1In_tells]
      simp only [h0, h1, and_self, decide_true, Option.bind_some, if_true, okF, Bool.true_and, Bool.not_true, spec_nbGood.j0, Bool.false_eq_true, if_false]
      have h := nbGood_rounds b.toNat a.toNat k (by omega)
      rw [Int.toNat_of_nonneg h0.1, Int.toNat_of_nonneg h1.1] at h
      exact h
    · refine ⟨1, fun k hk => ?_⟩
      obtain ⟨k, rfl⟩ : ∃ m, k = m + 1 := ⟨k - 1, by omega⟩
      show spec_nbGood.f (k + 1) a b = _
      unfold spec_nbGood.f
      rw [l1In_tells, l1In_tells]
      simp [h0, h1, okF, spec_nbGood.j0]
  · refine ⟨1, fun k hk => ?_⟩
    obtain ⟨k, rfl⟩ : ∃ m, k = m + 1 := ⟨k - 1, by omega⟩
    show spec_nbGood.f (k + 1) a b = _
    unfold spec_nbGood.f
    rw [l1In_tells]
    simp [h0, okF, spec_nbGood.j0]

/-- The decimal numeral. -/
def numText (n : Nat) : ByteArray := ⟨(Lib.decDigits n).toArray⟩
theorem numText_small {n : Nat} (h : n < 10) : numText n = ⟨#[UInt8.ofNat (48 + n)]⟩ := by
  unfold numText
  rw [Lib.decDigits_one h]
theorem numText_step {n : Nat} (h : ¬ n < 10) : numText n = numText (n / 10) ++ ⟨#[UInt8.ofNat (48 + n % 10)]⟩ := by
  unfold numText
  rw [Lib.decDigits, dif_neg h]
  apply ByteArray.ext
  rw [ByteArray.data_append]
  simp
theorem numText_len : ∀ (d n : Nat), n < 10 ^ (d + 1) → (numText n).size ≤ d + 1
  | 0, n, h => by
    rw [numText_small (by simpa using h)]
    exact Nat.le_refl 1
  | d + 1, n, h => by
    by_cases c : n < 10
    · rw [numText_small c]
      show 1 ≤ d + 1 + 1
      omega
    · rw [numText_step c, ByteArray.size_append]
      have := numText_len d (n / 10) (by rw [Nat.pow_succ] at h; omega)
      have e : (⟨#[UInt8.ofNat (48 + n % 10)]⟩ : ByteArray).size = 1 := rfl
      omega
theorem numText_size {n : Nat} (h : n ≤ 1000000) : (numText n).size ≤ 7 := numText_len 6 n (by have : (10 : Nat) ^ 7 = 10000000 := rfl; omega)
theorem num_one (x : Nat) (h : x < 10) : strOfNums [(wrap64 (48 + (x : Int))) % 256] = ⟨#[UInt8.ofNat (48 + x)]⟩ := by
  have : wrap64 (48 + (x : Int)) % 256 = ((48 + x : Nat) : Int) := by unfold wrap64; omega
  rw [this]
  rfl
theorem l1Num_at : ∀ (k n : Nat), n ≤ 1000000000 → n < 10 ^ (k + 1) → spec_l1Num.f (k + 1) (n : Int) = some (numText n)
  | k, n, hn, hk => by
    unfold spec_l1Num.f
    by_cases c : n < 10
    · rw [if_pos (by omega), num_one n c, numText_small c]
    · rw [if_neg (by omega)]
      obtain ⟨k, rfl⟩ : ∃ q, k = q + 1 := by
        cases k with
        | zero => simp at hk; omega
        | succ q => exact ⟨q, rfl⟩
      have e1 : wrap64 (Int.tdiv (n : Int) 10) = ((n / 10 : Nat) : Int) := by
        rw [show Int.tdiv (n : Int) 10 = ((n / 10 : Nat) : Int) from rfl]
        unfold wrap64
        omega
      have e2 : Int.tmod (n : Int) 10 = ((n % 10 : Nat) : Int) := rfl
      have hs := numText_len 9 (n / 10) (by have : (10 : Nat) ^ 10 = 10000000000 := rfl; omega)
      have e : (⟨#[UInt8.ofNat (48 + n % 10)]⟩ : ByteArray).size = 1 := rfl
      rw [e1, l1Num_at k (n / 10) (by omega) (by rw [Nat.pow_succ] at hk; omega), e2]
      simp only [Option.bind_some]
      rw [num_one (n % 10) (by omega), if_pos (by omega), ← numText_step c]
theorem l1Num_tells (n : Int) (hn : 0 ≤ n ∧ n ≤ 1000000000) (k : Nat) (hk : 10 ≤ k) : spec_l1Num.f k n = some (numText n.toNat) := by
  obtain ⟨N, rfl⟩ : ∃ N : Nat, n = N := ⟨n.toNat, by omega⟩
  obtain ⟨q, rfl⟩ : ∃ q, k = q + 1 := ⟨k - 1, by omega⟩
  rw [l1Num_at q N (by omega) (Nat.lt_of_lt_of_le (show N < 10 ^ 10 by have : (10 : Nat) ^ 10 = 10000000000 := rfl; omega) (Nat.pow_le_pow_right (by omega) (by omega)))]
  rfl
theorem itoa_tells (n : Int) (hn : 0 ≤ n ∧ n ≤ 1000000000) : strconv_Itoa.f n = some (numText n.toNat) := by
  unfold strconv_Itoa.f
  rw [if_pos (by omega), Lib.itoa, if_neg (by omega)]
  rfl

theorem text_size {n : Int} (hn : 0 ≤ n ∧ n ≤ 1000000) : (numText n.toNat).size ≤ 7 := numText_size (by omega)
theorem FnExactFractionText (a b : Int) (_ : (Lit.int .i64 a).wf = true) (_ : (Lit.int .i64 b).wf = true) :
    ∃ k, laws_FnExactFractionText.f k a b = some true := by
  obtain ⟨K0, h0⟩ := nbGood_tells a b
  obtain ⟨K1, h1⟩ := isFraction_tells a b
  have h0' : spec_nbGood.f (K0 + K1 + 20) a b = some (okF a b) := h0 _ (by omega)
  have h1' : impl_IsFraction.f (K0 + K1 + 20) a b = some (okF a b) := h1 _ (by omega)
  refine ⟨K0 + K1 + 20, ?_⟩
  cases ho : okF a b with
  | false =>
    simp [laws_FnExactFractionText.f, laws_toFraction.f, spec_FractionText.f, impl_FractionText.f, h0', h1', ho]
  | true =>
    have hr : (0 ≤ a ∧ a ≤ 1000000) ∧ (0 ≤ b ∧ b ≤ 1000000) := by
      unfold okF at ho
      simp only [Bool.and_eq_true, decide_eq_true_eq] at ho
      exact ⟨ho.1, ho.2.1⟩
    have ea := l1Num_tells a (by omega) (K0 + K1 + 20) (by omega)
    have eb := l1Num_tells b (by omega) (K0 + K1 + 20) (by omega)
    have ia := itoa_tells a (by omega)
    have ib := itoa_tells b (by omega)
    have sa := text_size hr.1
    have sb := text_size hr.2
    simp only [laws_FnExactFractionText.f, laws_toFraction.f, spec_FractionText.f, impl_FractionText.f, h0', h1', ho, Option.bind_some, if_true, ea, eb, ia, ib]
    have s1 : (numText a.toNat).size + 1 ≤ 9223372036854775807 := by omega
    have s2 : (numText a.toNat ++ (⟨#[47]⟩ : ByteArray)).size + (numText b.toNat).size ≤ 9223372036854775807 := by
      rw [ByteArray.size_append]
      have : (⟨#[47]⟩ : ByteArray).size = 1 := rfl
      omega
    simp only [if_pos s1, if_pos s2, Option.bind_some, if_true]
    rfl

end Go.Proofs.YtnikefebkcminaaDoor.PureFnExactFractionText
