/- The program's FractionOfPath and the reference's return the same for every text: trimming the letters l and r leaves nothing just where there is no other letter; the reference stops at the first other letter, and both stop where a mediant is no fraction. No condition. -/
import Derived.Test.YtnikefebkcminaaDoorPFnExactFractionOfPathx0
import Derived.Test.YtnikefebkcminaaDoorPFnExactFractionOfPathx1
import Derived.Test.YtnikefebkcminaaDoorPFnExactFractionOfPathx2
set_option linter.unusedSimpArgs false
set_option linter.unnecessarySimpa false
set_option linter.unusedVariables false
namespace Go.Proofs.YtnikefebkcminaaDoor.PureFnExactFractionOfPath
open Go.RowKit Go.Proofs.YtnikefebkcminaaDoor.PFnExactFractionOfPath Go.Proofs.YtnikefebkcminaaDoorW.PrintWords Go.Proofs.YtnikefebkcminaaDoorW.PrintLast

theorem Ev.at1 {α : Type} {g : Nat → Option α} {r : α} (h : Ev g r) : ∃ K, ∀ j, g (K + j) = some r := by
  obtain ⟨K, h⟩ := h
  exact ⟨K, fun j => h _ (by omega)⟩
theorem Ev.at2 {α β : Type} {g : Nat → Option α} {r : α} {g2 : Nat → Option β} {r2 : β} (h : Ev g r) (h2 : Ev g2 r2) : ∃ K, (∀ j, g (K + j) = some r) ∧ ∀ j, g2 (K + j) = some r2 := by
  obtain ⟨K, h⟩ := h
  obtain ⟨K2, h2⟩ := h2
  exact ⟨K + K2, fun j => h _ (by omega), fun j => h2 _ (by omega)⟩
theorem Ev.at3 {α β γ : Type} {g : Nat → Option α} {r : α} {g2 : Nat → Option β} {r2 : β} {g3 : Nat → Option γ} {r3 : γ} (h : Ev g r) (h2 : Ev g2 r2) (h3 : Ev g3 r3) :
    ∃ K, (∀ j, g (K + j) = some r) ∧ (∀ j, g2 (K + j) = some r2) ∧ ∀ j, g3 (K + j) = some r3 := by
  obtain ⟨K, h⟩ := h
  obtain ⟨K2, h2⟩ := h2
  obtain ⟨K3, h3⟩ := h3
  exact ⟨K + K2 + K3, fun j => h _ (by omega), fun j => h2 _ (by omega), fun j => h3 _ (by omega)⟩
theorem Ev.at4 {α β γ δ : Type} {g : Nat → Option α} {r : α} {g2 : Nat → Option β} {r2 : β} {g3 : Nat → Option γ} {r3 : γ} {g4 : Nat → Option δ} {r4 : δ} (h : Ev g r) (h2 : Ev g2 r2) (h3 : Ev g3 r3) (h4 : Ev g4 r4) :
    ∃ K, (∀ j, g (K + j) = some r) ∧ (∀ j, g2 (K + j) = some r2) ∧ (∀ j, g3 (K + j) = some r3) ∧ ∀ j, g4 (K + j) = some r4 := by
  obtain ⟨K, e1, e2, e3⟩ := Ev.at3 h h2 h3
  obtain ⟨K4, h4⟩ := h4
  exact ⟨K + K4, fun j => by rw [Nat.add_assoc]; exact e1 _, fun j => by rw [Nat.add_assoc]; exact e2 _, fun j => by rw [Nat.add_assoc]; exact e3 _, fun j => h4 _ (by omega)⟩
theorem Ev.all {α β : Type} {g : α → Nat → Option β} {r : α → β} (l : List α) (h : ∀ x, x ∈ l → Ev (g x) (r x)) : ∃ K, ∀ x, x ∈ l → ∀ k, K ≤ k → g x k = some (r x) := by
  induction l with
  | nil => exact ⟨0, fun x hx => by cases hx⟩
  | cons y l ih =>
    obtain ⟨K, hK⟩ := ih (fun x hx => h x (List.mem_cons_of_mem _ hx))
    obtain ⟨K2, hK2⟩ := h y (List.mem_cons_self ..)
    refine ⟨K + K2, fun x hx k hk => ?_⟩
    rcases List.mem_cons.1 hx with e | e
    · subst e
      exact hK2 k (by omega)
    · exact hK x e k (by omega)

/-- Is it a fraction: both numbers within bounds, without a common divisor. -/
def okF (a b : Int) : Bool := decide (0 ≤ a ∧ a ≤ 1000000) && (decide (0 ≤ b ∧ b ≤ 1000000) && (Nat.gcd a.toNat b.toNat == 1))

theorem within_tells (a b c : Int) : impl_within.f a b c = some (decide (b ≤ a ∧ a ≤ c)) := by
  unfold impl_within.f
  by_cases h : a ≥ b
  · rw [if_pos h]
    have : b ≤ a := h
    simp [this]
  · rw [if_neg h]
    have : ¬ b ≤ a := h
    simp [this]

theorem divisor_rounds (b : Nat) : ∀ (a k : Nat), b < k → impl_divisor.l0 k (a : Int) (b : Int) = some ((Nat.gcd a b : Nat) : Int) := by
  induction b using Nat.strongRecOn with
  | _ b ih =>
    intro a k hk
    obtain ⟨k, rfl⟩ : ∃ m, k = m + 1 := ⟨k - 1, by omega⟩
    simp only [impl_divisor.l0]
    by_cases h : b = 0
    · subst h
      simp
    · have hm : a % b < b := Nat.mod_lt _ (by omega)
      rw [if_neg (by omega), ← Int.ofNat_tmod, ih (a % b) hm b k (by omega), Nat.gcd_comm a b, Nat.gcd_rec b a, Nat.gcd_comm]

theorem divisor_tells (a b : Int) (ha : 0 ≤ a) (hb : 0 ≤ b) : Ev (fun k => impl_divisor.f k a b) ((Nat.gcd a.toNat b.toNat : Nat) : Int) := by
  refine ⟨b.toNat + 1, fun k hk => ?_⟩
  have h := divisor_rounds b.toNat a.toNat k (by omega)
  rw [Int.toNat_of_nonneg ha, Int.toNat_of_nonneg hb] at h
  exact h

theorem isFraction_tells (a b : Int) : Ev (fun k => impl_IsFraction.f k a b) (okF a b) := by
  by_cases h0 : 0 ≤ a ∧ a ≤ 1000000
  · by_cases h1 : 0 ≤ b ∧ b ≤ 1000000
    · obtain ⟨K, hd⟩ := divisor_tells a b h0.1 h1.1
      refine ⟨K, fun k hk => ?_⟩
      show impl_IsFraction.f k a b = _
      unfold impl_IsFraction.f
      have hd' : impl_divisor.f k a b = some ((Nat.gcd a.toNat b.toNat : Nat) : Int) := hd k hk
      rw [within_tells, within_tells, hd']
      simp only [h0, h1, and_self, decide_true, Option.bind_some, if_true, okF, Bool.true_and]
      congr 1
      rw [Bool.eq_iff_iff, beq_iff_eq, beq_iff_eq]
      omega
    · refine ⟨0, fun k _ => ?_⟩
      show impl_IsFraction.f k a b = _
      unfold impl_IsFraction.f
      rw [within_tells, within_tells]
      simp [h0, h1, okF]
  · refine ⟨0, fun k _ => ?_⟩
    show impl_IsFraction.f k a b = _
    unfold impl_IsFraction.f
    rw [within_tells]
    simp [h0, okF]


theorem l1In_tells (a b c : Int) : spec_l1In.f a b c = some (decide (b ≤ a ∧ a ≤ c)) := by
  unfold spec_l1In.f
  by_cases h : a ≥ b
  · rw [if_pos h]
    have : b ≤ a := h
    simp [this]
  · rw [if_neg h]
    have : ¬ b ≤ a := h
    simp [this]

theorem nbGood_rounds (b : Nat) : ∀ (a k : Nat), b < k → spec_nbGood.l0 k (a : Int) (b : Int) = some (Nat.gcd a b == 1) := by
  induction b using Nat.strongRecOn with
  | _ b ih =>
    intro a k hk
    obtain ⟨k, rfl⟩ : ∃ m, k = m + 1 := ⟨k - 1, by omega⟩
    simp only [spec_nbGood.l0]
    by_cases h : b = 0
    · subst h
      rw [if_neg (by omega), Nat.gcd_zero_right]
      congr 1
      rw [Bool.eq_iff_iff, beq_iff_eq, beq_iff_eq]
      omega
    · have hm : a % b < b := Nat.mod_lt _ (by omega)
      rw [if_pos (by omega), if_neg (by omega), ← Int.ofNat_tmod, ih (a % b) hm b k (by omega), Nat.gcd_comm a b, Nat.gcd_rec b a, Nat.gcd_comm]

theorem nbGood_tells (a b : Int) : Ev (fun k => spec_nbGood.f k a b) (okF a b) := by
  by_cases h0 : 0 ≤ a ∧ a ≤ 1000000
  · by_cases h1 : 0 ≤ b ∧ b ≤ 1000000
    · refine ⟨b.toNat + 2, fun k hk => ?_⟩
      obtain ⟨k, rfl⟩ : ∃ m, k = m + 1 := ⟨k - 1, by omega⟩
      show spec_nbGood.f (k + 1) a b = _
      unfold spec_nbGood.f
      rw [l1In_tells, l1In_tells]
      simp only [h0, h1, and_self, decide_true, Option.bind_some, if_true, okF, Bool.true_and, Bool.not_true, spec_nbGood.j0, Bool.false_eq_true, if_false]
      have h := nbGood_rounds b.toNat a.toNat k (by omega)
      rw [Int.toNat_of_nonneg h0.1, Int.toNat_of_nonneg h1.1] at h
      exact h
    · refine ⟨1, fun k hk => ?_⟩
      obtain ⟨k, rfl⟩ : ∃ m, k = m + 1 := ⟨k - 1, by omega⟩
      show spec_nbGood.f (k + 1) a b = _
      unfold spec_nbGood.f
      rw [l1In_tells, l1In_tells]
      simp [h0, h1, okF, spec_nbGood.j0]
  · refine ⟨1, fun k hk => ?_⟩
    obtain ⟨k, rfl⟩ : ∃ m, k = m + 1 := ⟨k - 1, by omega⟩
    show spec_nbGood.f (k + 1) a b = _
    unfold spec_nbGood.f
    rw [l1In_tells]
    simp [h0, okF, spec_nbGood.j0]

theorem dropWhile_nil {α : Type} (p : α → Bool) : ∀ l : List α, l.dropWhile p = [] ↔ ∀ x ∈ l, p x = true
  | [] => by simp
  | y :: l => by
    rw [List.dropWhile_cons]
    by_cases h : p y = true
    · rw [if_pos h, dropWhile_nil p l]
      simp [h]
    · rw [if_neg h]
      simp [h]
theorem trim_nil (l cs : List UInt8) : Lib.trimS l cs = [] ↔ ∀ x ∈ l, cs.contains x = true := by
  unfold Lib.trimS Lib.trimLeftS Lib.trimRightS
  rw [dropWhile_nil]
  constructor
  · intro h
    have h1 : l.reverse.dropWhile (cs.contains ·) = [] := by
      cases hd : l.reverse.dropWhile (cs.contains ·) with
      | nil => rfl
      | cons y r =>
        have hy := h y (by rw [hd]; simp)
        have hn := List.head_dropWhile_not (l := l.reverse) (cs.contains ·) (by rw [hd]; simp)
        simp only [hd, List.head_cons] at hn
        rw [hy] at hn
        cases hn
    rw [dropWhile_nil] at h1
    exact fun x hx => h1 x (List.mem_reverse.2 hx)
  · intro h x hx
    have h1 : x ∈ l.reverse := List.dropWhile_suffix _ |>.subset (List.mem_reverse.1 hx)
    exact h x (List.mem_reverse.1 h1)
theorem wrap_succ' (i : Nat) (h : i < 100) : wrap64 ((i : Int) + 1) = ((i + 1 : Nat) : Int) := by unfold wrap64; omega
def goodL (s : ByteArray) (i : Nat) : Bool := decide (bt s (i : Int) = 108 ∨ bt s (i : Int) = 114)
theorem bt_val (s : ByteArray) (i : Nat) (h : i < s.size) : bt s (i : Int) = ((s.data.toList[i]'(by simpa using h)).toNat : Int) := by
  unfold bt
  rw [dif_pos (by simpa using h)]
  rfl
theorem good_all (s : ByteArray) : (∀ x ∈ s.data.toList, ([108, 114] : List UInt8).contains x = true) ↔ ∀ i, i < s.size → goodL s i = true := by
  have key : ∀ x : UInt8, ([108, 114] : List UInt8).contains x = true ↔ (x.toNat : Int) = 108 ∨ (x.toNat : Int) = 114 := by
    intro x
    simp only [List.contains_cons, List.contains_nil, Bool.or_false, Bool.or_eq_true, beq_iff_eq]
    constructor
    · rintro (rfl | rfl)
      · exact .inl rfl
      · exact .inr rfl
    · rintro (h | h)
      · exact .inl (UInt8.toNat_inj.1 (by show x.toNat = 108; omega))
      · exact .inr (UInt8.toNat_inj.1 (by show x.toNat = 114; omega))
  constructor
  · intro h i hi
    unfold goodL
    rw [decide_eq_true_eq, bt_val s i hi]
    exact (key _).1 (h _ (List.getElem_mem _))
  · intro h x hx
    obtain ⟨i, hi, rfl⟩ := List.getElem_of_mem hx
    have := h i (by simpa using hi)
    unfold goodL at this
    rw [decide_eq_true_eq, bt_val s i (by simpa using hi)] at this
    exact (key _).2 this
theorem isWord_tells (s : ByteArray) (h : s.size ≤ 100) : impl_isWord.f s 100 = some (decide (∀ i, i < s.size → goodL s i = true)) := by
  unfold impl_isWord.f strings_Trim.f
  rw [if_pos (by omega), if_pos ⟨by omega, by decide, by decide⟩, Option.bind_some]
  congr 1
  have e : (⟨(Lib.trimS s.data.toList ([108, 114] : List UInt8)).toArray⟩ : ByteArray).toList = Lib.trimS s.data.toList [108, 114] := by
    rw [Lib.toList_data]
  rw [Bool.eq_iff_iff, beq_iff_eq, decide_eq_true_eq, ← good_all, ← trim_nil]
  constructor
  · intro h1
    rw [← e]
    exact h1
  · intro h1
    rw [← e] at h1
    exact h1
theorem rounds_same (s : ByteArray) (h : s.size ≤ 100) (hg : ∀ i, i < s.size → goodL s i = true) (e : Nat) : ∀ (i : Nat) (a0 a1 b0 b1 : Int), i + e = s.size →
    ∃ K r, ∀ k, K ≤ k → spec_FractionOfPath.l0 k s (i : Int) a0 a1 b0 b1 = some r ∧ impl_FractionOfPath.l0 s k (s.size : Int) (i : Int) a0 a1 b0 b1 = some r := by
  induction e with
  | zero =>
    intro i a0 a1 b0 b1 hi
    obtain ⟨K1, h1⟩ := nbGood_tells (wrap64 (a0 + b0)) (wrap64 (a1 + b1))
    obtain ⟨K2, h2⟩ := isFraction_tells (wrap64 (a0 + b0)) (wrap64 (a1 + b1))
    have n1 : ¬ (i : Int) < (s.size : Int) := by omega
    refine ⟨K1 + K2 + 1, if okF (wrap64 (a0 + b0)) (wrap64 (a1 + b1)) = true then (wrap64 (a0 + b0), wrap64 (a1 + b1), true) else (0, 0, false), fun k hk => ?_⟩
    obtain ⟨k, rfl⟩ : ∃ q, k = q + 1 := ⟨k - 1, by omega⟩
    have g1 : spec_nbGood.f k (wrap64 (a0 + b0)) (wrap64 (a1 + b1)) = _ := h1 k (by omega)
    have g2 : impl_IsFraction.f k (wrap64 (a0 + b0)) (wrap64 (a1 + b1)) = _ := h2 k (by omega)
    simp only [spec_FractionOfPath.l0, impl_FractionOfPath.l0]
    rw [if_neg n1, if_neg n1]
    simp only [spec_nbMediant.f, impl_mediant.f, Option.bind_some, g1, g2]
    cases okF (wrap64 (a0 + b0)) (wrap64 (a1 + b1)) with
    | true => exact ⟨rfl, rfl⟩
    | false => exact ⟨rfl, rfl⟩
  | succ e ih =>
    intro i a0 a1 b0 b1 hi
    obtain ⟨K1, h1⟩ := nbGood_tells (wrap64 (a0 + b0)) (wrap64 (a1 + b1))
    obtain ⟨K2, h2⟩ := isFraction_tells (wrap64 (a0 + b0)) (wrap64 (a1 + b1))
    have n1 : (i : Int) < (s.size : Int) := by omega
    have n0 : 0 ≤ (i : Int) := by omega
    have i100 : i < 100 := by omega
    have hgi := hg i (by omega)
    unfold goodL at hgi
    rw [decide_eq_true_eq] at hgi
    have w := wrap_succ' i i100
    cases hok : okF (wrap64 (a0 + b0)) (wrap64 (a1 + b1)) with
    | false =>
      refine ⟨K1 + K2 + 3, (0, 0, false), fun k hk => ?_⟩
      obtain ⟨k, rfl⟩ : ∃ q, k = q + 1 := ⟨k - 1, by omega⟩
      obtain ⟨k, rfl⟩ : ∃ q, k = q + 1 := ⟨k - 1, by omega⟩
      have g1 : spec_nbGood.f (k + 1) (wrap64 (a0 + b0)) (wrap64 (a1 + b1)) = _ := h1 (k + 1) (by omega)
      have g2 : impl_IsFraction.f (k + 1) (wrap64 (a0 + b0)) (wrap64 (a1 + b1)) = _ := h2 (k + 1) (by omega)
      rw [hok] at g1 g2
      constructor
      · simp only [spec_FractionOfPath.l0, spec_FractionOfPath.j1, spec_nbMediant.f, Option.bind_some, g1]
        rw [if_pos n1, if_neg (by simp), if_pos trivial]
      · simp only [impl_FractionOfPath.l0, impl_mediant.f, Option.bind_some, g2]
        rw [if_pos n1, if_pos n0, if_pos n1, if_neg (by simp)]
    | true =>
      by_cases hb : bt s (i : Int) = 108
      · obtain ⟨K3, r, h3⟩ := ih (i + 1) a0 a1 (wrap64 (a0 + b0)) (wrap64 (a1 + b1)) (by omega)
        refine ⟨K1 + K2 + K3 + 3, r, fun k hk => ?_⟩
        obtain ⟨k, rfl⟩ : ∃ q, k = q + 1 := ⟨k - 1, by omega⟩
        obtain ⟨k, rfl⟩ : ∃ q, k = q + 1 := ⟨k - 1, by omega⟩
        have g1 : spec_nbGood.f (k + 1) (wrap64 (a0 + b0)) (wrap64 (a1 + b1)) = _ := h1 (k + 1) (by omega)
        have g2 : impl_IsFraction.f (k + 1) (wrap64 (a0 + b0)) (wrap64 (a1 + b1)) = _ := h2 (k + 1) (by omega)
        rw [hok] at g1 g2
        constructor
        · simp only [spec_FractionOfPath.l0, spec_FractionOfPath.j1, spec_nbMediant.f, Option.bind_some, g1]
          rw [if_pos n1, if_pos trivial, if_pos n0, if_pos hb, if_neg (by simp), if_pos n0, if_pos n1, if_pos hb, w]
          exact (h3 k (by omega)).1
        · simp only [impl_FractionOfPath.l0, impl_mediant.f, Option.bind_some, g2]
          rw [if_pos n1, if_pos n0, if_pos n1, if_pos trivial, if_pos hb, w]
          exact (h3 (k + 1) (by omega)).2
      · obtain ⟨K3, r, h3⟩ := ih (i + 1) (wrap64 (a0 + b0)) (wrap64 (a1 + b1)) b0 b1 (by omega)
        have hb2 : bt s (i : Int) = 114 := by omega
        refine ⟨K1 + K2 + K3 + 3, r, fun k hk => ?_⟩
        obtain ⟨k, rfl⟩ : ∃ q, k = q + 1 := ⟨k - 1, by omega⟩
        obtain ⟨k, rfl⟩ : ∃ q, k = q + 1 := ⟨k - 1, by omega⟩
        have g1 : spec_nbGood.f (k + 1) (wrap64 (a0 + b0)) (wrap64 (a1 + b1)) = _ := h1 (k + 1) (by omega)
        have g2 : impl_IsFraction.f (k + 1) (wrap64 (a0 + b0)) (wrap64 (a1 + b1)) = _ := h2 (k + 1) (by omega)
        rw [hok] at g1 g2
        have hne : (bt s (i : Int) != 114) = false := by rw [hb2]; rfl
        constructor
        · simp only [spec_FractionOfPath.l0, spec_FractionOfPath.j1, spec_nbMediant.f, Option.bind_some, g1]
          rw [if_pos n1, if_pos trivial, if_pos n0, if_neg hb, hne, if_neg (by simp), if_pos n0, if_pos n1, if_neg hb, w]
          exact (h3 k (by omega)).1
        · simp only [impl_FractionOfPath.l0, impl_mediant.f, Option.bind_some, g2]
          rw [if_pos n1, if_pos n0, if_pos n1, if_pos trivial, if_neg hb, w]
          exact (h3 (k + 1) (by omega)).2
theorem rounds_bad (s : ByteArray) (h : s.size ≤ 100) (j : Nat) (hj : j < s.size) (hb : goodL s j = false) (e : Nat) : ∀ (i : Nat) (a0 a1 b0 b1 : Int), i + e = j →
    ∃ K, ∀ k, K ≤ k → spec_FractionOfPath.l0 k s (i : Int) a0 a1 b0 b1 = some (0, 0, false) := by
  unfold goodL at hb
  rw [decide_eq_false_iff_not] at hb
  induction e with
  | zero =>
    intro i a0 a1 b0 b1 hi
    obtain rfl : i = j := by omega
    obtain ⟨K1, h1⟩ := nbGood_tells (wrap64 (a0 + b0)) (wrap64 (a1 + b1))
    have n1 : (i : Int) < (s.size : Int) := by omega
    have n0 : 0 ≤ (i : Int) := by omega
    refine ⟨K1 + 3, fun k hk => ?_⟩
    obtain ⟨k, rfl⟩ : ∃ q, k = q + 1 := ⟨k - 1, by omega⟩
    obtain ⟨k, rfl⟩ : ∃ q, k = q + 1 := ⟨k - 1, by omega⟩
    have g1 : spec_nbGood.f (k + 1) (wrap64 (a0 + b0)) (wrap64 (a1 + b1)) = _ := h1 (k + 1) (by omega)
    have hne : (bt s (i : Int) != 114) = true := by rw [bne_iff_ne]; omega
    simp only [spec_FractionOfPath.l0, spec_FractionOfPath.j1, spec_nbMediant.f, Option.bind_some, g1]
    rw [if_pos n1]
    cases okF (wrap64 (a0 + b0)) (wrap64 (a1 + b1)) with
    | false => rw [if_neg (by simp)]; simp
    | true => rw [if_pos rfl, if_pos n0, if_neg (by omega), hne]; simp
  | succ e ih =>
    intro i a0 a1 b0 b1 hi
    obtain ⟨K1, h1⟩ := nbGood_tells (wrap64 (a0 + b0)) (wrap64 (a1 + b1))
    obtain ⟨K3, h3⟩ := ih (i + 1) a0 a1 (wrap64 (a0 + b0)) (wrap64 (a1 + b1)) (by omega)
    obtain ⟨K4, h4⟩ := ih (i + 1) (wrap64 (a0 + b0)) (wrap64 (a1 + b1)) b0 b1 (by omega)
    have n1 : (i : Int) < (s.size : Int) := by omega
    have n0 : 0 ≤ (i : Int) := by omega
    have i100 : i < 100 := by omega
    have w := wrap_succ' i i100
    refine ⟨K1 + K3 + K4 + 3, fun k hk => ?_⟩
    obtain ⟨k, rfl⟩ : ∃ q, k = q + 1 := ⟨k - 1, by omega⟩
    obtain ⟨k, rfl⟩ : ∃ q, k = q + 1 := ⟨k - 1, by omega⟩
    have g1 : spec_nbGood.f (k + 1) (wrap64 (a0 + b0)) (wrap64 (a1 + b1)) = _ := h1 (k + 1) (by omega)
    simp only [spec_FractionOfPath.l0, spec_FractionOfPath.j1, spec_nbMediant.f, Option.bind_some, g1]
    rw [if_pos n1]
    cases okF (wrap64 (a0 + b0)) (wrap64 (a1 + b1)) with
    | false => rw [if_neg (by simp)]; simp
    | true =>
      rw [if_pos rfl, if_pos n0]
      by_cases hc : bt s (i : Int) = 108
      · rw [if_pos hc, if_neg (by simp), if_pos n0, if_pos n1, if_pos hc, w]
        exact h3 k (by omega)
      · rw [if_neg hc]
        cases hne : bt s (i : Int) != 114 with
        | true => rw [if_pos rfl]
        | false =>
          rw [if_neg (by simp), if_pos n0, if_pos n1, if_neg hc, w]
          exact h4 k (by omega)
/-- What both return. -/
theorem both (s : ByteArray) : ∃ K r, ∀ k, K ≤ k → spec_FractionOfPath.f k s = some r ∧ impl_FractionOfPath.f k s = some r := by
  by_cases h : s.size ≤ 100
  · have n1 : ¬ (s.size : Int) > 100 := by omega
    by_cases hg : ∀ i, i < s.size → goodL s i = true
    · obtain ⟨K, r, hr⟩ := rounds_same s h hg s.size 0 0 1 1 0 (by omega)
      refine ⟨K, r, fun k hk => ?_⟩
      obtain ⟨g1, g2⟩ := hr k hk
      constructor
      · unfold spec_FractionOfPath.f
        rw [if_neg n1]
        exact g1
      · unfold impl_FractionOfPath.f
        rw [isWord_tells s h, decide_eq_true hg, Option.bind_some, if_pos rfl]
        exact g2
    · obtain ⟨j, hj, hb⟩ : ∃ j, j < s.size ∧ goodL s j = false := by
        apply Classical.byContradiction
        intro hno
        refine hg (fun i hi => ?_)
        cases hb : goodL s i
        · exact absurd ⟨i, hi, hb⟩ hno
        · rfl
      obtain ⟨K, hr⟩ := rounds_bad s h j hj hb j 0 0 1 1 0 (by omega)
      refine ⟨K, (0, 0, false), fun k hk => ⟨?_, ?_⟩⟩
      · unfold spec_FractionOfPath.f
        rw [if_neg n1]
        exact hr k hk
      · unfold impl_FractionOfPath.f
        rw [isWord_tells s h, decide_eq_false hg, Option.bind_some, if_neg (by simp)]
  · have n1 : (s.size : Int) > 100 := by omega
    refine ⟨0, (0, 0, false), fun k _ => ⟨?_, ?_⟩⟩
    · unfold spec_FractionOfPath.f
      rw [if_pos n1]
    · unfold impl_FractionOfPath.f impl_isWord.f
      rw [if_neg (by omega), Option.bind_some, if_neg (by simp)]
theorem FnExactFractionOfPath (s : ByteArray) (_ : s.size ≤ 140737488351232) : ∃ k, laws_FnExactFractionOfPath.f k s = some true := by
  unfold laws_FnExactFractionOfPath.f
  by_cases h : (s.size : Int) > 1048576
  · exact ⟨0, by rw [if_pos h]⟩
  · obtain ⟨K, r, hr⟩ := both s
    obtain ⟨g1, g2⟩ := hr K (Nat.le_refl _)
    refine ⟨K, ?_⟩
    rw [if_neg h, g1, g2, Option.bind_some, Option.bind_some]
    unfold laws_eqFraction.f
    rw [if_pos rfl, if_pos rfl, Option.bind_some, if_pos rfl, bne_self_eq_false, if_neg (by simp)]

end Go.Proofs.YtnikefebkcminaaDoor.PureFnExactFractionOfPath
