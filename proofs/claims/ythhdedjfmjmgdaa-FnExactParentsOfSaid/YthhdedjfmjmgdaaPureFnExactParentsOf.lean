/- The program's ParentsOf and the reference's return the same for every two numbers: both ask for a fraction with both numbers above zero, and both walk down from 0/1 and 1/0 by the same steps, which keep a b' - a' b = 1 and the fraction between; the reference's question whether the mediant is the fraction is the program's whether both crosses are equal. No condition. -/
import Derived.Test.YthhdedjfmjmgdaaPFnExactParentsOfx0
import Derived.Test.YthhdedjfmjmgdaaPFnExactParentsOfx1
import Derived.Test.YthhdedjfmjmgdaaPFnExactParentsOfx2
import Derived.Test.YthhdedjfmjmgdaaPFnExactParentsOfx3
import Derived.Test.YthhdedjfmjmgdaaPFnExactParentsOfx4
import Derived.Test.YthhdedjfmjmgdaaPFnExactParentsOfx5
import Derived.Test.YthhdedjfmjmgdaaPFnExactParentsOfx6
set_option linter.unusedSimpArgs false
set_option linter.unusedVariables false
namespace Go.Proofs.Ythhdedjfmjmgdaa.PureFnExactParentsOf
open Go.RowKit Go.Proofs.Ythhdedjfmjmgdaa.PFnExactParentsOf Go.Proofs.YthhdedjfmjmgdaaW.PrintWords Go.Proofs.YthhdedjfmjmgdaaW.PrintLast

theorem Ev.at1 {α : Type} {g : Nat → Option α} {r : α} (h : Ev g r) : ∃ K, ∀ j, g (K + j) = some r := by
  obtain ⟨K, h⟩ := h
  exact ⟨K, fun j => h _ (by omega)⟩
theorem Ev.at2 {α β : Type} {g : Nat → Option α} {r : α} {g2 : Nat → Option β} {r2 : β} (h : Ev g r) (h2 : Ev g2 r2) : ∃ K, (∀ j, g (K + j) = some r) ∧ ∀ j, g2 (K + j) = some r2 := by
  obtain ⟨K, h⟩ := h
  obtain ⟨K2, h2⟩ := h2
  exact ⟨K + K2, fun j => h _ (by omega), fun j => h2 _ (by omega)⟩
theorem Ev.at3 {α β γ : Type} {g : Nat → Option α} {r : α} {g2 : Nat → Option β} {r2 : β} {g3 : Nat → Option γ} {r3 : γ} (h : Ev g r) (h2 : Ev g2 r2) (h3 : Ev g3 r3) :
    ∃ K, (∀ j, g (K + j) = some r) ∧ (∀ j, g2 (K + j) = some r2) ∧ ∀ j, g3 (K + j) = some r3 := by
  obtain ⟨K, h⟩ := h
  obtain ⟨K2, h2⟩ := h2
  obtain ⟨K3, h3⟩ := h3
  exact ⟨K + K2 + K3, fun j => h _ (by omega), fun j => h2 _ (by omega), fun j => h3 _ (by omega)⟩
theorem Ev.at4 {α β γ δ : Type} {g : Nat → Option α} {r : α} {g2 : Nat → Option β} {r2 : β} {g3 : Nat → Option γ} {r3 : γ} {g4 : Nat → Option δ} {r4 : δ} (h : Ev g r) (h2 : Ev g2 r2) (h3 : Ev g3 r3) (h4 : Ev g4 r4) :
    ∃ K, (∀ j, g (K + j) = some r) ∧ (∀ j, g2 (K + j) = some r2) ∧ (∀ j, g3 (K + j) = some r3) ∧ ∀ j, g4 (K + j) = some r4 := by
  obtain ⟨K, e1, e2, e3⟩ := Ev.at3 h h2 h3
  obtain ⟨K4, h4⟩ := h4
  exact ⟨K + K4, fun j => by rw [Nat.add_assoc]; exact e1 _, fun j => by rw [Nat.add_assoc]; exact e2 _, fun j => by rw [Nat.add_assoc]; exact e3 _, fun j => h4 _ (by omega)⟩
theorem Ev.all {α β : Type} {g : α → Nat → Option β} {r : α → β} (l : List α) (h : ∀ x, x ∈ l → Ev (g x) (r x)) : ∃ K, ∀ x, x ∈ l → ∀ k, K ≤ k → g x k = some (r x) := by
  induction l with
  | nil => exact ⟨0, fun x hx => by cases hx⟩
  | cons y l ih =>
    obtain ⟨K, hK⟩ := ih (fun x hx => h x (List.mem_cons_of_mem _ hx))
    obtain ⟨K2, hK2⟩ := h y (List.mem_cons_self ..)
    refine ⟨K + K2, fun x hx k hk => ?_⟩
    rcases List.mem_cons.1 hx with e | e
    · subst e
      exact hK2 k (by omega)
    · exact hK x e k (by omega)

/-- Is it a fraction: both numbers within bounds, without a common divisor. -/
def okF (a b : Int) : Bool := decide (0 ≤ a ∧ a ≤ 1000000) && (decide (0 ≤ b ∧ b ≤ 1000000) && (Nat.gcd a.toNat b.toNat == 1))

theorem within_tells (a b c : Int) : impl_within.f a b c = some (decide (b ≤ a ∧ a ≤ c)) := by
  unfold impl_within.f
  by_cases h : a ≥ b
  · rw [if_pos h]
    have : b ≤ a := h
    simp [this]
  · rw [if_neg h]
    have : ¬ b ≤ a := h
    simp [this]

theorem divisor_rounds (b : Nat) : ∀ (a k : Nat), b < k → impl_divisor.l0 k (a : Int) (b : Int) = some ((Nat.gcd a b : Nat) : Int) := by
  induction b using Nat.strongRecOn with
  | _ b ih =>
    intro a k hk
    obtain ⟨k, rfl⟩ : ∃ m, k = m + 1 := ⟨k - 1, by omega⟩
    simp only [impl_divisor.l0]
    by_cases h : b = 0
    · subst h
      simp
    · have hm : a % b < b := Nat.mod_lt _ (by omega)
      rw [if_neg (by omega), ← Int.ofNat_tmod, ih (a % b) hm b k (by omega), Nat.gcd_comm a b, Nat.gcd_rec b a, Nat.gcd_comm]

theorem divisor_tells (a b : Int) (ha : 0 ≤ a) (hb : 0 ≤ b) : Ev (fun k => impl_divisor.f k a b) ((Nat.gcd a.toNat b.toNat : Nat) : Int) := by
  refine ⟨b.toNat + 1, fun k hk => ?_⟩
  have h := divisor_rounds b.toNat a.toNat k (by omega)
  rw [Int.toNat_of_nonneg ha, Int.toNat_of_nonneg hb] at h
  exact h

theorem isFraction_tells (a b : Int) : Ev (fun k => impl_IsFraction.f k a b) (okF a b) := by
  by_cases h0 : 0 ≤ a ∧ a ≤ 1000000
  · by_cases h1 : 0 ≤ b ∧ b ≤ 1000000
    · obtain ⟨K, hd⟩ := divisor_tells a b h0.1 h1.1
      refine ⟨K, fun k hk => ?_⟩
      show impl_IsFraction.f k a b = _
      unfold impl_IsFraction.f
      have hd' : impl_divisor.f k a b = some ((Nat.gcd a.toNat b.toNat : Nat) : Int) := hd k hk
      rw [within_tells, within_tells, hd']
      simp only [h0, h1, and_self, decide_true, Option.bind_some, if_true, okF, Bool.true_and]
      congr 1
      rw [Bool.eq_iff_iff, beq_iff_eq, beq_iff_eq]
      omega
    · refine ⟨0, fun k _ => ?_⟩
      show impl_IsFraction.f k a b = _
      unfold impl_IsFraction.f
      rw [within_tells, within_tells]
      simp [h0, h1, okF]
  · refine ⟨0, fun k _ => ?_⟩
    show impl_IsFraction.f k a b = _
    unfold impl_IsFraction.f
    rw [within_tells]
    simp [h0, okF]


theorem l1In_tells (a b c : Int) : spec_l1In.f a b c = some (decide (b ≤ a ∧ a ≤ c)) := by
  unfold spec_l1In.f
  by_cases h : a ≥ b
  · rw [if_pos h]
    have : b ≤ a := h
    simp [this]
  · rw [if_neg h]
    have : ¬ b ≤ a := h
    simp [this]

theorem nbGood_rounds (b : Nat) : ∀ (a k : Nat), b < k → spec_nbGood.l0 k (a : Int) (b : Int) = some (Nat.gcd a b == 1) := by
  induction b using Nat.strongRecOn with
  | _ b ih =>
    intro a k hk
    obtain ⟨k, rfl⟩ : ∃ m, k = m + 1 := ⟨k - 1, by omega⟩
    simp only [spec_nbGood.l0]
    by_cases h : b = 0
    · subst h
      rw [if_neg (by omega), Nat.gcd_zero_right]
      congr 1
      rw [Bool.eq_iff_iff, beq_iff_eq, beq_iff_eq]
      omega
    · have hm : a % b < b := Nat.mod_lt _ (by omega)
      rw [if_pos (by omega), if_neg (by omega), ← Int.ofNat_tmod, ih (a % b) hm b k (by omega), Nat.gcd_comm a b, Nat.gcd_rec b a, Nat.gcd_comm]

theorem nbGood_tells (a b : Int) : Ev (fun k => spec_nbGood.f k a b) (okF a b) := by
  by_cases h0 : 0 ≤ a ∧ a ≤ 1000000
  · by_cases h1 : 0 ≤ b ∧ b ≤ 1000000
    · refine ⟨b.toNat + 2, fun k hk => ?_⟩
      obtain ⟨k, rfl⟩ : ∃ m, k = m + 1 := ⟨k - 1, by omega⟩
      show spec_nbGood.f (k + 1) a b = _
      unfold spec_nbGood.f
      rw [l1In_tells, l1In_tells]
      simp only [h0, h1, and_self, decide_true, Option.bind_some, if_true, okF, Bool.true_and, Bool.not_true, spec_nbGood.j0, Bool.false_eq_true, if_false]
      have h := nbGood_rounds b.toNat a.toNat k (by omega)
      rw [Int.toNat_of_nonneg h0.1, Int.toNat_of_nonneg h1.1] at h
      exact h
    · refine ⟨1, fun k hk => ?_⟩
      obtain ⟨k, rfl⟩ : ∃ m, k = m + 1 := ⟨k - 1, by omega⟩
      show spec_nbGood.f (k + 1) a b = _
      unfold spec_nbGood.f
      rw [l1In_tells, l1In_tells]
      simp [h0, h1, okF, spec_nbGood.j0]
  · refine ⟨1, fun k hk => ?_⟩
    obtain ⟨k, rfl⟩ : ∃ m, k = m + 1 := ⟨k - 1, by omega⟩
    show spec_nbGood.f (k + 1) a b = _
    unfold spec_nbGood.f
    rw [l1In_tells]
    simp [h0, okF, spec_nbGood.j0]

theorem w_id (v : Int) (h1 : -9223372036854775808 ≤ v) (h2 : v ≤ 9223372036854775807) : wrap64 v = v := by
  unfold wrap64
  omega
theorem prod_in (u v : Int) (hu : 0 ≤ u ∧ u ≤ 1000000) (hv : 0 ≤ v ∧ v ≤ 1000000) : 0 ≤ u * v ∧ u * v ≤ 1000000000000 := by
  refine ⟨Int.mul_nonneg hu.1 hv.1, ?_⟩
  have h1 := Int.mul_le_mul_of_nonneg_right hu.2 hv.1
  omega

theorem steps_ok (x y : Int) (h1 : 1 ≤ y) (h2 : y < x) : ∃ s, Int.tdiv (x - 1) y = s ∧ 1 ≤ s ∧ 1 ≤ x - s * y := by
  refine ⟨(x - 1) / y, Int.tdiv_eq_ediv_of_nonneg (by omega), (Int.le_ediv_iff_mul_le (by omega)).2 (by omega), ?_⟩
  have := Int.ediv_mul_le (x - 1) (b := y) (by omega)
  omega

theorem crossS (a b c d : Int) (ha : 0 ≤ a ∧ a ≤ 1000000) (hb : 0 ≤ b ∧ b ≤ 1000000) (hc : 0 ≤ c ∧ c ≤ 1000000) (hd : 0 ≤ d ∧ d ≤ 1000000) : spec_nbCross.f a b c d = some (c * b - a * d) := by
  have h1 := prod_in c b hc hb
  have h2 := prod_in a d ha hd
  unfold spec_nbCross.f
  rw [w_id (c * b) (by omega) (by omega), w_id (a * d) (by omega) (by omega), w_id _ (by omega) (by omega)]

theorem crossI (a b c d : Int) (ha : 0 ≤ a ∧ a ≤ 1000000) (hb : 0 ≤ b ∧ b ≤ 1000000) (hc : 0 ≤ c ∧ c ≤ 1000000) (hd : 0 ≤ d ∧ d ≤ 1000000) : impl_cross.f a b c d = some (c * b - a * d) := by
  have h1 := prod_in c b hc hb
  have h2 := prod_in a d ha hd
  unfold impl_cross.f
  rw [w_id (c * b) (by omega) (by omega), w_id (a * d) (by omega) (by omega), w_id _ (by omega) (by omega)]

theorem mul_nn (u v : Int) (hu : 0 ≤ u) (hv : 0 ≤ v) : 0 ≤ u * v := Int.mul_nonneg hu hv
theorem le_mul (u v : Int) (hu : 0 ≤ u) (hv : 1 ≤ v) : u ≤ v * u := by
  have := Int.mul_le_mul_of_nonneg_right hv hu
  omega

/-- The walk's state: the ends are neighbours, and the fraction lies between. -/
structure St (p q a b c d : Int) : Prop where
  a0 : 0 ≤ a
  b0 : 0 ≤ b
  c0 : 0 ≤ c
  d0 : 0 ≤ d
  det : c * b - a * d = 1
  x1 : 1 ≤ p * b - a * q
  y1 : 1 ≤ c * q - p * d

theorem St.bounds {p q a b c d : Int} (h : St p q a b c d) : a + c ≤ p ∧ b + d ≤ q := by
  obtain ⟨a0, b0, c0, d0, det, x1, y1⟩ := h
  have e1 : p = (c * q - p * d) * a + (p * b - a * q) * c := by grind
  have e2 : q = (c * q - p * d) * b + (p * b - a * q) * d := by grind
  have h1 := le_mul a _ a0 y1
  have h2 := le_mul c _ c0 x1
  have h3 := le_mul b _ b0 y1
  have h4 := le_mul d _ d0 x1
  exact ⟨by omega, by omega⟩

theorem St.low {p q a b c d : Int} (h : St p q a b c d) (s : Int) (hs : 1 ≤ s) (hx : 1 ≤ (p * b - a * q) - s * (c * q - p * d)) : St p q (a + s * c) (b + s * d) c d ∧ p * (b + s * d) - (a + s * c) * q = (p * b - a * q) - s * (c * q - p * d) := by
  obtain ⟨a0, b0, c0, d0, det, x1, y1⟩ := h
  have h1 := mul_nn s c (by omega) c0
  have h2 := mul_nn s d (by omega) d0
  have e : p * (b + s * d) - (a + s * c) * q = (p * b - a * q) - s * (c * q - p * d) := by grind
  exact ⟨⟨by omega, by omega, c0, d0, by grind, by omega, y1⟩, e⟩

theorem St.high {p q a b c d : Int} (h : St p q a b c d) (s : Int) (hs : 1 ≤ s) (hx : 1 ≤ (c * q - p * d) - s * (p * b - a * q)) : St p q a b (c + s * a) (d + s * b) ∧ (c + s * a) * q - p * (d + s * b) = (c * q - p * d) - s * (p * b - a * q) := by
  obtain ⟨a0, b0, c0, d0, det, x1, y1⟩ := h
  have h1 := mul_nn s a (by omega) a0
  have h2 := mul_nn s b (by omega) b0
  have e : (c + s * a) * q - p * (d + s * b) = (c * q - p * d) - s * (p * b - a * q) := by grind
  exact ⟨⟨a0, b0, by omega, by omega, by grind, x1, by omega⟩, e⟩

theorem St.same {p q a b c d : Int} (h : St p q a b c d) (hg : Int.gcd p q = 1) : (p * b - a * q = c * q - p * d) ↔ (a + c = p ∧ b + d = q) := by
  obtain ⟨a0, b0, c0, d0, det, x1, y1⟩ := h
  have e1 : p = (c * q - p * d) * a + (p * b - a * q) * c := by grind
  have e2 : q = (c * q - p * d) * b + (p * b - a * q) * d := by grind
  constructor
  · intro e
    rw [← e] at e1 e2
    have d1 : (p * b - a * q) ∣ p := ⟨a + c, by grind⟩
    have d2 : (p * b - a * q) ∣ q := ⟨b + d, by grind⟩
    have d3 := Int.dvd_coe_gcd d1 d2
    rw [hg] at d3
    have d4 : p * b - a * q = 1 := Int.eq_one_of_dvd_one (by omega) (by simpa using d3)
    rw [d4] at e1 e2
    omega
  · rintro ⟨rfl, rfl⟩
    grind

theorem rounds (p q : Int) (hp : 0 ≤ p ∧ p ≤ 1000000) (hq : 0 ≤ q ∧ q ≤ 1000000) (hg : Int.gcd p q = 1) : ∀ (n : Nat) (a b c d : Int), St p q a b c d → (p * b - a * q) + (c * q - p * d) ≤ n →
    ∃ r, ∀ k, n < k → spec_nbParents.l0 k p q a b c d = some r ∧ impl_descend_s0.l0 k p q a b c d = some r := by
  intro n
  induction n with
  | zero => intro a b c d h hn; have := h.x1; have := h.y1; omega
  | succ n ih =>
    intro a b c d h hn
    obtain ⟨b1, b2⟩ := h.bounds
    have hx1 := h.x1
    have hy1 := h.y1
    have a0 := h.a0
    have b0 := h.b0
    have c0 := h.c0
    have d0 := h.d0
    have hm1 : spec_nbMediant.f a b c d = some (a + c, b + d) := by
      unfold spec_nbMediant.f
      rw [w_id (a + c) (by omega) (by omega), w_id (b + d) (by omega) (by omega)]
    have c1 := crossS a b p q (by omega) (by omega) hp hq
    have c2 := crossS p q c d hp hq (by omega) (by omega)
    have c3 := crossI a b p q (by omega) (by omega) hp hq
    have c4 := crossI p q c d hp hq (by omega) (by omega)
    have c5 := crossS (a + c) (b + d) p q (by omega) (by omega) hp hq
    have hm2 : p * (b + d) - (a + c) * q = (p * b - a * q) - (c * q - p * d) := by grind
    rw [hm2] at c5
    have hsame := h.same hg
    have m1 := prod_in p b hp (by omega)
    have m2 := prod_in a q (by omega) hq
    have m3 := prod_in c q (by omega) hq
    have m4 := prod_in p d hp (by omega)
    by_cases e : p * b - a * q = c * q - p * d
    · refine ⟨(a, b, c, d), fun k hk => ?_⟩
      obtain ⟨k, rfl⟩ : ∃ m, k = m + 1 := ⟨k - 1, by omega⟩
      obtain ⟨f1, f2⟩ := hsame.1 e
      constructor
      · simp only [spec_nbParents.l0, hm1, Option.bind_some, f1, f2, beq_self_eq_true, Bool.and_self, if_true]
      · simp only [impl_descend_s0.l0, c3, c4, Option.bind_some]
        rw [if_pos e]
    · have hne : ¬ ((a + c == p && (b + d == q)) = true) := by
        intro h9
        rw [Bool.and_eq_true, beq_iff_eq, beq_iff_eq] at h9
        exact e (hsame.2 h9)
      generalize hx : p * b - a * q = x at *
      generalize hy : c * q - p * d = y at *
      by_cases hlt : y < x
      · obtain ⟨s, hs, s1, s2⟩ := steps_ok x y hy1 hlt
        obtain ⟨h', e'⟩ := h.low s s1 (by rw [hx, hy]; exact s2)
        rw [hx, hy] at e'
        have hsy := le_mul y s (by omega) s1
        obtain ⟨r, hr⟩ := ih _ _ _ _ h' (by rw [e', hy]; omega)
        obtain ⟨b3, b4⟩ := h'.bounds
        have n1 := mul_nn s c (by omega) c0
        have n2 := mul_nn s d (by omega) d0
        refine ⟨r, fun k hk => ?_⟩
        obtain ⟨k, rfl⟩ : ∃ m, k = m + 1 := ⟨k - 1, by omega⟩
        obtain ⟨r1, r2⟩ := hr k (by omega)
        have hsx : s ≤ x := by
          have := le_mul s y (by omega) hy1
          rw [Int.mul_comm] at this
          omega
        have w1 : wrap64 (x - 1) = x - 1 := w_id _ (by omega) (by omega)
        have w2 : wrap64 s = s := w_id _ (by omega) (by omega)
        have w3 : wrap64 (s * c) = s * c := w_id _ (by omega) (by omega)
        have w4 : wrap64 (s * d) = s * d := w_id _ (by omega) (by omega)
        have w5 : wrap64 (a + s * c) = a + s * c := w_id _ (by omega) (by omega)
        have w6 : wrap64 (b + s * d) = b + s * d := w_id _ (by omega) (by omega)
        constructor
        · simp only [spec_nbParents.l0, hm1, Option.bind_some]
          rw [if_neg hne, c5, Option.bind_some, if_pos (by omega), c1, Option.bind_some, c2, Option.bind_some, if_neg (by omega), w1, hs, w2, w3, w4, w5, w6]
          exact r1
        · simp only [impl_descend_s0.l0, c3, c4, Option.bind_some, impl_ParentsOf_1.f]
          rw [if_neg e, if_pos (by omega), if_neg (by omega), w1, hs, w2, w3, w4, w5, w6]
          exact r2
      · obtain ⟨s, hs, s1, s2⟩ := steps_ok y x hx1 (by omega)
        obtain ⟨h', e'⟩ := h.high s s1 (by rw [hx, hy]; exact s2)
        rw [hx, hy] at e'
        have hsy := le_mul x s (by omega) s1
        obtain ⟨r, hr⟩ := ih _ _ _ _ h' (by rw [e', hx]; omega)
        obtain ⟨b3, b4⟩ := h'.bounds
        have n1 := mul_nn s a (by omega) a0
        have n2 := mul_nn s b (by omega) b0
        refine ⟨r, fun k hk => ?_⟩
        obtain ⟨k, rfl⟩ : ∃ m, k = m + 1 := ⟨k - 1, by omega⟩
        obtain ⟨r1, r2⟩ := hr k (by omega)
        have hsx : s ≤ y := by
          have := le_mul s x (by omega) hx1
          rw [Int.mul_comm] at this
          omega
        have w1 : wrap64 (y - 1) = y - 1 := w_id _ (by omega) (by omega)
        have w2 : wrap64 s = s := w_id _ (by omega) (by omega)
        have w3 : wrap64 (s * a) = s * a := w_id _ (by omega) (by omega)
        have w4 : wrap64 (s * b) = s * b := w_id _ (by omega) (by omega)
        have w5 : wrap64 (c + s * a) = c + s * a := w_id _ (by omega) (by omega)
        have w6 : wrap64 (d + s * b) = d + s * b := w_id _ (by omega) (by omega)
        constructor
        · simp only [spec_nbParents.l0, hm1, Option.bind_some]
          rw [if_neg hne, c5, Option.bind_some, if_neg (by omega), c2, Option.bind_some, c1, Option.bind_some, if_neg (by omega), w1, hs, w2, w3, w4, w5, w6]
          exact r1
        · simp only [impl_descend_s0.l0, c3, c4, Option.bind_some, impl_ParentsOf_1.f]
          rw [if_neg e, if_neg (by omega), if_neg (by omega), w1, hs, w2, w3, w4, w5, w6]
          exact r2

theorem FnExactParentsOf (p q : Int) (_ : (Lit.int .i64 p).wf = true) (_ : (Lit.int .i64 q).wf = true) :
    ∃ k, laws_FnExactParentsOf.f k p q = some true := by
  obtain ⟨K, e1, e2⟩ := Ev.at2 (nbGood_tells p q) (isFraction_tells p q)
  by_cases h : okF p q = true ∧ 0 < p ∧ 0 < q
  · obtain ⟨h0, hp, hq⟩ := h
    have h0' := h0
    simp only [okF, Bool.and_eq_true, decide_eq_true_eq, beq_iff_eq] at h0
    obtain ⟨b1, b2, hg⟩ := h0
    have hg' : Int.gcd p q = 1 := by
      rw [← Int.toNat_of_nonneg b1.1, ← Int.toNat_of_nonneg b2.1]
      exact hg
    obtain ⟨r, hr⟩ := rounds p q b1 b2 hg' (p + q).toNat 0 1 1 0 ⟨by omega, by omega, by omega, by omega, by omega, by omega, by omega⟩ (by omega)
    obtain ⟨r1, r2⟩ := hr (K + ((p + q).toNat + 1)) (by omega)
    refine ⟨K + ((p + q).toNat + 1), ?_⟩
    simp only [laws_FnExactParentsOf.f, laws_toFraction.f, Option.bind_some, spec_ParentsOf.f, impl_ParentsOf.f, spec_nbInner.f, impl_isChild.f, e1, e2, h0', if_true, spec_nbParents.f, impl_descend_s0.f, r1, r2]
    simp [hp, hq, r1, r2, laws_eqFraction.f]
  · refine ⟨K + 1, ?_⟩
    simp only [laws_FnExactParentsOf.f, laws_toFraction.f, Option.bind_some, spec_ParentsOf.f, impl_ParentsOf.f, spec_nbInner.f, impl_isChild.f, e1, e2]
    cases ho : okF p q
    · simp [laws_eqFraction.f]
    · by_cases hp : p > 0
      · have hq : ¬ q > 0 := fun hq => h ⟨ho, hp, hq⟩
        simp [hp, hq, laws_eqFraction.f]
      · simp [hp, laws_eqFraction.f]

end Go.Proofs.Ythhdedjfmjmgdaa.PureFnExactParentsOf
