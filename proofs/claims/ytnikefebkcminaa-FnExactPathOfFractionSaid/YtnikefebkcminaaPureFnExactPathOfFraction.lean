/- The program's PathOfFraction and the reference's return the same for every two numbers: both ask for a fraction with both numbers above zero, and walk down from 0/1 and 1/0; a run of the program's is as many steps of the reference's, and both give up past a hundred letters. No condition. -/
import Derived.Test.YtnikefebkcminaaPFnExactPathOfFractionx0
import Derived.Test.YtnikefebkcminaaPFnExactPathOfFractionx1
import Derived.Test.YtnikefebkcminaaPFnExactPathOfFractionx2
import Derived.Test.YtnikefebkcminaaPFnExactPathOfFractionx3
import Derived.Test.YtnikefebkcminaaPFnExactPathOfFractionx4
set_option linter.unusedSimpArgs false
set_option linter.unnecessarySimpa false
set_option linter.unusedVariables false
namespace Go.Proofs.Ytnikefebkcminaa.PureFnExactPathOfFraction
open Go.RowKit Go.Proofs.Ytnikefebkcminaa.PFnExactPathOfFraction Go.Proofs.YtnikefebkcminaaW.PrintWords Go.Proofs.YtnikefebkcminaaW.PrintLast

theorem Ev.at1 {α : Type} {g : Nat → Option α} {r : α} (h : Ev g r) : ∃ K, ∀ j, g (K + j) = some r := by
  obtain ⟨K, h⟩ := h
  exact ⟨K, fun j => h _ (by omega)⟩
theorem Ev.at2 {α β : Type} {g : Nat → Option α} {r : α} {g2 : Nat → Option β} {r2 : β} (h : Ev g r) (h2 : Ev g2 r2) : ∃ K, (∀ j, g (K + j) = some r) ∧ ∀ j, g2 (K + j) = some r2 := by
  obtain ⟨K, h⟩ := h
  obtain ⟨K2, h2⟩ := h2
  exact ⟨K + K2, fun j => h _ (by omega), fun j => h2 _ (by omega)⟩
theorem Ev.at3 {α β γ : Type} {g : Nat → Option α} {r : α} {g2 : Nat → Option β} {r2 : β} {g3 : Nat → Option γ} {r3 : γ} (h : Ev g r) (h2 : Ev g2 r2) (h3 : Ev g3 r3) :
    ∃ K, (∀ j, g (K + j) = some r) ∧ (∀ j, g2 (K + j) = some r2) ∧ ∀ j, g3 (K + j) = some r3 := by
  obtain ⟨K, h⟩ := h
  obtain ⟨K2, h2⟩ := h2
  obtain ⟨K3, h3⟩ := h3
  exact ⟨K + K2 + K3, fun j => h _ (by omega), fun j => h2 _ (by omega), fun j => h3 _ (by omega)⟩
theorem Ev.at4 {α β γ δ : Type} {g : Nat → Option α} {r : α} {g2 : Nat → Option β} {r2 : β} {g3 : Nat → Option γ} {r3 : γ} {g4 : Nat → Option δ} {r4 : δ} (h : Ev g r) (h2 : Ev g2 r2) (h3 : Ev g3 r3) (h4 : Ev g4 r4) :
    ∃ K, (∀ j, g (K + j) = some r) ∧ (∀ j, g2 (K + j) = some r2) ∧ (∀ j, g3 (K + j) = some r3) ∧ ∀ j, g4 (K + j) = some r4 := by
  obtain ⟨K, e1, e2, e3⟩ := Ev.at3 h h2 h3
  obtain ⟨K4, h4⟩ := h4
  exact ⟨K + K4, fun j => by rw [Nat.add_assoc]; exact e1 _, fun j => by rw [Nat.add_assoc]; exact e2 _, fun j => by rw [Nat.add_assoc]; exact e3 _, fun j => h4 _ (by omega)⟩
theorem Ev.all {α β : Type} {g : α → Nat → Option β} {r : α → β} (l : List α) (h : ∀ x, x ∈ l → Ev (g x) (r x)) : ∃ K, ∀ x, x ∈ l → ∀ k, K ≤ k → g x k = some (r x) := by
  induction l with
  | nil => exact ⟨0, fun x hx => by cases hx⟩
  | cons y l ih =>
    obtain ⟨K, hK⟩ := ih (fun x hx => h x (List.mem_cons_of_mem _ hx))
    obtain ⟨K2, hK2⟩ := h y (List.mem_cons_self ..)
    refine ⟨K + K2, fun x hx k hk => ?_⟩
    rcases List.mem_cons.1 hx with e | e
    · subst e
      exact hK2 k (by omega)
    · exact hK x e k (by omega)

/-- Is it a fraction: both numbers within bounds, without a common divisor. -/
def okF (a b : Int) : Bool := decide (0 ≤ a ∧ a ≤ 1000000) && (decide (0 ≤ b ∧ b ≤ 1000000) && (Nat.gcd a.toNat b.toNat == 1))

theorem within_tells (a b c : Int) : impl_within.f a b c = some (decide (b ≤ a ∧ a ≤ c)) := by
  unfold impl_within.f
  by_cases h : a ≥ b
  · rw [if_pos h]
    have : b ≤ a := h
    simp [this]
  · rw [if_neg h]
    have : ¬ b ≤ a := h
    simp [this]

theorem divisor_rounds (b : Nat) : ∀ (a k : Nat), b < k → impl_divisor.l0 k (a : Int) (b : Int) = some ((Nat.gcd a b : Nat) : Int) := by
  induction b using Nat.strongRecOn with
  | _ b ih =>
    intro a k hk
    obtain ⟨k, rfl⟩ : ∃ m, k = m + 1 := ⟨k - 1, by omega⟩
    simp only [impl_divisor.l0]
    by_cases h : b = 0
    · subst h
      simp
    · have hm : a % b < b := Nat.mod_lt _ (by omega)
      rw [if_neg (by omega), ← Int.ofNat_tmod, ih (a % b) hm b k (by omega), Nat.gcd_comm a b, Nat.gcd_rec b a, Nat.gcd_comm]

theorem divisor_tells (a b : Int) (ha : 0 ≤ a) (hb : 0 ≤ b) : Ev (fun k => impl_divisor.f k a b) ((Nat.gcd a.toNat b.toNat : Nat) : Int) := by
  refine ⟨b.toNat + 1, fun k hk => ?_⟩
  have h := divisor_rounds b.toNat a.toNat k (by omega)
  rw [Int.toNat_of_nonneg ha, Int.toNat_of_nonneg hb] at h
  exact h

theorem isFraction_tells (a b : Int) : Ev (fun k => impl_IsFraction.f k a b) (okF a b) := by
  by_cases h0 : 0 ≤ a ∧ a ≤ 1000000
  · by_cases h1 : 0 ≤ b ∧ b ≤ 1000000
    · obtain ⟨K, hd⟩ := divisor_tells a b h0.1 h1.1
      refine ⟨K, fun k hk => ?_⟩
      show impl_IsFraction.f k a b = _
      unfold impl_IsFraction.f
      have hd' : impl_divisor.f k a b = some ((Nat.gcd a.toNat b.toNat : Nat) : Int) := hd k hk
      rw [within_tells, within_tells, hd']
      simp only [h0, h1, and_self, decide_true, Option.bind_some, if_true, okF, Bool.true_and]
      congr 1
      rw [Bool.eq_iff_iff, beq_iff_eq, beq_iff_eq]
      omega
    · refine ⟨0, fun k _ => ?_⟩
      show impl_IsFraction.f k a b = _
      unfold impl_IsFraction.f
      rw [within_tells, within_tells]
      simp [h0, h1, okF]
  · refine ⟨0, fun k _ => ?_⟩
    show impl_IsFraction.f k a b = _
    unfold impl_IsFraction.f
    rw [within_tells]
    simp [h0, okF]


theorem l1In_tells (a b c : Int) : spec_l1In.f a b c = some (decide (b ≤ a ∧ a ≤ c)) := by
  unfold spec_l1In.f
  by_cases h : a ≥ b
  · rw [if_pos h]
    have : b ≤ a := h
    simp [this]
  · rw [if_neg h]
    have : ¬ b ≤ a := h
    simp [this]

theorem nbGood_rounds (b : Nat) : ∀ (a k : Nat), b < k → spec_nbGood.l0 k (a : Int) (b : Int) = some (Nat.gcd a b == 1) := by
  induction b using Nat.strongRecOn with
  | _ b ih =>
    intro a k hk
    obtain ⟨k, rfl⟩ : ∃ m, k = m + 1 := ⟨k - 1, by omega⟩
    simp only [spec_nbGood.l0]
    by_cases h : b = 0
    · subst h
      rw [if_neg (by omega), Nat.gcd_zero_right]
      congr 1
      rw [Bool.eq_iff_iff, beq_iff_eq, beq_iff_eq]
      omega
    · have hm : a % b < b := Nat.mod_lt _ (by omega)
      rw [if_pos (by omega), if_neg (by omega), ← Int.ofNat_tmod, ih (a % b) hm b k (by omega), Nat.gcd_comm a b, Nat.gcd_rec b a, Nat.gcd_comm]

theorem nbGood_tells (a b : Int) : Ev (fun k => spec_nbGood.f k a b) (okF a b) := by
  by_cases h0 : 0 ≤ a ∧ a ≤ 1000000
  · by_cases h1 : 0 ≤ b ∧ b ≤ 1000000
    · refine ⟨b.toNat + 2, fun k hk => ?_⟩
      obtain ⟨k, rfl⟩ : ∃ m, k = m + 1 := ⟨k - 1, by omega⟩
      show spec_nbGood.f (k + 1) a b = _
      unfold spec_nbGood.f
      rw [l1In_tells, l1In_tells]
      simp only [h0, h1, and_self, decide_true, Option.bind_some, if_true, okF, Bool.true_and, Bool.not_true, spec_nbGood.j0, Bool.false_eq_true, if_false]
      have h := nbGood_rounds b.toNat a.toNat k (by omega)
      rw [Int.toNat_of_nonneg h0.1, Int.toNat_of_nonneg h1.1] at h
      exact h
    · refine ⟨1, fun k hk => ?_⟩
      obtain ⟨k, rfl⟩ : ∃ m, k = m + 1 := ⟨k - 1, by omega⟩
      show spec_nbGood.f (k + 1) a b = _
      unfold spec_nbGood.f
      rw [l1In_tells, l1In_tells]
      simp [h0, h1, okF, spec_nbGood.j0]
  · refine ⟨1, fun k hk => ?_⟩
    obtain ⟨k, rfl⟩ : ∃ m, k = m + 1 := ⟨k - 1, by omega⟩
    show spec_nbGood.f (k + 1) a b = _
    unfold spec_nbGood.f
    rw [l1In_tells]
    simp [h0, okF, spec_nbGood.j0]

theorem w_id (v : Int) (h1 : -9223372036854775808 ≤ v) (h2 : v ≤ 9223372036854775807) : wrap64 v = v := by
  unfold wrap64
  omega
theorem prod_in (u v : Int) (hu : 0 ≤ u ∧ u ≤ 1000000) (hv : 0 ≤ v ∧ v ≤ 1000000) : 0 ≤ u * v ∧ u * v ≤ 1000000000000 := by
  refine ⟨Int.mul_nonneg hu.1 hv.1, ?_⟩
  have h1 := Int.mul_le_mul_of_nonneg_right hu.2 hv.1
  omega

theorem steps_ok (x y : Int) (h1 : 1 ≤ y) (h2 : y < x) : ∃ s, Int.tdiv (x - 1) y = s ∧ 1 ≤ s ∧ 1 ≤ x - s * y := by
  refine ⟨(x - 1) / y, Int.tdiv_eq_ediv_of_nonneg (by omega), (Int.le_ediv_iff_mul_le (by omega)).2 (by omega), ?_⟩
  have := Int.ediv_mul_le (x - 1) (b := y) (by omega)
  omega

theorem crossS (a b c d : Int) (ha : 0 ≤ a ∧ a ≤ 1000000) (hb : 0 ≤ b ∧ b ≤ 1000000) (hc : 0 ≤ c ∧ c ≤ 1000000) (hd : 0 ≤ d ∧ d ≤ 1000000) : spec_nbCross.f a b c d = some (c * b - a * d) := by
  have h1 := prod_in c b hc hb
  have h2 := prod_in a d ha hd
  unfold spec_nbCross.f
  rw [w_id (c * b) (by omega) (by omega), w_id (a * d) (by omega) (by omega), w_id _ (by omega) (by omega)]

theorem crossI (a b c d : Int) (ha : 0 ≤ a ∧ a ≤ 1000000) (hb : 0 ≤ b ∧ b ≤ 1000000) (hc : 0 ≤ c ∧ c ≤ 1000000) (hd : 0 ≤ d ∧ d ≤ 1000000) : impl_cross.f a b c d = some (c * b - a * d) := by
  have h1 := prod_in c b hc hb
  have h2 := prod_in a d ha hd
  unfold impl_cross.f
  rw [w_id (c * b) (by omega) (by omega), w_id (a * d) (by omega) (by omega), w_id _ (by omega) (by omega)]

theorem mul_nn (u v : Int) (hu : 0 ≤ u) (hv : 0 ≤ v) : 0 ≤ u * v := Int.mul_nonneg hu hv
theorem le_mul (u v : Int) (hu : 0 ≤ u) (hv : 1 ≤ v) : u ≤ v * u := by
  have := Int.mul_le_mul_of_nonneg_right hv hu
  omega

/-- The walk's state: the ends are neighbours, and the fraction lies between. -/
structure St (p q a b c d : Int) : Prop where
  a0 : 0 ≤ a
  b0 : 0 ≤ b
  c0 : 0 ≤ c
  d0 : 0 ≤ d
  det : c * b - a * d = 1
  x1 : 1 ≤ p * b - a * q
  y1 : 1 ≤ c * q - p * d

theorem St.bounds {p q a b c d : Int} (h : St p q a b c d) : a + c ≤ p ∧ b + d ≤ q := by
  obtain ⟨a0, b0, c0, d0, det, x1, y1⟩ := h
  have e1 : p = (c * q - p * d) * a + (p * b - a * q) * c := by grind
  have e2 : q = (c * q - p * d) * b + (p * b - a * q) * d := by grind
  have h1 := le_mul a _ a0 y1
  have h2 := le_mul c _ c0 x1
  have h3 := le_mul b _ b0 y1
  have h4 := le_mul d _ d0 x1
  exact ⟨by omega, by omega⟩

theorem St.low {p q a b c d : Int} (h : St p q a b c d) (s : Int) (hs : 1 ≤ s) (hx : 1 ≤ (p * b - a * q) - s * (c * q - p * d)) : St p q (a + s * c) (b + s * d) c d ∧ p * (b + s * d) - (a + s * c) * q = (p * b - a * q) - s * (c * q - p * d) := by
  obtain ⟨a0, b0, c0, d0, det, x1, y1⟩ := h
  have h1 := mul_nn s c (by omega) c0
  have h2 := mul_nn s d (by omega) d0
  have e : p * (b + s * d) - (a + s * c) * q = (p * b - a * q) - s * (c * q - p * d) := by grind
  exact ⟨⟨by omega, by omega, c0, d0, by grind, by omega, y1⟩, e⟩

theorem St.high {p q a b c d : Int} (h : St p q a b c d) (s : Int) (hs : 1 ≤ s) (hx : 1 ≤ (c * q - p * d) - s * (p * b - a * q)) : St p q a b (c + s * a) (d + s * b) ∧ (c + s * a) * q - p * (d + s * b) = (c * q - p * d) - s * (p * b - a * q) := by
  obtain ⟨a0, b0, c0, d0, det, x1, y1⟩ := h
  have h1 := mul_nn s a (by omega) a0
  have h2 := mul_nn s b (by omega) b0
  have e : (c + s * a) * q - p * (d + s * b) = (c * q - p * d) - s * (p * b - a * q) := by grind
  exact ⟨⟨a0, b0, by omega, by omega, by grind, x1, by omega⟩, e⟩

theorem mul_one_all : ((List.range 101).all fun m => bits_Mul.f 1 (m : Int) == some (0, (m : Int))) = true := by kernel_rfl
theorem mul_one_n (n : Int) (h : 1 ≤ n ∧ n ≤ 100) : bits_Mul.f 1 n = some (0, n) := by
  obtain ⟨m, rfl⟩ := Int.eq_ofNat_of_zero_le (show 0 ≤ n by omega)
  have h1 := List.all_eq_true.1 mul_one_all m (List.mem_range.2 (by omega))
  exact beq_iff_eq.1 h1
theorem tell_fits (L s : Int) (out : List Int) (h1 : 1 ≤ s) (h2 : (out.length : Int) + s ≤ 100) : pgTell L s out true = some (out ++ List.replicate s.toNat L, true) := by
  have hw : wrap64 ((out.length : Int) + s) = (out.length : Int) + s := w_id _ (by omega) (by omega)
  have hr : slices_Repeat_byte_byte.f [L] s = some (List.replicate s.toNat L) := by
    unfold slices_Repeat_byte_byte.f
    rw [if_pos ⟨rfl, h1, by omega, mul_one_n s ⟨h1, by omega⟩⟩]
    rfl
  unfold pgTell
  rw [if_pos rfl, hw, if_pos h2, hr, Option.bind_some, if_pos (by rw [List.length_replicate]; omega)]
theorem tell_big (L s : Int) (out : List Int) (h0 : 0 ≤ s ∧ s ≤ 1000000000000) (h1 : out.length ≤ 100) (h2 : 100 < (out.length : Int) + s) : pgTell L s out true = some (out, false) := by
  have hw : wrap64 ((out.length : Int) + s) = (out.length : Int) + s := w_id _ (by omega) (by omega)
  unfold pgTell
  rw [if_pos rfl, hw, if_neg (by omega)]
theorem tell_no (L s : Int) (out : List Int) : pgTell L s out false = some (out, false) := by
  unfold pgTell
  rw [if_neg (by simp)]
theorem nums_size (out : List Int) : (strOfNums out).size = out.length := strOfNums_size out
theorem nums_snoc (out : List Int) (x : Int) : strOfNums out ++ strOfNums [x] = strOfNums (out ++ [x]) := by
  unfold strOfNums
  apply ByteArray.ext
  simp
theorem nums_r (out : List Int) : strOfNums out ++ (⟨#[114]⟩ : ByteArray) = strOfNums (out ++ [114]) := nums_snoc out 114
theorem nums_l (out : List Int) : strOfNums out ++ (⟨#[108]⟩ : ByteArray) = strOfNums (out ++ [108]) := nums_snoc out 108
/-- What the reference's round does: the mediant's cross. -/
theorem ref_cross {p q a b c d : Int} (hp : 0 ≤ p ∧ p ≤ 1000000) (hq : 0 ≤ q ∧ q ≤ 1000000) (h : St p q a b c d) : spec_nbMediant.f a b c d = some (a + c, b + d) ∧ spec_nbCross.f (a + c) (b + d) p q = some ((p * b - a * q) - (c * q - p * d)) := by
  obtain ⟨b1, b2⟩ := h.bounds
  have a0 := h.a0
  have b0 := h.b0
  have c0 := h.c0
  have d0 := h.d0
  have hm1 : spec_nbMediant.f a b c d = some (a + c, b + d) := by
    unfold spec_nbMediant.f
    rw [w_id (a + c) (by omega) (by omega), w_id (b + d) (by omega) (by omega)]
  have c5 := crossS (a + c) (b + d) p q (by omega) (by omega) hp hq
  have hm2 : p * (b + d) - (a + c) * q = (p * b - a * q) - (c * q - p * d) := by grind
  rw [hm2] at c5
  exact ⟨hm1, c5⟩
/-- So many steps of the reference to the right. -/
theorem ref_r (p q : Int) (hp : 0 ≤ p ∧ p ≤ 1000000) (hq : 0 ≤ q ∧ q ≤ 1000000) (c d : Int) : ∀ (t : Nat) (a b : Int) (out : List Int), St p q a b c d → 1 ≤ (p * b - a * q) - (t : Int) * (c * q - p * d) → out.length + t ≤ 101 → ∀ k, spec_PathOfFraction.l0 (k + t) (strOfNums out) p q a b c d = spec_PathOfFraction.l0 k (strOfNums (out ++ List.replicate t 114)) p q (a + t * c) (b + t * d) c d := by
  intro t
  induction t with
  | zero =>
    intro a b out h _ _ k
    simp
  | succ t ih =>
    intro a b out h ht hl k
    obtain ⟨r1, r2⟩ := ref_cross hp hq h
    have hy1 := h.y1
    have hty := mul_nn (t : Int) (c * q - p * d) (by omega) (by omega)
    have e1 : ((t + 1 : Nat) : Int) * (c * q - p * d) = (t : Int) * (c * q - p * d) + (c * q - p * d) := by rw [Int.natCast_succ, Int.add_mul, Int.one_mul]
    rw [e1] at ht
    obtain ⟨h', e'⟩ := h.low 1 (by omega) (by omega)
    rw [Int.one_mul, Int.one_mul] at h'
    rw [Int.one_mul, Int.one_mul, Int.one_mul] at e'
    have hih := ih (a + c) (b + d) (out ++ [114]) h' (by rw [e']; omega) (by rw [List.length_append, List.length_singleton]; omega) k
    rw [show k + (t + 1) = (k + t) + 1 by omega]
    simp only [spec_PathOfFraction.l0, r1, Option.bind_some, r2]
    rw [if_pos (by rw [nums_size]; omega), if_neg (by omega), if_pos (by omega), if_pos (by rw [nums_size]; omega), nums_r, hih]
    rw [List.append_assoc, List.singleton_append, ← List.replicate_succ]
    have e2 : a + c + (t : Int) * c = a + ((t + 1 : Nat) : Int) * c := by rw [Int.natCast_succ, Int.add_mul, Int.one_mul]; omega
    have e3 : b + d + (t : Int) * d = b + ((t + 1 : Nat) : Int) * d := by rw [Int.natCast_succ, Int.add_mul, Int.one_mul]; omega
    rw [e2, e3]
/-- And to the left. -/
theorem ref_l (p q : Int) (hp : 0 ≤ p ∧ p ≤ 1000000) (hq : 0 ≤ q ∧ q ≤ 1000000) (a b : Int) : ∀ (t : Nat) (c d : Int) (out : List Int), St p q a b c d → 1 ≤ (c * q - p * d) - (t : Int) * (p * b - a * q) → out.length + t ≤ 101 → ∀ k, spec_PathOfFraction.l0 (k + t) (strOfNums out) p q a b c d = spec_PathOfFraction.l0 k (strOfNums (out ++ List.replicate t 108)) p q a b (c + t * a) (d + t * b) := by
  intro t
  induction t with
  | zero =>
    intro c d out h _ _ k
    simp
  | succ t ih =>
    intro c d out h ht hl k
    obtain ⟨r1, r2⟩ := ref_cross hp hq h
    have hx1 := h.x1
    have hty := mul_nn (t : Int) (p * b - a * q) (by omega) (by omega)
    have e1 : ((t + 1 : Nat) : Int) * (p * b - a * q) = (t : Int) * (p * b - a * q) + (p * b - a * q) := by rw [Int.natCast_succ, Int.add_mul, Int.one_mul]
    rw [e1] at ht
    obtain ⟨h', e'⟩ := h.high 1 (by omega) (by omega)
    rw [Int.one_mul, Int.one_mul] at h'
    rw [Int.one_mul, Int.one_mul, Int.one_mul] at e'
    have hc1 : c + a = a + c := by omega
    have hd1 : d + b = b + d := by omega
    have hih := ih (c + a) (d + b) (out ++ [108]) h' (by rw [e']; omega) (by rw [List.length_append, List.length_singleton]; omega) k
    rw [hc1, hd1] at hih
    rw [show k + (t + 1) = (k + t) + 1 by omega]
    simp only [spec_PathOfFraction.l0, r1, Option.bind_some, r2]
    rw [if_pos (by rw [nums_size]; omega), if_neg (by omega), if_neg (by omega), if_pos (by rw [nums_size]; omega), nums_l, hih]
    rw [List.append_assoc, List.singleton_append, ← List.replicate_succ]
    have e2 : a + c + (t : Int) * a = c + ((t + 1 : Nat) : Int) * a := by rw [Int.natCast_succ, Int.add_mul, Int.one_mul]; omega
    have e3 : b + d + (t : Int) * b = d + ((t + 1 : Nat) : Int) * b := by rw [Int.natCast_succ, Int.add_mul, Int.one_mul]; omega
    rw [e2, e3]
/-- Past a hundred letters the reference gives up. -/
theorem ref_stop (p q a b c d : Int) (out : List Int) (h : out.length = 101) (k : Nat) : spec_PathOfFraction.l0 (k + 1) (strOfNums out) p q a b c d = some ((⟨#[]⟩ : ByteArray), false) := by
  simp only [spec_PathOfFraction.l0]
  rw [if_neg (by rw [nums_size]; omega)]
/-- What one run of the program's comes to. -/
structure Run (p q x y s : Int) : Prop where
  w1 : wrap64 (x - 1) = x - 1
  w2 : wrap64 s = s
  s1 : 1 ≤ s
  s2 : s ≤ x
theorem run_of {p q a b c d x y : Int} (hp : 0 ≤ p ∧ p ≤ 1000000) (hq : 0 ≤ q ∧ q ≤ 1000000) (hx : x ≤ 1000000000000) (hy : 1 ≤ y) (hlt : y < x) : ∃ s, Int.tdiv (x - 1) y = s ∧ Run p q x y s ∧ 1 ≤ x - s * y := by
  obtain ⟨s, hs, s1, s2⟩ := steps_ok x y hy hlt
  have hsx : s ≤ x := by
    have := le_mul s y (by omega) hy
    rw [Int.mul_comm] at this
    omega
  exact ⟨s, hs, ⟨w_id _ (by omega) (by omega), w_id _ (by omega) (by omega), s1, hsx⟩, s2⟩
/-- The program's round. -/
theorem down_round {p q a b c d : Int} (hp : 0 ≤ p ∧ p ≤ 1000000) (hq : 0 ≤ q ∧ q ≤ 1000000) (h : St p q a b c d) : impl_cross.f a b p q = some (p * b - a * q) ∧ impl_cross.f p q c d = some (c * q - p * d) ∧ p * b - a * q ≤ 1000000000000 ∧ c * q - p * d ≤ 1000000000000 := by
  obtain ⟨b1, b2⟩ := h.bounds
  have a0 := h.a0
  have b0 := h.b0
  have c0 := h.c0
  have d0 := h.d0
  have m1 := prod_in p b hp (by omega)
  have m2 := prod_in a q (by omega) hq
  have m3 := prod_in c q (by omega) hq
  have m4 := prod_in p d hp (by omega)
  exact ⟨crossI a b p q (by omega) (by omega) hp hq, crossI p q c d hp hq (by omega) (by omega), by omega, by omega⟩
theorem down_low {p q a b c d s : Int} (hp : 0 ≤ p ∧ p ≤ 1000000) (hq : 0 ≤ q ∧ q ≤ 1000000) (h' : St p q (a + s * c) (b + s * d) c d) (h : St p q a b c d) (hs : 0 ≤ s) : wrap64 (s * c) = s * c ∧ wrap64 (s * d) = s * d ∧ wrap64 (a + s * c) = a + s * c ∧ wrap64 (b + s * d) = b + s * d := by
  obtain ⟨b3, b4⟩ := h'.bounds
  have n1 := mul_nn s c hs h.c0
  have n2 := mul_nn s d hs h.d0
  have a0 := h.a0
  have b0 := h.b0
  have c0 := h.c0
  have d0 := h.d0
  exact ⟨w_id _ (by omega) (by omega), w_id _ (by omega) (by omega), w_id _ (by omega) (by omega), w_id _ (by omega) (by omega)⟩
theorem down_high {p q a b c d s : Int} (hp : 0 ≤ p ∧ p ≤ 1000000) (hq : 0 ≤ q ∧ q ≤ 1000000) (h' : St p q a b (c + s * a) (d + s * b)) (h : St p q a b c d) (hs : 0 ≤ s) : wrap64 (s * a) = s * a ∧ wrap64 (s * b) = s * b ∧ wrap64 (c + s * a) = c + s * a ∧ wrap64 (d + s * b) = d + s * b := by
  obtain ⟨b3, b4⟩ := h'.bounds
  have n1 := mul_nn s a hs h.a0
  have n2 := mul_nn s b hs h.b0
  have a0 := h.a0
  have b0 := h.b0
  have c0 := h.c0
  have d0 := h.d0
  exact ⟨w_id _ (by omega) (by omega), w_id _ (by omega) (by omega), w_id _ (by omega) (by omega), w_id _ (by omega) (by omega)⟩
/-- Once they don't fit, the program walks on and changes nothing. -/
theorem down_no (p q : Int) (hp : 0 ≤ p ∧ p ≤ 1000000) (hq : 0 ≤ q ∧ q ≤ 1000000) (out : List Int) : ∀ (n : Nat) (a b c d : Int), St p q a b c d → (p * b - a * q) + (c * q - p * d) ≤ n → ∃ e1 e2 e3 e4, ∀ k, n < k → impl_descend_s0.l0 k false out p q a b c d = some (e1, e2, e3, e4, out, false) := by
  intro n
  induction n with
  | zero => intro a b c d h hn; have := h.x1; have := h.y1; omega
  | succ n ih =>
    intro a b c d h hn
    obtain ⟨c3, c4, xm, ym⟩ := down_round hp hq h
    have hx1 := h.x1
    have hy1 := h.y1
    by_cases e : p * b - a * q = c * q - p * d
    · refine ⟨a, b, c, d, fun k hk => ?_⟩
      obtain ⟨k, rfl⟩ : ∃ m, k = m + 1 := ⟨k - 1, by omega⟩
      simp only [impl_descend_s0.l0, c3, c4, Option.bind_some]
      rw [if_pos e]
    · by_cases hlt : c * q - p * d < p * b - a * q
      · obtain ⟨s, hs, hR, s2⟩ := run_of (a := a) (b := b) (c := c) (d := d) hp hq xm hy1 hlt
        obtain ⟨h', e'⟩ := h.low s hR.s1 s2
        have hsy := le_mul (c * q - p * d) s (by omega) hR.s1
        obtain ⟨w3, w4, w5, w6⟩ := down_low hp hq h' h (by have := hR.s1; omega)
        obtain ⟨r1, r2, r3, r4, hr⟩ := ih _ _ _ _ h' (by rw [e']; omega)
        refine ⟨r1, r2, r3, r4, fun k hk => ?_⟩
        obtain ⟨k, rfl⟩ : ∃ m, k = m + 1 := ⟨k - 1, by omega⟩
        simp only [impl_descend_s0.l0, c3, c4, Option.bind_some]
        rw [if_neg e, if_pos (by omega), if_neg (by omega), hR.w1, hs, hR.w2, tell_no, Option.bind_some, w3, w4, w5, w6]
        exact hr k (by omega)
      · obtain ⟨s, hs, hR, s2⟩ := run_of (a := a) (b := b) (c := c) (d := d) hp hq ym hx1 (by omega : p * b - a * q < c * q - p * d)
        obtain ⟨h', e'⟩ := h.high s hR.s1 s2
        have hsy := le_mul (p * b - a * q) s (by omega) hR.s1
        obtain ⟨w3, w4, w5, w6⟩ := down_high hp hq h' h (by have := hR.s1; omega)
        obtain ⟨r1, r2, r3, r4, hr⟩ := ih _ _ _ _ h' (by rw [e']; omega)
        refine ⟨r1, r2, r3, r4, fun k hk => ?_⟩
        obtain ⟨k, rfl⟩ : ∃ m, k = m + 1 := ⟨k - 1, by omega⟩
        simp only [impl_descend_s0.l0, c3, c4, Option.bind_some]
        rw [if_neg e, if_neg (by omega), if_neg (by omega), hR.w1, hs, hR.w2, tell_no, Option.bind_some, w3, w4, w5, w6]
        exact hr k (by omega)
/-- What both come to. -/
def res (ok : Bool) (o : List Int) : ByteArray × Bool := if ok = true then (strOfNums o, true) else ((⟨#[]⟩ : ByteArray), false)
theorem both_down (p q : Int) (hp : 0 ≤ p ∧ p ≤ 1000000) (hq : 0 ≤ q ∧ q ≤ 1000000) : ∀ (n : Nat) (a b c d : Int) (out : List Int), St p q a b c d → (p * b - a * q) + (c * q - p * d) ≤ n → out.length ≤ 100 →
    ∃ (ok : Bool) (o : List Int) (e1 e2 e3 e4 : Int), ∀ k, n < k → spec_PathOfFraction.l0 k (strOfNums out) p q a b c d = some (res ok o) ∧ impl_descend_s0.l0 k true out p q a b c d = some (e1, e2, e3, e4, o, ok) := by
  intro n
  induction n using Nat.strongRecOn with
  | _ n ih =>
    intro a b c d out h hn ho
    obtain ⟨c3, c4, xm, ym⟩ := down_round hp hq h
    obtain ⟨q1, q2⟩ := ref_cross hp hq h
    have hx1 := h.x1
    have hy1 := h.y1
    by_cases e : p * b - a * q = c * q - p * d
    · refine ⟨true, out, a, b, c, d, fun k hk => ?_⟩
      obtain ⟨k, rfl⟩ : ∃ m, k = m + 1 := ⟨k - 1, by omega⟩
      constructor
      · simp only [spec_PathOfFraction.l0, q1, Option.bind_some, q2]
        rw [if_pos (by rw [nums_size]; omega), if_pos (by omega)]
        rfl
      · simp only [impl_descend_s0.l0, c3, c4, Option.bind_some]
        rw [if_pos e]
    · by_cases hlt : c * q - p * d < p * b - a * q
      · obtain ⟨s, hs, hR, s2⟩ := run_of (a := a) (b := b) (c := c) (d := d) hp hq xm hy1 hlt
        have s1 := hR.s1
        have sx := hR.s2
        obtain ⟨h', e'⟩ := h.low s s1 s2
        have hsy := le_mul (c * q - p * d) s (by omega) s1
        have hss : s ≤ s * (c * q - p * d) := by have := le_mul s (c * q - p * d) (by omega) hy1; rw [Int.mul_comm] at this; exact this
        obtain ⟨w3, w4, w5, w6⟩ := down_low hp hq h' h (by omega)
        obtain ⟨t, rfl⟩ : ∃ t : Nat, s = t := ⟨s.toNat, by omega⟩
        by_cases hfit : (out.length : Int) + (t : Int) ≤ 100
        · obtain ⟨ok, o, e1, e2, e3, e4, hb⟩ := ih (n - t) (by omega) _ _ _ _ (out ++ List.replicate t 114) h' (by rw [e']; omega) (by rw [List.length_append, List.length_replicate]; omega)
          refine ⟨ok, o, e1, e2, e3, e4, fun k hk => ⟨?_, ?_⟩⟩
          · obtain ⟨k, rfl⟩ : ∃ m, k = m + t := ⟨k - t, by omega⟩
            rw [ref_r p q hp hq c d t a b out h s2 (by omega) k]
            exact (hb k (by omega)).1
          · obtain ⟨k, rfl⟩ : ∃ m, k = m + 1 := ⟨k - 1, by omega⟩
            simp only [impl_descend_s0.l0, c3, c4, Option.bind_some]
            rw [if_neg e, if_pos (by omega), if_neg (by omega), hR.w1, hs, hR.w2, tell_fits _ _ _ s1 hfit, Option.bind_some, w3, w4, w5, w6]
            exact (hb k (by omega)).2
        · obtain ⟨e1, e2, e3, e4, hb⟩ := down_no p q hp hq out (n - t) _ _ _ _ h' (by rw [e']; omega)
          refine ⟨false, out, e1, e2, e3, e4, fun k hk => ⟨?_, ?_⟩⟩
          · obtain ⟨u, hu⟩ : ∃ u, u = 101 - out.length := ⟨_, rfl⟩
            have hut : (u : Int) * (c * q - p * d) ≤ (t : Int) * (c * q - p * d) := Int.mul_le_mul_of_nonneg_right (by omega) (by omega)
            obtain ⟨k, rfl⟩ : ∃ m, k = (m + 1) + u := ⟨k - u - 1, by omega⟩
            rw [ref_r p q hp hq c d u a b out h (by omega) (by omega) (k + 1)]
            exact ref_stop _ _ _ _ _ _ _ (by rw [List.length_append, List.length_replicate]; omega) k
          · obtain ⟨k, rfl⟩ : ∃ m, k = m + 1 := ⟨k - 1, by omega⟩
            simp only [impl_descend_s0.l0, c3, c4, Option.bind_some]
            rw [if_neg e, if_pos (by omega), if_neg (by omega), hR.w1, hs, hR.w2, tell_big _ _ _ (by omega) ho (by omega), Option.bind_some, w3, w4, w5, w6]
            exact hb k (by omega)
      · obtain ⟨s, hs, hR, s2⟩ := run_of (a := a) (b := b) (c := c) (d := d) hp hq ym hx1 (by omega : p * b - a * q < c * q - p * d)
        have s1 := hR.s1
        have sx := hR.s2
        obtain ⟨h', e'⟩ := h.high s s1 s2
        have hsy := le_mul (p * b - a * q) s (by omega) s1
        have hss : s ≤ s * (p * b - a * q) := by have := le_mul s (p * b - a * q) (by omega) hx1; rw [Int.mul_comm] at this; exact this
        obtain ⟨w3, w4, w5, w6⟩ := down_high hp hq h' h (by omega)
        obtain ⟨t, rfl⟩ : ∃ t : Nat, s = t := ⟨s.toNat, by omega⟩
        by_cases hfit : (out.length : Int) + (t : Int) ≤ 100
        · obtain ⟨ok, o, e1, e2, e3, e4, hb⟩ := ih (n - t) (by omega) _ _ _ _ (out ++ List.replicate t 108) h' (by rw [e']; omega) (by rw [List.length_append, List.length_replicate]; omega)
          refine ⟨ok, o, e1, e2, e3, e4, fun k hk => ⟨?_, ?_⟩⟩
          · obtain ⟨k, rfl⟩ : ∃ m, k = m + t := ⟨k - t, by omega⟩
            rw [ref_l p q hp hq a b t c d out h s2 (by omega) k]
            exact (hb k (by omega)).1
          · obtain ⟨k, rfl⟩ : ∃ m, k = m + 1 := ⟨k - 1, by omega⟩
            simp only [impl_descend_s0.l0, c3, c4, Option.bind_some]
            rw [if_neg e, if_neg (by omega), if_neg (by omega), hR.w1, hs, hR.w2, tell_fits _ _ _ s1 hfit, Option.bind_some, w3, w4, w5, w6]
            exact (hb k (by omega)).2
        · obtain ⟨e1, e2, e3, e4, hb⟩ := down_no p q hp hq out (n - t) _ _ _ _ h' (by rw [e']; omega)
          refine ⟨false, out, e1, e2, e3, e4, fun k hk => ⟨?_, ?_⟩⟩
          · obtain ⟨u, hu⟩ : ∃ u, u = 101 - out.length := ⟨_, rfl⟩
            have hut : (u : Int) * (p * b - a * q) ≤ (t : Int) * (p * b - a * q) := Int.mul_le_mul_of_nonneg_right (by omega) (by omega)
            obtain ⟨k, rfl⟩ : ∃ m, k = (m + 1) + u := ⟨k - u - 1, by omega⟩
            rw [ref_l p q hp hq a b u c d out h (by omega) (by omega) (k + 1)]
            exact ref_stop _ _ _ _ _ _ _ (by rw [List.length_append, List.length_replicate]; omega) k
          · obtain ⟨k, rfl⟩ : ∃ m, k = m + 1 := ⟨k - 1, by omega⟩
            simp only [impl_descend_s0.l0, c3, c4, Option.bind_some]
            rw [if_neg e, if_neg (by omega), if_neg (by omega), hR.w1, hs, hR.w2, tell_big _ _ _ (by omega) ho (by omega), Option.bind_some, w3, w4, w5, w6]
            exact hb k (by omega)
theorem FnExactPathOfFraction (p q : Int) (_ : (Lit.int .i64 p).wf = true) (_ : (Lit.int .i64 q).wf = true) :
    ∃ k, laws_FnExactPathOfFraction.f k p q = some true := by
  obtain ⟨K, e1, e2⟩ := Ev.at2 (nbGood_tells p q) (isFraction_tells p q)
  by_cases h : okF p q = true ∧ 0 < p ∧ 0 < q
  · obtain ⟨h0, hp, hq⟩ := h
    have h0' := h0
    simp only [okF, Bool.and_eq_true, decide_eq_true_eq, beq_iff_eq] at h0
    obtain ⟨b1, b2, hg⟩ := h0
    obtain ⟨ok, o, x1, x2, x3, x4, hr⟩ := both_down p q b1 b2 (p + q).toNat 0 1 1 0 [] ⟨by omega, by omega, by omega, by omega, by omega, by omega, by omega⟩ (by omega) (by simp)
    obtain ⟨r1, r2⟩ := hr (K + ((p + q).toNat + 1)) (by omega)
    have hs : spec_PathOfFraction.f (K + ((p + q).toNat + 1)) p q = some (res ok o) := by
      simp only [spec_PathOfFraction.f, spec_nbInner.f, e1, h0', Option.bind_some, if_true, if_pos hp, decide_eq_true hq]
      exact r1
    have hi : impl_PathOfFraction.f (K + ((p + q).toNat + 1)) p q = some (res ok o) := by
      simp only [impl_PathOfFraction.f, impl_isChild.f, e2, h0', Option.bind_some, if_true, if_pos hp, decide_eq_true hq, impl_descend_s0.f, r2]
      cases ok <;> rfl
    refine ⟨K + ((p + q).toNat + 1), ?_⟩
    simp only [laws_FnExactPathOfFraction.f, laws_toFraction.f, Option.bind_some, hs, hi]
    simp
  · have hs : spec_PathOfFraction.f (K + 1) p q = some ((⟨#[]⟩ : ByteArray), false) := by
      simp only [spec_PathOfFraction.f, spec_nbInner.f, e1, Option.bind_some]
      cases ho : okF p q
      · simp
      · by_cases hp : p > 0
        · have hq : ¬ q > 0 := fun hq => h ⟨ho, hp, hq⟩
          simp [hp, hq]
        · simp [hp]
    have hi : impl_PathOfFraction.f (K + 1) p q = some ((⟨#[]⟩ : ByteArray), false) := by
      simp only [impl_PathOfFraction.f, impl_isChild.f, e2, Option.bind_some]
      cases ho : okF p q
      · simp
      · by_cases hp : p > 0
        · have hq : ¬ q > 0 := fun hq => h ⟨ho, hp, hq⟩
          simp [hp, hq]
        · simp [hp]
    refine ⟨K + 1, ?_⟩
    simp only [laws_FnExactPathOfFraction.f, laws_toFraction.f, Option.bind_some, hs, hi]
    simp

end Go.Proofs.Ytnikefebkcminaa.PureFnExactPathOfFraction
