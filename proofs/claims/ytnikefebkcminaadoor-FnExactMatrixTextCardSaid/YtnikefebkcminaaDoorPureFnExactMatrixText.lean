/- The program's MatrixText and the reference's return the same for every four numbers: both write the numbers in decimal, a comma within a row and a stroke between the rows, the program by the library's Itoa and Join, the reference digit by digit. No condition beyond what the statement says of the package-level variables. -/
import Derived.Test.YtnikefebkcminaaDoorPFnExactMatrixTextx0
import Derived.Test.YtnikefebkcminaaDoorPFnExactMatrixTextx1
import Derived.Test.YtnikefebkcminaaDoorPFnExactMatrixTextx2
import Derived.Test.YtnikefebkcminaaDoorPFnExactMatrixTextx3
set_option linter.unusedSimpArgs false
set_option linter.unnecessarySimpa false
set_option linter.unusedVariables false
namespace Go.Proofs.YtnikefebkcminaaDoor.PureFnExactMatrixText
open Go.RowKit Go.Proofs.YtnikefebkcminaaDoor.PFnExactMatrixText Go.Proofs.YtnikefebkcminaaDoorW.PrintWords Go.Proofs.YtnikefebkcminaaDoorW.PrintLast

theorem Ev.at1 {α : Type} {g : Nat → Option α} {r : α} (h : Ev g r) : ∃ K, ∀ j, g (K + j) = some r := by
  obtain ⟨K, h⟩ := h
  exact ⟨K, fun j => h _ (by omega)⟩
theorem Ev.at2 {α β : Type} {g : Nat → Option α} {r : α} {g2 : Nat → Option β} {r2 : β} (h : Ev g r) (h2 : Ev g2 r2) : ∃ K, (∀ j, g (K + j) = some r) ∧ ∀ j, g2 (K + j) = some r2 := by
  obtain ⟨K, h⟩ := h
  obtain ⟨K2, h2⟩ := h2
  exact ⟨K + K2, fun j => h _ (by omega), fun j => h2 _ (by omega)⟩
theorem Ev.at3 {α β γ : Type} {g : Nat → Option α} {r : α} {g2 : Nat → Option β} {r2 : β} {g3 : Nat → Option γ} {r3 : γ} (h : Ev g r) (h2 : Ev g2 r2) (h3 : Ev g3 r3) :
    ∃ K, (∀ j, g (K + j) = some r) ∧ (∀ j, g2 (K + j) = some r2) ∧ ∀ j, g3 (K + j) = some r3 := by
  obtain ⟨K, h⟩ := h
  obtain ⟨K2, h2⟩ := h2
  obtain ⟨K3, h3⟩ := h3
  exact ⟨K + K2 + K3, fun j => h _ (by omega), fun j => h2 _ (by omega), fun j => h3 _ (by omega)⟩
theorem Ev.at4 {α β γ δ : Type} {g : Nat → Option α} {r : α} {g2 : Nat → Option β} {r2 : β} {g3 : Nat → Option γ} {r3 : γ} {g4 : Nat → Option δ} {r4 : δ} (h : Ev g r) (h2 : Ev g2 r2) (h3 : Ev g3 r3) (h4 : Ev g4 r4) :
    ∃ K, (∀ j, g (K + j) = some r) ∧ (∀ j, g2 (K + j) = some r2) ∧ (∀ j, g3 (K + j) = some r3) ∧ ∀ j, g4 (K + j) = some r4 := by
  obtain ⟨K, e1, e2, e3⟩ := Ev.at3 h h2 h3
  obtain ⟨K4, h4⟩ := h4
  exact ⟨K + K4, fun j => by rw [Nat.add_assoc]; exact e1 _, fun j => by rw [Nat.add_assoc]; exact e2 _, fun j => by rw [Nat.add_assoc]; exact e3 _, fun j => h4 _ (by omega)⟩
theorem Ev.all {α β : Type} {g : α → Nat → Option β} {r : α → β} (l : List α) (h : ∀ x, x ∈ l → Ev (g x) (r x)) : ∃ K, ∀ x, x ∈ l → ∀ k, K ≤ k → g x k = some (r x) := by
  induction l with
  | nil => exact ⟨0, fun x hx => by cases hx⟩
  | cons y l ih =>
    obtain ⟨K, hK⟩ := ih (fun x hx => h x (List.mem_cons_of_mem _ hx))
    obtain ⟨K2, hK2⟩ := h y (List.mem_cons_self ..)
    refine ⟨K + K2, fun x hx k hk => ?_⟩
    rcases List.mem_cons.1 hx with e | e
    · subst e
      exact hK2 k (by omega)
    · exact hK x e k (by omega)

theorem within_tells (a b c : Int) : impl_within.f a b c = some (decide (b ≤ a ∧ a ≤ c)) := by
  unfold impl_within.f
  by_cases h : a ≥ b
  · rw [if_pos h]
    have : b ≤ a := h
    simp [this]
  · rw [if_neg h]
    have : ¬ b ≤ a := h
    simp [this]

theorem l1In_tells (a b c : Int) : spec_l1In.f a b c = some (decide (b ≤ a ∧ a ≤ c)) := by
  unfold spec_l1In.f
  by_cases h : a ≥ b
  · rw [if_pos h]
    have : b ≤ a := h
    simp [this]
  · rw [if_neg h]
    have : ¬ b ≤ a := h
    simp [this]

theorem rd_drop (l : List Int) (i : Nat) (h : i < l.length) : l.drop i = rd l (i : Int) :: l.drop (i + 1) := by
  rw [List.drop_eq_getElem_cons h]
  congr 1
  unfold rd
  rw [Int.toNat_natCast, List.getD_eq_getElem?_getD, List.getElem?_eq_getElem h]
  rfl

theorem l1All_rounds (lo hi : Int) (l : List Int) (hl : l.length ≤ 4611686018427387904) (d : Nat) : ∀ (i k : Nat), i + d = l.length → d < k →
    spec_l1All.l0 k lo hi l (l.length : Int) (i : Int) = some ((l.drop i).all fun x => decide (lo ≤ x ∧ x ≤ hi)) := by
  induction d with
  | zero =>
    intro i k hi hk
    obtain ⟨k, rfl⟩ : ∃ m, k = m + 1 := ⟨k - 1, by omega⟩
    simp only [spec_l1All.l0]
    rw [if_neg (by omega), List.drop_of_length_le (by omega)]
    rfl
  | succ d ih =>
    intro i k hi' hk
    obtain ⟨k, rfl⟩ : ∃ m, k = m + 1 := ⟨k - 1, by omega⟩
    simp only [spec_l1All.l0]
    rw [if_pos (by omega), if_pos (by omega), if_pos (by omega), l1In_tells, Option.bind_some, rd_drop l i (by omega), List.all_cons]
    by_cases h : lo ≤ rd l (i : Int) ∧ rd l (i : Int) ≤ hi
    · have w : wrap64 ((i : Int) + 1) = ((i + 1 : Nat) : Int) := by unfold wrap64; omega
      rw [w, ih (i + 1) k (by omega) (by omega)]
      simp [h]
    · simp [h]

theorem l1All_tells (lo hi : Int) (l : List Int) (hl : l.length ≤ 4611686018427387904) : Ev (fun k => spec_l1All.f k l lo hi) (l.all fun x => decide (lo ≤ x ∧ x ≤ hi)) := by
  refine ⟨l.length + 1, fun k hk => ?_⟩
  have h := l1All_rounds lo hi l hl l.length 0 k (by omega) (by omega)
  rw [List.drop_zero] at h
  exact h

/-- Is it a matrix: all numbers within bounds, the determinant 1. -/
def okM (a b c d : Int) : Bool :=
  [a, b, c, d].all (fun x => decide (-1000000000 ≤ x ∧ x ≤ 1000000000)) && (wrap64 (wrap64 (a * d) - wrap64 (b * c)) == 1)

theorem isEntry_tells (a : Int) : impl_isEntry.f a = some (decide (-1000000000 ≤ a ∧ a ≤ 1000000000)) := by
  unfold impl_isEntry.f
  rw [within_tells]
  rfl

theorem isMatrix_tells (a b c d : Int) : impl_IsMatrix.f a b c d = some (okM a b c d) := by
  unfold impl_IsMatrix.f okM
  rw [isEntry_tells, isEntry_tells, isEntry_tells, isEntry_tells]
  simp only [Option.bind_some, List.all_cons, List.all_nil, Bool.and_true]
  cases decide (-1000000000 ≤ a ∧ a ≤ 1000000000) <;> cases decide (-1000000000 ≤ b ∧ b ≤ 1000000000) <;> cases decide (-1000000000 ≤ c ∧ c ≤ 1000000000) <;> cases decide (-1000000000 ≤ d ∧ d ≤ 1000000000) <;> rfl

theorem mxGood_tells (a b c d : Int) : Ev (fun k => spec_mxGood.f k a b c d) (okM a b c d) := by
  refine Ev.congr (f := fun k => (spec_l1All.f k [a, b, c, d] (-1000000000) 1000000000).bind fun t => if t = true then some (wrap64 (wrap64 (a * d) - wrap64 (b * c)) == 1) else some false) (fun _ => rfl) ?_
  refine Ev.bind (l1All_tells (-1000000000) 1000000000 [a, b, c, d] (by simp)) ⟨0, fun k _ => ?_⟩
  unfold okM
  cases [a, b, c, d].all (fun x => decide (-1000000000 ≤ x ∧ x ≤ 1000000000)) <;> rfl

/-- The decimal numeral. -/
def numText (n : Nat) : ByteArray := ⟨(Lib.decDigits n).toArray⟩
theorem numText_small {n : Nat} (h : n < 10) : numText n = ⟨#[UInt8.ofNat (48 + n)]⟩ := by
  unfold numText
  rw [Lib.decDigits_one h]
theorem numText_step {n : Nat} (h : ¬ n < 10) : numText n = numText (n / 10) ++ ⟨#[UInt8.ofNat (48 + n % 10)]⟩ := by
  unfold numText
  rw [Lib.decDigits, dif_neg h]
  apply ByteArray.ext
  rw [ByteArray.data_append]
  simp
theorem numText_len : ∀ (d n : Nat), n < 10 ^ (d + 1) → (numText n).size ≤ d + 1
  | 0, n, h => by
    rw [numText_small (by simpa using h)]
    exact Nat.le_refl 1
  | d + 1, n, h => by
    by_cases c : n < 10
    · rw [numText_small c]
      show 1 ≤ d + 1 + 1
      omega
    · rw [numText_step c, ByteArray.size_append]
      have := numText_len d (n / 10) (by rw [Nat.pow_succ] at h; omega)
      have e : (⟨#[UInt8.ofNat (48 + n % 10)]⟩ : ByteArray).size = 1 := rfl
      omega
theorem numText_size {n : Nat} (h : n ≤ 1000000) : (numText n).size ≤ 7 := numText_len 6 n (by have : (10 : Nat) ^ 7 = 10000000 := rfl; omega)
theorem num_one (x : Nat) (h : x < 10) : strOfNums [(wrap64 (48 + (x : Int))) % 256] = ⟨#[UInt8.ofNat (48 + x)]⟩ := by
  have : wrap64 (48 + (x : Int)) % 256 = ((48 + x : Nat) : Int) := by unfold wrap64; omega
  rw [this]
  rfl
theorem l1Num_at : ∀ (k n : Nat), n ≤ 1000000000 → n < 10 ^ (k + 1) → spec_l1Num.f (k + 1) (n : Int) = some (numText n)
  | k, n, hn, hk => by
    unfold spec_l1Num.f
    by_cases c : n < 10
    · rw [if_pos (by omega), num_one n c, numText_small c]
    · rw [if_neg (by omega)]
      obtain ⟨k, rfl⟩ : ∃ q, k = q + 1 := by
        cases k with
        | zero => simp at hk; omega
        | succ q => exact ⟨q, rfl⟩
      have e1 : wrap64 (Int.tdiv (n : Int) 10) = ((n / 10 : Nat) : Int) := by
        rw [show Int.tdiv (n : Int) 10 = ((n / 10 : Nat) : Int) from rfl]
        unfold wrap64
        omega
      have e2 : Int.tmod (n : Int) 10 = ((n % 10 : Nat) : Int) := rfl
      have hs := numText_len 9 (n / 10) (by have : (10 : Nat) ^ 10 = 10000000000 := rfl; omega)
      have e : (⟨#[UInt8.ofNat (48 + n % 10)]⟩ : ByteArray).size = 1 := rfl
      rw [e1, l1Num_at k (n / 10) (by omega) (by rw [Nat.pow_succ] at hk; omega), e2]
      simp only [Option.bind_some]
      rw [num_one (n % 10) (by omega), if_pos (by omega), ← numText_step c]
theorem l1Num_tells (n : Int) (hn : 0 ≤ n ∧ n ≤ 1000000000) (k : Nat) (hk : 10 ≤ k) : spec_l1Num.f k n = some (numText n.toNat) := by
  obtain ⟨N, rfl⟩ : ∃ N : Nat, n = N := ⟨n.toNat, by omega⟩
  obtain ⟨q, rfl⟩ : ∃ q, k = q + 1 := ⟨k - 1, by omega⟩
  rw [l1Num_at q N (by omega) (Nat.lt_of_lt_of_le (show N < 10 ^ 10 by have : (10 : Nat) ^ 10 = 10000000000 := rfl; omega) (Nat.pow_le_pow_right (by omega) (by omega)))]
  rfl
theorem itoa_tells (n : Int) (hn : 0 ≤ n ∧ n ≤ 1000000000) : strconv_Itoa.f n = some (numText n.toNat) := by
  unfold strconv_Itoa.f
  rw [if_pos (by omega), Lib.itoa, if_neg (by omega)]
  rfl

/-- A number's text. -/
def iText (n : Int) : ByteArray := ⟨(Lib.itoa n).toArray⟩
theorem iText_neg {n : Int} (h : n < 0) : iText n = (⟨#[45]⟩ : ByteArray) ++ numText (-n).toNat := by
  unfold iText numText Lib.itoa
  rw [if_pos h, show n.natAbs = (-n).toNat by omega]
  apply ByteArray.ext
  rw [ByteArray.data_append]
  simp
theorem iText_pos {n : Int} (h : ¬ n < 0) : iText n = numText n.toNat := by
  unfold iText numText Lib.itoa
  rw [if_neg h]
theorem num_len {n : Int} (h : n ≤ 1000000000) : (numText n.toNat).size ≤ 10 := numText_len 9 _ (by have : (10 : Nat) ^ 10 = 10000000000 := rfl; omega)
theorem iText_size {n : Int} (h : -1000000000 ≤ n ∧ n ≤ 1000000000) : (iText n).size ≤ 11 := by
  by_cases c : n < 0
  · have := num_len (n := -n) (by omega)
    have e : (⟨#[45]⟩ : ByteArray).size = 1 := rfl
    rw [iText_neg c, ByteArray.size_append]
    omega
  · have := num_len h.2
    rw [iText_pos c]
    omega
theorem itoa_is {n : Int} (h : -1000000000 ≤ n ∧ n ≤ 1000000000) : strconv_Itoa.f n = some (iText n) := by
  unfold strconv_Itoa.f
  rw [if_pos (by omega)]
  rfl
theorem l1Int_is {n : Int} (h : -1000000000 ≤ n ∧ n ≤ 1000000000) (k : Nat) (hk : 10 ≤ k) : spec_l1Int.f k n = some (iText n) := by
  unfold spec_l1Int.f
  by_cases c : n < 0
  · have hs := num_len (n := -n) (by omega)
    rw [if_pos c, show wrap64 (-n) = -n by unfold wrap64; omega, l1Num_tells (-n) (by omega) k hk, Option.bind_some, if_pos (by omega), iText_neg c]
  · rw [if_neg c, l1Num_tells n (by omega) k hk, Option.bind_some, iText_pos c]
theorem pair_text {a b : Int} (ha : -1000000000 ≤ a ∧ a ≤ 1000000000) (hb : -1000000000 ≤ b ∧ b ≤ 1000000000) (k : Nat) (hk : 5 ≤ k) : impl_numbersText.f k [a, b] (⟨#[44]⟩ : ByteArray) = some (iText a ++ (⟨#[44]⟩ : ByteArray) ++ iText b) := by
  obtain ⟨k, rfl⟩ : ∃ q, k = q + 3 := ⟨k - 3, by omega⟩
  have r0 : rd [a, b] 0 = a := rfl
  have r1 : rd [a, b] 1 = b := rfl
  have w0 : wrap64 (0 + 1) = 1 := by unfold wrap64; omega
  have w1 : wrap64 (1 + 1) = 2 := by unfold wrap64; omega
  have sa := iText_size ha
  have sb := iText_size hb
  have hj : Lib.join ([iText a, iText b].map (·.data.toList)) (⟨#[44]⟩ : ByteArray).data.toList = (iText a).data.toList ++ ([44] ++ (iText b).data.toList) := by
    simp [Lib.join_cons, Lib.joinTail]
  have hl : (Lib.join ([iText a, iText b].map (·.data.toList)) (⟨#[44]⟩ : ByteArray).data.toList).length ≤ 140737488355328 := by
    rw [hj]
    have e1 : (iText a).data.toList.length = (iText a).size := by rw [Array.length_toList]; rfl
    have e2 : (iText b).data.toList.length = (iText b).size := by rw [Array.length_toList]; rfl
    simp only [List.length_append, e1, e2, List.length_cons, List.length_nil]
    omega
  have hJ : strings_Join.f [iText a, iText b] (⟨#[44]⟩ : ByteArray) = some (iText a ++ (⟨#[44]⟩ : ByteArray) ++ iText b) := by
    unfold strings_Join.f
    rw [if_pos ⟨by simp, hl⟩, hj]
    congr 1
    apply ByteArray.ext
    rw [ByteArray.data_append, ByteArray.data_append]
    simp
  simp only [impl_numbersText.f, impl_numbersText.l0, r0, r1, w0, w1, itoa_is ha, itoa_is hb, Option.bind_some, List.length_cons, List.length_nil, List.nil_append, List.cons_append]
  rw [if_pos (by omega), if_pos (by omega), if_pos (by omega), if_pos (by omega), if_pos (by omega), if_pos (by omega), if_pos (by omega), if_pos (by omega), if_neg (by omega), hJ]
  rfl
theorem FnExactMatrixText (a b c d : Int) (_ : (Lit.int .i64 a).wf = true) (_ : (Lit.int .i64 b).wf = true) (_ : (Lit.int .i64 c).wf = true) (_ : (Lit.int .i64 d).wf = true) :
    ∃ k, laws_FnExactMatrixText.f k a b c d = some true := by
  obtain ⟨K0, h0⟩ := mxGood_tells a b c d
  have h0' : spec_mxGood.f (K0 + 20) a b c d = some (okM a b c d) := h0 _ (by omega)
  have h1' := isMatrix_tells a b c d
  refine ⟨K0 + 20, ?_⟩
  cases ho : okM a b c d with
  | false => simp [laws_FnExactMatrixText.f, laws_toMatrix.f, spec_MatrixText.f, impl_MatrixText.f, h0', h1', ho]
  | true =>
    have hr : ((-1000000000 ≤ a ∧ a ≤ 1000000000) ∧ (-1000000000 ≤ b ∧ b ≤ 1000000000)) ∧ ((-1000000000 ≤ c ∧ c ≤ 1000000000) ∧ (-1000000000 ≤ d ∧ d ≤ 1000000000)) := by
      unfold okM at ho
      simp only [Bool.and_eq_true, List.all_cons, List.all_nil, Bool.and_true, decide_eq_true_eq] at ho
      omega
    obtain ⟨⟨ha, hb⟩, hc, hd⟩ := hr
    have sa := iText_size ha
    have sb := iText_size hb
    have sc := iText_size hc
    have sd := iText_size hd
    have o1 : (⟨#[44]⟩ : ByteArray).size = 1 := rfl
    have o2 : (⟨#[47]⟩ : ByteArray).size = 1 := rfl
    have hspec : spec_MatrixText.f (K0 + 20) a b c d = some ((((((iText a ++ (⟨#[44]⟩ : ByteArray)) ++ iText b) ++ (⟨#[47]⟩ : ByteArray)) ++ iText c) ++ (⟨#[44]⟩ : ByteArray)) ++ iText d, true) := by
      simp only [spec_MatrixText.f, h0', ho, Option.bind_some, if_true, l1Int_is ha _ (show 10 ≤ K0 + 20 by omega), l1Int_is hb _ (show 10 ≤ K0 + 20 by omega), l1Int_is hc _ (show 10 ≤ K0 + 20 by omega), l1Int_is hd _ (show 10 ≤ K0 + 20 by omega), ByteArray.size_append, o1, o2]
      repeat rw [if_pos (by omega)]
    have himpl : impl_MatrixText.f (K0 + 20) a b c d = some (((iText a ++ (⟨#[44]⟩ : ByteArray) ++ iText b) ++ (⟨#[47]⟩ : ByteArray)) ++ (iText c ++ (⟨#[44]⟩ : ByteArray) ++ iText d), true) := by
      simp only [impl_MatrixText.f, h1', ho, Option.bind_some, if_true, pair_text ha hb _ (show 5 ≤ K0 + 20 by omega), pair_text hc hd _ (show 5 ≤ K0 + 20 by omega), ByteArray.size_append, o1, o2]
      repeat rw [if_pos (by omega)]
    have hass : ((iText a ++ (⟨#[44]⟩ : ByteArray) ++ iText b) ++ (⟨#[47]⟩ : ByteArray)) ++ (iText c ++ (⟨#[44]⟩ : ByteArray) ++ iText d) = (((((iText a ++ (⟨#[44]⟩ : ByteArray)) ++ iText b) ++ (⟨#[47]⟩ : ByteArray)) ++ iText c) ++ (⟨#[44]⟩ : ByteArray)) ++ iText d := by
      simp only [ByteArray.append_assoc]
    simp only [laws_FnExactMatrixText.f, laws_toMatrix.f, Option.bind_some, hspec, himpl, hass, if_true]
    rfl

end Go.Proofs.YtnikefebkcminaaDoor.PureFnExactMatrixText
