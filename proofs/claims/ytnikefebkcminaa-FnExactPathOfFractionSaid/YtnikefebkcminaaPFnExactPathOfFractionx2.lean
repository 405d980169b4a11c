-- WRITTEN BY A PROGRAM OF THIS WORK (wip/tools/ppatch.py) for this claim.
import Derived.Test.YtnikefebkcminaaPFnExactPathOfFractionx0
import Derived.Test.YtnikefebkcminaaPFnExactPathOfFractionx1
namespace Go.Proofs.Ytnikefebkcminaa.PFnExactPathOfFraction
open Go.RowKit Go.Proofs.YtnikefebkcminaaW.PrintWords Go.Proofs.YtnikefebkcminaaW.PrintLast Go.Proofs.YtnikefebkcminaaW.PrintMore
attribute [local go_sem] max2_int min2_int max_two min_two max_three min_three max_four min_four   -- for this text's walks alone
set_option linter.unusedVariables false
set_option linter.unusedSimpArgs false

/-! ### slices_Repeat_byte_byte: function 61 -/
theorem splice_get {α : Type} (L : List α) (off : Nat) (cs : List α) (h : off + cs.length ≤ L.length) (q : Nat) : (splice L off cs)[q]? = if q < off then L[q]? else if q < off + cs.length then cs[q - off]? else L[q]? := by
  have h2 := seg_get L cs off h q
  rw [List.append_assoc] at h2
  exact h2
theorem size5 : (Try.prog.info? 5).map (fun i => i.size) = some 1 := by kernel_rfl
def slices_Repeat_byte_byte.f (l0 : List Int) (a1 : Int) : Option (List Int) := if l0.length = 1 ∧ 1 ≤ a1 ∧ a1 ≤ 1000 ∧ bits_Mul.f 1 a1 = some (0, a1) then some (List.replicate a1.toNat (rd l0 0)) else none
set_option maxHeartbeats 4000000 in
set_option maxRecDepth 100000 in
theorem slices_Repeat_byte_byte.calls (A0 : Option Addr) (c0 : Nat) (l0 : List Int) (a1 : Int) (r : List Int) (w : World) (hr0 : Kd.C (Kd.int .u8) w A0 l0.length l0) (hc0 : l0.length ≤ c0) (h : slices_Repeat_byte_byte.f l0 a1 = some r) :
    Calls Try.prog 61 #[.slice A0 l0.length c0, .int .i64 a1] w fun e w' => ∃ v0_ : Value, e = .returned (v0_) ∧ Kd.R (Kd.int .u8) 5 w' w.heap.size (fun _ => True) v0_ r ∧ Below w.heap.size w w' := by
  have H : (if l0.length = 1 ∧ 1 ≤ a1 ∧ a1 ≤ 1000 ∧ bits_Mul.f 1 a1 = some (0, a1) then some (List.replicate a1.toNat (rd l0 0)) else none) = some r := h
  clear h
  by_cases hc : l0.length = 1 ∧ 1 ≤ a1 ∧ a1 ≤ 1000 ∧ bits_Mul.f 1 a1 = some (0, a1)
  · rw [if_pos hc] at H
    obtain rfl := Option.some.inj H
    obtain ⟨h1, h2, h3, h4⟩ := hc
    obtain ⟨x, rfl⟩ : ∃ x, l0 = [x] := by
      match l0, h1 with
      | [x], _ => exact ⟨x, rfl⟩
    obtain ⟨n, rfl⟩ := Int.eq_ofNat_of_zero_le (by omega : 0 ≤ a1)
    have hx : rd [x] 0 = x := rfl
    rw [hx, Int.toNat_natCast]
    show Calls Try.prog 61 #[.slice A0 1 c0, .int .i64 (n : Int)] w _
    obtain ⟨ad, rfl, hcell⟩ := hr0.2.2 (by simp)
    obtain ⟨ce, hcel, hK, hcc⟩ := hcell 0 x rfl
    have hce : ce = [.int .u8 x] := hK
    have hcx : w.cell? (ad.add 0) = some (.int .u8 x) := hcc 0 _ (by rw [hce]; rfl)
    have hw1 : IntKind.u64.wrap (n : Int) = (n : Int) := by unfold IntKind.wrap; simp [IntKind.bits]; omega
    have hw2 : wrap64 (n : Int) = (n : Int) := by unfold wrap64; omega
    have hgt : decide ((n : Int) > 9223372036854775807) = false := by rw [decide_eq_false_iff_not]; omega
    have hlt0 : decide ((n : Int) < 0) = false := by rw [decide_eq_false_iff_not]; omega
    have hmk := print_make (P := Try.prog) 76 5 .u8 1 Try.underlying76 info5 (by omega) n (by omega)
    have HM := Aside0.mk h4
    have HX := Aside0.mk hcx
    have n1 : 1 ≤ n := by omega
    have n2 : n ≤ 1000 := by omega
    have hk1 : ∀ (w1 w0' : World), True := fun _ _ => trivial
    have hcopy : ∀ (w1 : World), (w1.alloc (.cells (madeCells #[.int .u8 0] n) 5)).heap[w1.heap.size]? = some (.cells (madeCells #[.int .u8 0] n).toList.toArray 5 (0, 0)) := fun w1 => by
      rw [Array.toArray_toList]
      exact Array.getElem?_push_size
    have hmlen : (madeCells #[Value.int .u8 0] n).toList.length = n := by simp [size_madeCells]
    have hsrc : ∀ (w1 : World), Below w.heap.size w w1 → ∀ (j : Nat) (v : Value), [Value.int .u8 x][j]? = some v → (w1.alloc (.cells (madeCells #[.int .u8 0] n) 5)).cell? (ad.add j) = some v := by
      intro w1 h1 j v hv
      match j, hv with
      | 0, hv =>
        simp only [List.getElem?_cons_zero, Option.some.injEq] at hv
        subst hv
        exact Lib.cell?_alloc_some _ ((h1.cell (World.block_lt_of_cell? w _ hcx)).trans hcx)
      | j + 1, hv => simp at hv
    have HSR := Aside0.mk hsrc
    clear hsrc
    have HCP := Aside0.mk hcopy
    have HML := Aside0.mk hmlen
    clear hcopy hmlen hk1
    clear hr0 hcell hcc hK hcel hce hcx h4 h1 h2 h3 hx H hc0
    go_enter Try.func61, Try.ntmps61
    go_wp2_with (first
      | (go_at_call 89; refine (bits_Mul.calls 1 (n : Int) 0 (n : Int) _ HM.out).mono ?_; rintro e w1 ⟨rfl, hb⟩; have HB1 := Aside0.mk (Drawn0.below hb); clear hb)
      | ((with_reducible refine gate_builtin (b := .copy) (xs := #[.tmp 31, .tmp 32]) rfl ?_); refine wpList_copy_splice rfl (.tmp 31) (.tmp 32) 76 76 rfl 5 Try.underlying76 size5 (some ⟨w1.heap.size, 0, none⟩) (some ad) n n 1 c0 rfl rfl w1.heap.size 0 (madeCells #[.int .u8 0] n).toList 5 (HCP.out w1) [.int .u8 x] (by show 1 = Nat.min 1 n; exact (Nat.min_eq_left n1).symm) (fun _ => ⟨rfl, ad, rfl, fun j v hv => HSR.out w1 HB1.out j v hv⟩) (by rw [HML.out]; show 0 + 1 ≤ n; omega) (by intro v hv; rw [List.mem_singleton.1 hv]; rfl) w.heap.size w (below_alloc HB1.out _) (below_size HB1.out) ?_; intro w2 hg2 hb2; have HG2 := Aside0.mk hg2.out; have HB2 := Aside0.mk hb2; clear hg2 hb2))
    go_loopg [8] n (fun gg s8 wr => ∃ j : Nat, s8 = .int .i64 j ∧ 1 ≤ j ∧ j ≤ n ∧ n - j ≤ gg ∧ Aside0 (∃ cur : List Value, wr.heap[w1.heap.size]? = some (.cells cur.toArray 5 (0, 0)) ∧ cur.length = n ∧ ∀ q, q < j → cur[q]? = some (.int .u8 x)) ∧ Aside0 (Below w.heap.size w wr))
    case atStart =>
      refine ⟨1, rfl, Nat.le_refl _, n1, by omega, ⟨_, HG2.out, by rw [length_splice _ _ _ (by rw [HML.out]; show 0 + 1 ≤ n; omega)]; exact HML.out, ?_⟩, HB2⟩
      intro q hq
      rw [splice_get _ _ _ (by rw [HML.out]; show 0 + 1 ≤ n; omega), if_neg (by omega), if_pos (by simpa using hq), show q = 0 by omega]
      rfl
    case round =>
      obtain ⟨j, rfl, hj1, hjn, hgg, HC, HBr⟩ := hrel
      by_cases hlt : j < n
      · have hltz : (j : Int) < (n : Int) := by omega
        obtain ⟨cur, hcur, hcl, hcv⟩ := HC.out
        have hcur2 : wr.drew.heap[w1.heap.size]? = some (.cells cur.toArray 5 (0, 0)) := hcur
        obtain ⟨m, hm⟩ : ∃ m, m = Nat.min j (n - j) := ⟨_, rfl⟩
        obtain ⟨cs, hcs⟩ : ∃ cs : List Value, cs = List.replicate m (.int .u8 x) := ⟨_, rfl⟩
        have hcsl : cs.length = m := by rw [hcs, List.length_replicate]
        have hm0 : m = min j (n - j) := hm
        have hm1 : 1 ≤ m := by omega
        have hm2 : j + m ≤ n := by omega
        have hsrc : ∀ (q : Nat) (v : Value), cs[q]? = some v → wr.drew.cell? ((⟨w1.heap.size, 0, none⟩ : Addr).add q) = some v := by
          intro q v hv
          have hq : q < m := by rw [← hcsl]; exact (List.getElem?_eq_some_iff.1 hv).1
          rw [hcs, List.getElem?_replicate, if_pos hq] at hv
          rw [add_plain, cell_of_row wr.drew _ _ cur.toArray 5 (0, 0) hcur2, List.getElem?_toArray]
          rw [← hv]
          exact hcv q (by omega)
        have HS := Aside0.mk hsrc
        have HG := Aside0.mk hcur2
        have HCV := Aside0.mk hcv
        have HCS := Aside0.mk hcs
        have HCSL := Aside0.mk hcsl
        have HCL := Aside0.mk hcl
        have HM0 := Aside0.mk hm0
        have HM1 := Aside0.mk hm
        have hbd : Below w.heap.size w wr.drew := below_drew HBr.out
        have HBD := Aside0.mk hbd
        clear hsrc hcur hcur2 hcv hcs hcsl hcl hm0 hm hbd
        go_wp2
        go_region_law (refine step_copy_splice rfl (.tmp 41) (.tmp 44) 76 76 rfl 5 Try.underlying76 size5 (some ⟨w1.heap.size, j, none⟩) (some ⟨w1.heap.size, 0, none⟩) (n - j) (n - j) j n (by simp [Act.eval, Act.put]; omega) (by simp [Act.eval, Act.put]) w1.heap.size j cur 5 HG.out cs (by rw [HCSL.out]; exact HM1.out) (fun _ => ⟨rfl, ⟨w1.heap.size, 0, none⟩, rfl, HS.out⟩) (by rw [HCSL.out, HCL.out]; exact hm2) (by rw [HCS.out]; intro v hv; rw [List.eq_of_mem_replicate hv]; rfl) w.heap.size w HBD.out (below_size HB1.out) ?_; intro w4 hg4 hb4)
        have HG4 := Aside0.mk hg4.out
        have HB4 := Aside0.mk hb4
        clear hg4 hb4
        go_wp2
        go_roundg (n - (j + m))
        case measure => omega
        case rel =>
          refine ⟨j + m, ?_, by omega, hm2, by omega, ⟨_, HG4.out, by rw [length_splice _ _ _ (by rw [HCSL.out, HCL.out]; exact hm2)]; exact HCL.out, ?_⟩, HB4⟩
          · rw [HCSL.out]
            have hw : IntKind.i64.wrap ((j : Int) + (m : Int)) = ((j + m : Nat) : Int) := by
              unfold IntKind.wrap
              simp [IntKind.bits]
              omega
            rw [hw]
          · intro q hq
            rw [splice_get _ _ _ (by rw [HCSL.out, HCL.out]; exact hm2)]
            by_cases h1 : q < j
            · rw [if_pos h1]
              exact HCV.out q h1
            · rw [if_neg h1, if_pos (by rw [HCSL.out]; exact hq), HCS.out, List.getElem?_replicate, if_pos (by omega)]
      · obtain rfl : j = n := by omega
        have hltz : ¬ (j : Int) < (j : Int) := by omega
        obtain ⟨cur, hcur, hcl, hcv⟩ := HC.out
        have HG := Aside0.mk hcur
        have HCL := Aside0.mk hcl
        have HCV := Aside0.mk hcv
        clear hcur hcl hcv
        go_wp2
        go_ret
        have hcl := HCL.out
        have hce : cur = nums .u8 (List.replicate j x) := by
          apply List.ext_getElem?
          intro q
          by_cases hq : q < j
          · rw [HCV.out q hq]
            simp [nums, hq]
          · rw [List.getElem?_eq_none (by omega), List.getElem?_eq_none (by simp [nums]; omega)]
        have hnl : (nums .u8 (List.replicate j x)).length = j := by simp [nums]
        refine ⟨_, rfl, ⟨fun _ _ => trivial, nums .u8 (List.replicate j x), ⟨?_, .inr ⟨w1.heap.size, j, cur.toArray, by rw [List.length_replicate]; rfl, below_size HB1.out, HG.out, by rw [List.length_replicate]; exact Nat.le_refl j, by unfold maxLen; omega, ?_, ?_⟩⟩, ?_, ?_⟩, HBr.out⟩
        · rw [hnl, List.length_replicate]
          exact (Nat.mul_one j).symm
        · show cur.length = j * 1
          omega
        · rw [List.length_replicate]
          show (cur.take (j * 1)) = _
          rw [Nat.mul_one, List.take_of_length_le (by omega), hce]
        · rw [hnl, List.length_replicate]
          exact (Nat.mul_one j).symm
        · intro q p hq
          show ((nums .u8 (List.replicate j x)).drop (q * 1)).take 1 = [.int .u8 p]
          have hql : q < j := by
            have := (List.getElem?_eq_some_iff.1 hq).1
            rwa [List.length_replicate] at this
          rw [List.getElem?_replicate, if_pos hql] at hq
          injection hq with hq
          subst hq
          rw [Nat.mul_one]
          apply List.ext_getElem?
          intro z
          rw [List.getElem?_take, List.getElem?_drop]
          match z with
          | 0 => simp [nums, hql]
          | z + 1 => simp
  · rw [if_neg hc] at H
    cases H

end Go.Proofs.Ytnikefebkcminaa.PFnExactPathOfFraction
