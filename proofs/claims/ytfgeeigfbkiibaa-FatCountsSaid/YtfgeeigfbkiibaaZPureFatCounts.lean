/-
  What the law FatCounts computes is true of all numbers: no condition.
-/
import Derived.Test.YtfgeeigfbkiibaaZFatCx7
import Derived.Test.YtfgeeigfbkiibaaZB
namespace Go.Proofs.Ytfgeeigfbkiibaa.Pure
open Go.RowKit Go.Proofs.Ytfgeeigfbkiibaa.X Go.Proofs.Ytfgeeigfbkiibaa.XFat Go.Proofs.Ytfgeeigfbkiibaa.XFatC Go.Proofs.YtfgeeigfbkiibaaW.PrintWords Go.Proofs.YtfgeeigfbkiibaaW.PrintLast
theorem up {α : Type} {f : Nat → Option α} (h : ∀ k, LeO (f k) (f (k + 1))) (k j : Nat) {r : α} (hr : f k = some r) : f (k + j) = some r := by
  induction j with
  | zero => exact hr
  | succ j ih => exact h (k + j) r ih
theorem PutCounts_no (k : Nat) (a0 a1 : Int) (h : a0 < 0 ∨ a0 > 4294967295 ∨ a1 < 0 ∨ a1 > 4294967295) : fat_PutCounts.f (k + 1) a0 a1 = some ([], 4) := by
  have hj : fat_PutCounts.j0 (k + 1) true a0 a1 = some ([], 4) := by simp only [fat_PutCounts.j0, if_true]
  unfold fat_PutCounts.f
  by_cases h0 : a0 < 0
  · rw [if_pos h0]; exact hj
  · rw [if_neg h0]
    by_cases h1 : a0 > 4294967295
    · rw [if_pos h1]; exact hj
    · rw [if_neg h1]
      by_cases h2 : a1 < 0
      · rw [if_pos h2]; exact hj
      · rw [if_neg h2, show decide (a1 > 4294967295) = true by simp; omega]; exact hj
theorem With_spl (l : List Int) (a : Nat) (bs : List Int) (h : a + bs.length ≤ l.length) (hl : l.length < 140737488355328) : fettleref01_With.f l (a : Int) bs = some (spl l a bs) := by
  unfold fettleref01_With.f spl
  rw [if_pos ⟨by omega, by omega, by omega⟩, Int.toNat_natCast]
theorem CountsSector_f (a0 a1 : Int) (h0 : 0 ≤ a0) (h1 : a0 ≤ 4294967295) (g0 : 0 ≤ a1) (g1 : a1 ≤ 4294967295) : fettleref16_CountsSector.f 8 a0 a1 = some (countBytes a0 a1) := by
  have hz : fettleref01_Zeros.f 512 = some (zeros 512) := by unfold fettleref01_Zeros.f; rw [if_pos (by decide), if_pos (by decide)]; rfl
  have hb : ∀ v : Int, 0 ≤ v → v < 18446744073709551616 → fettleref01_Bytes.f 8 v 4 = some (le 4 v) := fun v hv hv2 => Bytes_yes 8 4 (by decide) (by decide) v hv hv2
  have n0 : (zeros 512).length = 512 := zeros_length 512
  have n1 : (spl (zeros 512) 0 (le 4 1096897106)).length = 512 := spl_len n0 (by rw [le_length]; decide)
  have n2 : (spl (spl (zeros 512) 0 (le 4 1096897106)) 484 (le 4 1631679090)).length = 512 := spl_len n1 (by rw [le_length]; decide)
  have n3 : (spl (spl (spl (zeros 512) 0 (le 4 1096897106)) 484 (le 4 1631679090)) 488 (le 4 a0)).length = 512 := spl_len n2 (by rw [le_length]; decide)
  have n4 : (spl (spl (spl (spl (zeros 512) 0 (le 4 1096897106)) 484 (le 4 1631679090)) 488 (le 4 a0)) 492 (le 4 a1)).length = 512 := spl_len n3 (by rw [le_length]; decide)
  have w0 := With_spl (zeros 512) 0 (le 4 1096897106) (by rw [n0, le_length]; decide) (by rw [n0]; decide)
  have w1 := With_spl _ 484 (le 4 1631679090) (by rw [n1, le_length]; decide) (by rw [n1]; decide)
  have w2 := With_spl _ 488 (le 4 a0) (by rw [n2, le_length]; decide) (by rw [n2]; decide)
  have w3 := With_spl _ 492 (le 4 a1) (by rw [n3, le_length]; decide) (by rw [n3]; decide)
  have w4 := With_spl _ 508 (le 4 2857697280) (by rw [n4, le_length]; decide) (by rw [n4]; decide)
  have u0 : IntKind.u64.wrap a0 = a0 := by rw [IntKind.wrap_u64]; omega
  have u1 : IntKind.u64.wrap a1 = a1 := by rw [IntKind.wrap_u64]; omega
  simp only [Int.natCast_zero, show ((484 : Nat) : Int) = 484 from rfl, show ((488 : Nat) : Int) = 488 from rfl, show ((492 : Nat) : Int) = 492 from rfl, show ((508 : Nat) : Int) = 508 from rfl] at w0 w1 w2 w3 w4
  unfold fettleref16_CountsSector.f
  simp only [hz, Option.bind_some, hb 1096897106 (by decide) (by decide), hb 1631679090 (by decide) (by decide), hb 2857697280 (by decide) (by decide), u0, u1, hb a0 h0 (by omega), hb a1 g0 (by omega), w0, w1, w2, w3, w4]
  rfl
theorem FatCounts : fettlelaw16_FatCounts.Pure := by
  intro a0 a1 _ _
  refine ⟨9, ?_⟩
  unfold fettlelaw16_FatCounts.f
  by_cases hv : 0 ≤ a0 ∧ a0 ≤ 4294967295 ∧ 0 ≤ a1 ∧ a1 ≤ 4294967295
  · obtain ⟨h0, h1, h2, h3⟩ := hv
    have hp : fat_PutCounts.f 9 a0 a1 = some (countBytes a0 a1, 0) := up (fat_PutCounts.mono a0 a1) 7 2 (PutCounts_yes a0 a1 h0 h1 h2 h3)
    have hq := ParseCounts_f (countBytes a0 a1) (countBytes_isB a0 a1) (countBytes_length a0 a1)
    rw [counts_back a0 a1 h0 (by omega) h2 (by omega)] at hq
    have hs : fettleref01_Same.f (countBytes a0 a1) (countBytes a0 a1) = some true := by unfold fettleref01_Same.f; simp
    rw [hp]
    simp only [Option.bind_some]
    rw [if_neg (by omega), if_neg (by omega), if_neg (by omega)]
    simp only [fettlelaw16_FatCounts.j0, show decide (a1 > 4294967295) = false by simp; omega, Bool.false_eq_true, if_false, hq, Option.bind_some, fettlelaw16_made.f, if_true, CountsSector_f a0 a1 h0 h1 h2 h3, hs]
    simp
  · have hp := PutCounts_no 8 a0 a1 (by omega)
    rw [hp]
    simp only [Option.bind_some]
    have hj : fettlelaw16_FatCounts.j0 9 a0 a1 [] 4 true = some true := by
      simp only [fettlelaw16_FatCounts.j0, if_true, fettlelaw16_made.f, Option.bind_some]
      rfl
    by_cases h0 : a0 < 0
    · rw [if_pos h0]; exact hj
    · rw [if_neg h0]
      by_cases h1 : a0 > 4294967295
      · rw [if_pos h1]; exact hj
      · rw [if_neg h1]
        by_cases h2 : a1 < 0
        · rw [if_pos h2]; exact hj
        · rw [if_neg h2, show decide (a1 > 4294967295) = true by simp; omega]; exact hj
end Go.Proofs.Ytfgeeigfbkiibaa.Pure
