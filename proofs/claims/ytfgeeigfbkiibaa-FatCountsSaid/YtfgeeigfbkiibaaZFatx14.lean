/- Printed out of the program's own text by a program of this session: what one function, or some, compute, and the walk that shows it; the conditions stand in each theorem. -/
import Derived.Test.YtfgeeigfbkiibaaZFatx0
namespace Go.Proofs.Ytfgeeigfbkiibaa.XFat
open Go.RowKit Go.Proofs.Ytfgeeigfbkiibaa.X Go.Proofs.YtfgeeigfbkiibaaW.PrintWords Go.Proofs.YtfgeeigfbkiibaaW.PrintLast Go.Proofs.YtfgeeigfbkiibaaW.PrintMore
attribute [local go_sem] max2_int min2_int max_two min_two max_three min_three max_four min_four   -- for this text's walks alone
set_option linter.unusedVariables false
set_option linter.unusedSimpArgs false

/-! ### fettleref01_With: function 28 (by hand) -/

def fettleref01_With.f (l0 : List Int) (a1 : Int) (l2 : List Int) : Option (List Int) := if 0 ≤ a1 ∧ a1 + (l2.length : Int) ≤ (l0.length : Int) ∧ (l0.length : Int) < 140737488355328 then some (l0.take a1.toNat ++ l2 ++ l0.drop (a1.toNat + l2.length)) else none
set_option maxHeartbeats 1000000 in
set_option maxRecDepth 100000 in
theorem fettleref01_With.calls (A0 : Option Addr) (c0 : Nat) (l0 : List Int) (a1 : Int) (A2 : Option Addr) (c2 : Nat) (l2 : List Int) (r : List Int) (w : World) (hr0 : Kd.C (Kd.int .u8) w A0 l0.length l0) (hc0 : l0.length ≤ c0) (hr2 : Kd.C (Kd.int .u8) w A2 l2.length l2) (hc2 : l2.length ≤ c2) (h : fettleref01_With.f l0 a1 l2 = some r) :
    Calls Try.prog 28 #[.slice A0 l0.length c0, .int .i64 a1, .slice A2 l2.length c2] w fun e w' => ∃ v0_ : Value, e = .returned (v0_) ∧ Kd.R (Kd.int .u8) 5 w' w.heap.size (fun _ => True) v0_ r ∧ Below w.heap.size w w' := by
  unfold fettleref01_With.f at h
  split at h
  case isFalse => cases h
  case isTrue hh =>
    obtain ⟨h0, h1, h2⟩ := hh
    obtain rfl := Option.some.inj h
    clear h
    obtain ⟨A3, l3, c3, hs1, C1⟩ := cutTo (P := Try.prog) 24 5 Try.underlying24 info5 A0 c0 l0 a1 h0 (by omega) hc0
    obtain ⟨A4, l4, c4, hs2, C2⟩ := cutFrom (P := Try.prog) 24 5 Try.underlying24 info5 A0 c0 l0 (a1 + (l2.length : Int)) (by omega) h1 hc0
    have R0 := Aside0.mk hr0
    have R2 := Aside0.mk hr2
    have N1 : Aside0 ((l3.length : Int) = a1) := ⟨by rw [C1.is, List.length_take]; omega⟩
    have N2 : Aside0 ((l4.length : Int) = l0.length - a1 - l2.length) := ⟨by rw [C2.is, List.length_drop]; omega⟩
    have L := Aside0.mk h2
    have hlow : 0 ≤ (l2.length : Int) := by omega
    have hlow2 : a1 + (l2.length : Int) ≤ 9223372036854775807 := by omega
    clear hr0 hr2 h2
    go_enter Try.func28, Try.ntmps28
    go_wp2_with (first | ((with_reducible refine gate_builtin (b := .append) (xs := #[.tmp 8, .tmp 11]) rfl ?_); refine append_bytes (w0 := w) w.heap.size (.tmp 8) (.tmp 11) 24 24 5 5 rfl rfl Try.underlying24 Try.underlying24 info5 (.slice none 0 0) [] _ _ _ _ (fun _ => True) rfl rfl (fun _ _ => trivial) (Kd.R_nil _ _ _ _ _) (C1.reads _ R0.out) (Below.refl _ _) (Nat.le_refl _) ?aL ?_; (case aL => have := N1.out; have := L.out; simp only [List.length_nil]; omega); intro v1 w1 ho1 hb1 hg1 _; have O1 := Aside0.mk ho1; have B1 := Aside0.mk hb1; have G1 := Aside0.mk hg1; clear ho1 hb1 hg1) | ((with_reducible refine gate_builtin (b := .append) (xs := #[.tmp 13, .tmp 14]) rfl ?_); refine append_bytes (w0 := w) w.heap.size (.tmp 13) (.tmp 14) 24 24 5 5 rfl rfl Try.underlying24 Try.underlying24 info5 v1 ([] ++ l3) _ _ _ _ (fun _ => True) rfl rfl (fun _ _ => trivial) O1.out (Kd.C_below R2.out B1.out) B1.out B1.out.size ?aL ?_; (case aL => have := N1.out; have := L.out; simp only [List.length_append, List.length_nil]; omega); intro v2 w2 ho2 hb2 hg2 _; have O2 := Aside0.mk ho2; have B2 := Aside0.mk hb2; have G2 := Aside0.mk hg2; clear ho2 hb2 hg2) | ((with_reducible refine gate_builtin (b := .append) (xs := #[.tmp 16, .tmp 22]) rfl ?_); refine append_bytes (w0 := w) w.heap.size (.tmp 16) (.tmp 22) 24 24 5 5 rfl rfl Try.underlying24 Try.underlying24 info5 v2 ([] ++ l3 ++ l2) _ _ _ _ (fun _ => True) rfl rfl (fun _ _ => trivial) O2.out (C2.reads _ (Kd.C_below R0.out B2.out)) B2.out B2.out.size ?aL ?_; (case aL => have := N1.out; have := N2.out; have := L.out; simp only [List.length_append, List.length_nil]; omega); intro v3 w3 ho3 hb3 hg3 _; have O3 := Aside0.mk ho3; have B3 := Aside0.mk hb3; have G3 := Aside0.mk hg3; clear ho3 hb3 hg3))
    go_ret
    exact ⟨v3, rfl, by have := O3.out; rw [C1.is, C2.is, show (a1 + (l2.length : Int)).toNat = a1.toNat + l2.length by omega, List.nil_append] at this; exact this, B3.out⟩

end Go.Proofs.Ytfgeeigfbkiibaa.XFat
