/- What functions compute, each function once: a walk and its plain law; the conditions stand in each theorem. -/
import Derived.Outline
import Derived.Test.YtfgeeigfbkiibaaZB
namespace Go.Proofs.Ytfgeeigfbkiibaa.X
open Go.RowKit Go.Proofs.YtfgeeigfbkiibaaW.PrintWords Go.Proofs.YtfgeeigfbkiibaaW.PrintLast Go.Proofs.YtfgeeigfbkiibaaW.PrintMore
open Go.Proofs.Ytfgeeigfbkiibaa.XFat
set_option linter.unusedVariables false
set_option linter.unusedSimpArgs false
set_option maxHeartbeats 4000000 in
set_option maxRecDepth 100000 in
theorem chain_nil (a : Int) (m : Value) (w : World) : Calls Try.prog 29 #[.pointer none, .int .i64 a, m] w fun e w' => e = .returned (.tuple #[.slice none 0 0, .int .i64 2]) ∧ w' = w := by
  go_enter Try.func29, Try.ntmps29
  go_wp2
  go_ret2
  exact ⟨rfl, rfl⟩
set_option maxHeartbeats 4000000 in
set_option maxRecDepth 100000 in
theorem runs_nil (v : Value) (a : Int) (w : World) : Calls Try.prog 35 #[.pointer none, v, .int .i64 a] w fun e w' => e = .returned (.slice none 0 0) ∧ w' = w := by
  go_enter Try.func35, Try.ntmps35
  go_wp2
  go_ret
  exact ⟨rfl, rfl⟩
set_option maxHeartbeats 4000000 in
set_option maxRecDepth 100000 in
theorem nils_walk (a0 : Int) (w : World) (w0 : (Lit.int .i64 a0).wf = true) : Calls Try.prog 8 #[.int .i64 a0] w fun e w' => e = .returned (.bool true) ∧ Below w.heap.size w w' := by
  have HM := Aside0.mk (fun W => made_go W)
  clear w0
  go_enter Try.func8, Try.ntmps8
  go_wp2_with (first | (go_at_call 22; refine (open_nil _).mono ?_; rintro e wx ⟨rfl, rfl⟩) | (go_at_call 29; refine (chain_nil _ _ _).mono ?_; rintro e wx ⟨rfl, rfl⟩) | (go_at_call 35; refine (runs_nil _ _ _).mono ?_; rintro e wx ⟨rfl, rfl⟩) | (go_at_call 23; refine (space_nil _).mono ?_; rintro e wx ⟨rfl, rfl⟩) | (go_at_call 9; refine (HM.out _).mono ?_; rintro e wy ⟨rfl, hb⟩))
  go_ret
  exact ⟨rfl, by first | exact hb | exact below_alloc hb _ | exact below_drew1 hb | exact below_alloc (below_drew1 hb) _ | exact below_drew1 (below_alloc hb _)⟩
end Go.Proofs.Ytfgeeigfbkiibaa.X

