/- Printed out of the program's own text by a program of this session: what one function, or some, compute, and the walk that shows it; the conditions stand in each theorem. -/
import Derived.Test.YtfgeeigfbkiibaaZFatCx0
namespace Go.Proofs.Ytfgeeigfbkiibaa.XFatC
open Go.RowKit Go.Proofs.Ytfgeeigfbkiibaa.X Go.Proofs.Ytfgeeigfbkiibaa.XFat Go.Proofs.YtfgeeigfbkiibaaW.PrintWords Go.Proofs.YtfgeeigfbkiibaaW.PrintLast Go.Proofs.YtfgeeigfbkiibaaW.PrintMore
attribute [local go_sem] max2_int min2_int max_two min_two max_three min_three max_four min_four   -- for this text's walks alone
set_option linter.unusedVariables false
set_option linter.unusedSimpArgs false

/-! ### fettlelaw16_made: function 9 (by hand) -/

def fettlelaw16_made.f : Option Bool := some true
theorem fettlelaw16_made.calls (r : Bool) (w : World) (h : fettlelaw16_made.f = some r) :
    Calls Try.prog 9 #[] w fun e w' => e = .returned (.bool r) ∧ Below w.heap.size w w' := by
  obtain rfl := Option.some.inj h
  exact made_go w

end Go.Proofs.Ytfgeeigfbkiibaa.XFatC
