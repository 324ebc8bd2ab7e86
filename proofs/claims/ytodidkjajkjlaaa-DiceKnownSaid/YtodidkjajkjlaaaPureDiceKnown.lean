/- The closed example of chapter 10 answers true. -/
import Derived.Test.YtodidkjajkjlaaaPDiceKnownx1
import Derived.KernelRfl
namespace Go.Proofs.Ytodidkjajkjlaaa.Pure
open Go.RowKit Go.Proofs.Ytodidkjajkjlaaa.PDiceKnown Go.Proofs.YtodidkjajkjlaaaW.PrintWords Go.Proofs.YtodidkjajkjlaaaW.PrintLast

theorem DiceKnown : doubletakelaw10_DiceKnown.Pure := by
  show doubletakelaw10_DiceKnown.f = some true
  kernel_rfl

end Go.Proofs.Ytodidkjajkjlaaa.Pure
