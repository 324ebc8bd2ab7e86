/-
  No cell of these rows narrows 'for every input' (looked for: loops, veiled, ifaces, maps, wideKeys, modest, calm, conditions, laid).
  DERIVED. THE GIVEN ROWS OF THIS SEAT. 11 by the template 'for every input the law returns true; each argument reads behind the call as it read before'; 0 by the template 'total and deterministic' (their statements: YtodidkjajkjlaaaTotals.lean).
  GIVEN WITH THE SEED: the statements are not yours to turn. If you find one false, say at which input.
  Laid BY PROGRAM, IN A SANDBOX (cutbox-rows.mjs): the forced cells as the released guide's own fill.sh prints them over the translation 674cdba05b03af44… (all of the seat's roots in one cut). By AI agents, Wed Nov 11 2026. No macro, syntax, notation, axiom, sorry.
-/
import Derived.Test.YtodidkjajkjlaaaChecked
import GoSem.Claim
import GoSem.ClaimJoined
import GoSem.ClaimMapViews
import Derived.JoinedTies
import Derived.KernelRfl
namespace Go.Proofs.Ytodidkjajkjlaaa
/- THE CELL 'sum', in the pinned program and in every row, IS THE sha256 OF THE DUMP (.gsa) THAT YtodidkjajkjlaaaProg.lean LOADS. Nothing in Lean hashes anything: it is a label: what it is worth is what the hold of that sum in a sandbox is worth. -/
noncomputable def Try.pinned : Pinned := { name := "ytodidkjajkjlaaa", sum := "674cdba05b03af44c803dbf7f055e15cfad80d6ead4b7fea35d069b9f3b8e4f0", checked := Try.checked }
namespace Rows
def none {H : Type} : Left H := { results := [], args := [] }

/-- 'doubletakelaw10.DiceKnown': WHATEVER THE INPUT: true; the input reads as it did. -/
def diceKnownSpec : ChangeSpec := { name := "diceKnown", fn := fun _ => fun
  | [] => { results := [.lit (.bool true)], args := [] }
  | _ => none }
def diceKnownRow : OpenClaim := { program := "ytodidkjajkjlaaa", sum := "674cdba05b03af44c803dbf7f055e15cfad80d6ead4b7fea35d069b9f3b8e4f0", func := "doubletake/doubletakelaw10.DiceKnown", spec := "diceKnown", apart := false }
def DiceKnownSaid : Prop := diceKnownRow.holds Try.pinned (OpenSpec.ofChange diceKnownSpec)

/-- ITS FALSE NEIGHBOUR: 'it returns false'. Refute it at one input. -/
def diceKnownWrong : ChangeSpec := { name := "diceKnown", fn := fun _ => fun
  | [] => { results := [.lit (.bool false)], args := [] }
  | _ => none }
def DiceKnownWrongFalsely : Prop := diceKnownRow.holds Try.pinned (OpenSpec.ofChange diceKnownWrong)

/-- 'doubletakelaw10.DiceTells': WHATEVER THE INPUT: true; the input reads as it did. -/
def diceTellsSpec : ChangeSpec := { name := "diceTells", fn := fun _ => fun
  | [d1, d2, d3] => { results := [.lit (.bool true)], args := [d1, d2, d3] }
  | _ => none }
def diceTellsRow : OpenClaim := { program := "ytodidkjajkjlaaa", sum := "674cdba05b03af44c803dbf7f055e15cfad80d6ead4b7fea35d069b9f3b8e4f0", func := "doubletake/doubletakelaw10.DiceTells", spec := "diceTells", apart := false }
def DiceTellsSaid : Prop := diceTellsRow.holds Try.pinned (OpenSpec.ofChange diceTellsSpec)

/-- ITS FALSE NEIGHBOUR: 'it returns false'. Refute it at one input. -/
def diceTellsWrong : ChangeSpec := { name := "diceTells", fn := fun _ => fun
  | [d1, d2, d3] => { results := [.lit (.bool false)], args := [d1, d2, d3] }
  | _ => none }
def DiceTellsWrongFalsely : Prop := diceTellsRow.holds Try.pinned (OpenSpec.ofChange diceTellsWrong)

/-- 'doubletakelaw10.DiceRuns': WHATEVER THE INPUT: true; the input reads as it did. -/
def diceRunsSpec : ChangeSpec := { name := "diceRuns", fn := fun _ => fun
  | [d1, d2, d3] => { results := [.lit (.bool true)], args := [d1, d2, d3] }
  | _ => none }
def diceRunsRow : OpenClaim := { program := "ytodidkjajkjlaaa", sum := "674cdba05b03af44c803dbf7f055e15cfad80d6ead4b7fea35d069b9f3b8e4f0", func := "doubletake/doubletakelaw10.DiceRuns", spec := "diceRuns", apart := false }
def DiceRunsSaid : Prop := diceRunsRow.holds Try.pinned (OpenSpec.ofChange diceRunsSpec)

/-- ITS FALSE NEIGHBOUR: 'it returns false'. Refute it at one input. -/
def diceRunsWrong : ChangeSpec := { name := "diceRuns", fn := fun _ => fun
  | [d1, d2, d3] => { results := [.lit (.bool false)], args := [d1, d2, d3] }
  | _ => none }
def DiceRunsWrongFalsely : Prop := diceRunsRow.holds Try.pinned (OpenSpec.ofChange diceRunsWrong)

/-- 'doubletakelaw10.DiceRolls': WHATEVER THE INPUT: true; the input reads as it did. -/
def diceRollsSpec : ChangeSpec := { name := "diceRolls", fn := fun _ => fun
  | [d1, d2, d3] => { results := [.lit (.bool true)], args := [d1, d2, d3] }
  | _ => none }
def diceRollsRow : OpenClaim := { program := "ytodidkjajkjlaaa", sum := "674cdba05b03af44c803dbf7f055e15cfad80d6ead4b7fea35d069b9f3b8e4f0", func := "doubletake/doubletakelaw10.DiceRolls", spec := "diceRolls", apart := false }
def DiceRollsSaid : Prop := diceRollsRow.holds Try.pinned (OpenSpec.ofChange diceRollsSpec)

/-- ITS FALSE NEIGHBOUR: 'it returns false'. Refute it at one input. -/
def diceRollsWrong : ChangeSpec := { name := "diceRolls", fn := fun _ => fun
  | [d1, d2, d3] => { results := [.lit (.bool false)], args := [d1, d2, d3] }
  | _ => none }
def DiceRollsWrongFalsely : Prop := diceRollsRow.holds Try.pinned (OpenSpec.ofChange diceRollsWrong)

/-- 'doubletakelaw20.GuessKnown': WHATEVER THE INPUT: true; the input reads as it did. -/
def guessKnownSpec : ChangeSpec := { name := "guessKnown", fn := fun _ => fun
  | [] => { results := [.lit (.bool true)], args := [] }
  | _ => none }
def guessKnownRow : OpenClaim := { program := "ytodidkjajkjlaaa", sum := "674cdba05b03af44c803dbf7f055e15cfad80d6ead4b7fea35d069b9f3b8e4f0", func := "doubletake/doubletakelaw20.GuessKnown", spec := "guessKnown", unfollowed := true, recurses := true, apart := false }
def GuessKnownSaid : Prop := guessKnownRow.holds Try.pinned (OpenSpec.ofChange guessKnownSpec)

/-- ITS FALSE NEIGHBOUR: 'it returns false'. Refute it at one input. -/
def guessKnownWrong : ChangeSpec := { name := "guessKnown", fn := fun _ => fun
  | [] => { results := [.lit (.bool false)], args := [] }
  | _ => none }
def GuessKnownWrongFalsely : Prop := guessKnownRow.holds Try.pinned (OpenSpec.ofChange guessKnownWrong)

/-- 'doubletakelaw20.GuessTells': WHATEVER THE INPUT: true; the input reads as it did. -/
def guessTellsSpec : ChangeSpec := { name := "guessTells", fn := fun _ => fun
  | [d1, d2, d3, d4, d5, d6] => { results := [.lit (.bool true)], args := [d1, d2, d3, d4, d5, d6] }
  | _ => none }
def guessTellsRow : OpenClaim := { program := "ytodidkjajkjlaaa", sum := "674cdba05b03af44c803dbf7f055e15cfad80d6ead4b7fea35d069b9f3b8e4f0", func := "doubletake/doubletakelaw20.GuessTells", spec := "guessTells", unfollowed := true, recurses := true, apart := false }
def GuessTellsSaid : Prop := guessTellsRow.holds Try.pinned (OpenSpec.ofChange guessTellsSpec)

/-- ITS FALSE NEIGHBOUR: 'it returns false'. Refute it at one input. -/
def guessTellsWrong : ChangeSpec := { name := "guessTells", fn := fun _ => fun
  | [d1, d2, d3, d4, d5, d6] => { results := [.lit (.bool false)], args := [d1, d2, d3, d4, d5, d6] }
  | _ => none }
def GuessTellsWrongFalsely : Prop := guessTellsRow.holds Try.pinned (OpenSpec.ofChange guessTellsWrong)

/-- 'doubletakelaw20.GuessStays': WHATEVER THE INPUT: true; the input reads as it did. -/
def guessStaysSpec : ChangeSpec := { name := "guessStays", fn := fun _ => fun
  | [d1, d2, d3, d4, d5] => { results := [.lit (.bool true)], args := [d1, d2, d3, d4, d5] }
  | _ => none }
def guessStaysRow : OpenClaim := { program := "ytodidkjajkjlaaa", sum := "674cdba05b03af44c803dbf7f055e15cfad80d6ead4b7fea35d069b9f3b8e4f0", func := "doubletake/doubletakelaw20.GuessStays", spec := "guessStays", unfollowed := true, recurses := true, apart := false }
def GuessStaysSaid : Prop := guessStaysRow.holds Try.pinned (OpenSpec.ofChange guessStaysSpec)

/-- ITS FALSE NEIGHBOUR: 'it returns false'. Refute it at one input. -/
def guessStaysWrong : ChangeSpec := { name := "guessStays", fn := fun _ => fun
  | [d1, d2, d3, d4, d5] => { results := [.lit (.bool false)], args := [d1, d2, d3, d4, d5] }
  | _ => none }
def GuessStaysWrongFalsely : Prop := guessStaysRow.holds Try.pinned (OpenSpec.ofChange guessStaysWrong)

/-- 'doubletakelaw20.GuessOwn': WHATEVER THE INPUT: true; the input reads as it did. -/
def guessOwnSpec : ChangeSpec := { name := "guessOwn", fn := fun _ => fun
  | [d1, d2, d3, d4, d5] => { results := [.lit (.bool true)], args := [d1, d2, d3, d4, d5] }
  | _ => none }
def guessOwnRow : OpenClaim := { program := "ytodidkjajkjlaaa", sum := "674cdba05b03af44c803dbf7f055e15cfad80d6ead4b7fea35d069b9f3b8e4f0", func := "doubletake/doubletakelaw20.GuessOwn", spec := "guessOwn", unfollowed := true, recurses := true, apart := false }
def GuessOwnSaid : Prop := guessOwnRow.holds Try.pinned (OpenSpec.ofChange guessOwnSpec)

/-- ITS FALSE NEIGHBOUR: 'it returns false'. Refute it at one input. -/
def guessOwnWrong : ChangeSpec := { name := "guessOwn", fn := fun _ => fun
  | [d1, d2, d3, d4, d5] => { results := [.lit (.bool false)], args := [d1, d2, d3, d4, d5] }
  | _ => none }
def GuessOwnWrongFalsely : Prop := guessOwnRow.holds Try.pinned (OpenSpec.ofChange guessOwnWrong)

/-- 'doubletakelaw21.RingKeeps': WHATEVER THE INPUT: true; the input reads as it did. -/
def ringKeepsSpec : ChangeSpec := { name := "ringKeeps", fn := fun _ => fun
  | [d1, d2, d3, d4] => { results := [.lit (.bool true)], args := [d1, d2, d3, d4] }
  | _ => none }
def ringKeepsRow : OpenClaim := { program := "ytodidkjajkjlaaa", sum := "674cdba05b03af44c803dbf7f055e15cfad80d6ead4b7fea35d069b9f3b8e4f0", func := "doubletake/doubletakelaw21.RingKeeps", spec := "ringKeeps", apart := false }
def RingKeepsSaid : Prop := ringKeepsRow.holds Try.pinned (OpenSpec.ofChange ringKeepsSpec)

/-- ITS FALSE NEIGHBOUR: 'it returns false'. Refute it at one input. -/
def ringKeepsWrong : ChangeSpec := { name := "ringKeeps", fn := fun _ => fun
  | [d1, d2, d3, d4] => { results := [.lit (.bool false)], args := [d1, d2, d3, d4] }
  | _ => none }
def RingKeepsWrongFalsely : Prop := ringKeepsRow.holds Try.pinned (OpenSpec.ofChange ringKeepsWrong)

/-- 'doubletakelaw21.RingKnown': WHATEVER THE INPUT: true; the input reads as it did. -/
def ringKnownSpec : ChangeSpec := { name := "ringKnown", fn := fun _ => fun
  | [] => { results := [.lit (.bool true)], args := [] }
  | _ => none }
def ringKnownRow : OpenClaim := { program := "ytodidkjajkjlaaa", sum := "674cdba05b03af44c803dbf7f055e15cfad80d6ead4b7fea35d069b9f3b8e4f0", func := "doubletake/doubletakelaw21.RingKnown", spec := "ringKnown", apart := false }
def RingKnownSaid : Prop := ringKnownRow.holds Try.pinned (OpenSpec.ofChange ringKnownSpec)

/-- ITS FALSE NEIGHBOUR: 'it returns false'. Refute it at one input. -/
def ringKnownWrong : ChangeSpec := { name := "ringKnown", fn := fun _ => fun
  | [] => { results := [.lit (.bool false)], args := [] }
  | _ => none }
def RingKnownWrongFalsely : Prop := ringKnownRow.holds Try.pinned (OpenSpec.ofChange ringKnownWrong)

/-- 'doubletakelaw21.RingActs': WHATEVER THE INPUT: true; the input reads as it did. -/
def ringActsSpec : ChangeSpec := { name := "ringActs", fn := fun _ => fun
  | [d] => { results := [.lit (.bool true)], args := [d] }
  | _ => none }
def ringActsRow : OpenClaim := { program := "ytodidkjajkjlaaa", sum := "674cdba05b03af44c803dbf7f055e15cfad80d6ead4b7fea35d069b9f3b8e4f0", func := "doubletake/doubletakelaw21.RingActs", spec := "ringActs", apart := false }
def RingActsSaid : Prop := ringActsRow.holds Try.pinned (OpenSpec.ofChange ringActsSpec)

/-- ITS FALSE NEIGHBOUR: 'it returns false'. Refute it at one input. -/
def ringActsWrong : ChangeSpec := { name := "ringActs", fn := fun _ => fun
  | [d] => { results := [.lit (.bool false)], args := [d] }
  | _ => none }
def RingActsWrongFalsely : Prop := ringActsRow.holds Try.pinned (OpenSpec.ofChange ringActsWrong)

/- THE SECOND FORM. 'bulk': how many values and letters a reading holds, each counted each time it is reached (what is shared counts as often as it is met; a slice's spare places count too). A statement '..UptoSaid' is the law's where the arguments, and the package variables that the reading takes, are together of bulk at most 1048576: NARROWER than '..Said'. Prove '..Said' where nothing that the law and all that it calls make is longer than what came in: it says more and counts as full. Else prove '..UptoSaid'. A law counts once. -/
mutual
def uptoBulk {H : Type} : DataW H → Nat
  | .lit (.string bytes) => bytes.length + 1
  | .lit _ => 1
  | .nil => 1
  | .ptr d => uptoBulk d + 1
  | .slice elems spare => uptoBulkAll elems + uptoBulkAll spare + 1
  | .agg parts => uptoBulkAll parts + 1
  | .iface _ d => uptoBulk d + 1
  | .map entries => uptoBulkEntries entries + 1
  | .held _ => 1
def uptoBulkAll {H : Type} : List (DataW H) → Nat
  | [] => 0
  | d :: r => uptoBulk d + uptoBulkAll r
def uptoBulkEntries {H : Type} : List (Lit × DataW H) → Nat
  | [] => 0
  | x :: r => uptoBulkEntry x + uptoBulkEntries r
def uptoBulkEntry {H : Type} : Lit × DataW H → Nat
  | (.string bytes, d) => bytes.length + uptoBulk d + 1
  | (_, d) => uptoBulk d + 1
 end
def uptoSmall : (H : Type) → List (DataW H) → Bool := fun _ ds => decide (uptoBulkAll ds ≤ 1048576)
def OpenSpec.upto (s : _root_.Go.ChangeSpec) : _root_.Go.OpenSpec := { _root_.Go.OpenSpec.ofChange s with cond := some uptoSmall }

/-- 'doubletakelaw10.DiceKnown', WHERE WHAT IT READS IS OF BULK AT MOST 1048576: true; the input reads as it did. -/
def diceKnownUptoRow : OpenClaim := { program := "ytodidkjajkjlaaa", sum := "674cdba05b03af44c803dbf7f055e15cfad80d6ead4b7fea35d069b9f3b8e4f0", func := "doubletake/doubletakelaw10.DiceKnown", spec := "diceKnown", apart := false, narrowed := true }
def DiceKnownUptoSaid : Prop := diceKnownUptoRow.holds Try.pinned (OpenSpec.upto diceKnownSpec)

/-- 'doubletakelaw10.DiceTells', WHERE WHAT IT READS IS OF BULK AT MOST 1048576: true; the input reads as it did. -/
def diceTellsUptoRow : OpenClaim := { program := "ytodidkjajkjlaaa", sum := "674cdba05b03af44c803dbf7f055e15cfad80d6ead4b7fea35d069b9f3b8e4f0", func := "doubletake/doubletakelaw10.DiceTells", spec := "diceTells", apart := false, narrowed := true }
def DiceTellsUptoSaid : Prop := diceTellsUptoRow.holds Try.pinned (OpenSpec.upto diceTellsSpec)

/-- 'doubletakelaw10.DiceRuns', WHERE WHAT IT READS IS OF BULK AT MOST 1048576: true; the input reads as it did. -/
def diceRunsUptoRow : OpenClaim := { program := "ytodidkjajkjlaaa", sum := "674cdba05b03af44c803dbf7f055e15cfad80d6ead4b7fea35d069b9f3b8e4f0", func := "doubletake/doubletakelaw10.DiceRuns", spec := "diceRuns", apart := false, narrowed := true }
def DiceRunsUptoSaid : Prop := diceRunsUptoRow.holds Try.pinned (OpenSpec.upto diceRunsSpec)

/-- 'doubletakelaw10.DiceRolls', WHERE WHAT IT READS IS OF BULK AT MOST 1048576: true; the input reads as it did. -/
def diceRollsUptoRow : OpenClaim := { program := "ytodidkjajkjlaaa", sum := "674cdba05b03af44c803dbf7f055e15cfad80d6ead4b7fea35d069b9f3b8e4f0", func := "doubletake/doubletakelaw10.DiceRolls", spec := "diceRolls", apart := false, narrowed := true }
def DiceRollsUptoSaid : Prop := diceRollsUptoRow.holds Try.pinned (OpenSpec.upto diceRollsSpec)

/-- 'doubletakelaw20.GuessKnown', WHERE WHAT IT READS IS OF BULK AT MOST 1048576: true; the input reads as it did. -/
def guessKnownUptoRow : OpenClaim := { program := "ytodidkjajkjlaaa", sum := "674cdba05b03af44c803dbf7f055e15cfad80d6ead4b7fea35d069b9f3b8e4f0", func := "doubletake/doubletakelaw20.GuessKnown", spec := "guessKnown", unfollowed := true, recurses := true, apart := false, narrowed := true }
def GuessKnownUptoSaid : Prop := guessKnownUptoRow.holds Try.pinned (OpenSpec.upto guessKnownSpec)

/-- 'doubletakelaw20.GuessTells', WHERE WHAT IT READS IS OF BULK AT MOST 1048576: true; the input reads as it did. -/
def guessTellsUptoRow : OpenClaim := { program := "ytodidkjajkjlaaa", sum := "674cdba05b03af44c803dbf7f055e15cfad80d6ead4b7fea35d069b9f3b8e4f0", func := "doubletake/doubletakelaw20.GuessTells", spec := "guessTells", unfollowed := true, recurses := true, apart := false, narrowed := true }
def GuessTellsUptoSaid : Prop := guessTellsUptoRow.holds Try.pinned (OpenSpec.upto guessTellsSpec)

/-- 'doubletakelaw20.GuessStays', WHERE WHAT IT READS IS OF BULK AT MOST 1048576: true; the input reads as it did. -/
def guessStaysUptoRow : OpenClaim := { program := "ytodidkjajkjlaaa", sum := "674cdba05b03af44c803dbf7f055e15cfad80d6ead4b7fea35d069b9f3b8e4f0", func := "doubletake/doubletakelaw20.GuessStays", spec := "guessStays", unfollowed := true, recurses := true, apart := false, narrowed := true }
def GuessStaysUptoSaid : Prop := guessStaysUptoRow.holds Try.pinned (OpenSpec.upto guessStaysSpec)

/-- 'doubletakelaw20.GuessOwn', WHERE WHAT IT READS IS OF BULK AT MOST 1048576: true; the input reads as it did. -/
def guessOwnUptoRow : OpenClaim := { program := "ytodidkjajkjlaaa", sum := "674cdba05b03af44c803dbf7f055e15cfad80d6ead4b7fea35d069b9f3b8e4f0", func := "doubletake/doubletakelaw20.GuessOwn", spec := "guessOwn", unfollowed := true, recurses := true, apart := false, narrowed := true }
def GuessOwnUptoSaid : Prop := guessOwnUptoRow.holds Try.pinned (OpenSpec.upto guessOwnSpec)

/-- 'doubletakelaw21.RingKeeps', WHERE WHAT IT READS IS OF BULK AT MOST 1048576: true; the input reads as it did. -/
def ringKeepsUptoRow : OpenClaim := { program := "ytodidkjajkjlaaa", sum := "674cdba05b03af44c803dbf7f055e15cfad80d6ead4b7fea35d069b9f3b8e4f0", func := "doubletake/doubletakelaw21.RingKeeps", spec := "ringKeeps", apart := false, narrowed := true }
def RingKeepsUptoSaid : Prop := ringKeepsUptoRow.holds Try.pinned (OpenSpec.upto ringKeepsSpec)

/-- 'doubletakelaw21.RingKnown', WHERE WHAT IT READS IS OF BULK AT MOST 1048576: true; the input reads as it did. -/
def ringKnownUptoRow : OpenClaim := { program := "ytodidkjajkjlaaa", sum := "674cdba05b03af44c803dbf7f055e15cfad80d6ead4b7fea35d069b9f3b8e4f0", func := "doubletake/doubletakelaw21.RingKnown", spec := "ringKnown", apart := false, narrowed := true }
def RingKnownUptoSaid : Prop := ringKnownUptoRow.holds Try.pinned (OpenSpec.upto ringKnownSpec)

/-- 'doubletakelaw21.RingActs', WHERE WHAT IT READS IS OF BULK AT MOST 1048576: true; the input reads as it did. -/
def ringActsUptoRow : OpenClaim := { program := "ytodidkjajkjlaaa", sum := "674cdba05b03af44c803dbf7f055e15cfad80d6ead4b7fea35d069b9f3b8e4f0", func := "doubletake/doubletakelaw21.RingActs", spec := "ringActs", apart := false, narrowed := true }
def RingActsUptoSaid : Prop := ringActsUptoRow.holds Try.pinned (OpenSpec.upto ringActsSpec)

end Rows
end Go.Proofs.Ytodidkjajkjlaaa
