/- A slice literal of one state (a plain lemma on the operation). -/
import Derived.Test.YtodidkjajkjlaaaHave
import Derived.Great.BuildSlice
namespace Go.Proofs.Ytodidkjajkjlaaa.RingRep
open Go.RowKit

theorem fill_one (Z : Array Value) (hZ : Z.size = 202) (s : List Value) (hs : okS s) : Instr.fill (fun i => some (i * 202, 202)) Z [(0, .agg s.toArray)] = some s.toArray := by
  have hc : (Value.agg s.toArray).cells = s.toArray := rfl
  have h1 := hs.1
  have h := Great.fill_whole (s := 202) (by omega) [.agg s.toArray] Z (fun v hv => by
    obtain rfl : v = .agg s.toArray := by simpa using hv
    rw [hc, List.size_toArray, h1]) (by rw [hZ, List.length_singleton])
  refine h.trans ?_
  simp [hc]

section
variable {ops : Array Oper} {Q : Exit → Act → World → Prop} {a : Act} {o : Oper} {rest : List Oper} {w : World}
theorem info51z : ∃ ie, Try.prog.info? 51 = some ie ∧ ie.zero = some (.agg (atS 0 0).toArray) ∧ ie.size = 202 := by
  obtain ⟨i0, hi, hz0, hz1, hz2⟩ := info_parts info51
  exact ⟨i0, hi, hz0, hz1⟩
theorem wpList_buildOne (hgd : o.guard = none) (x : Operand) (ho : o.op = .buildSlice 63 1 #[(0, x)]) (s : List Value) (hx : a.eval x = .agg s.toArray) (hs : okS s)
    (h : wpList Try.prog ops Q rest (a.put o.dst (.slice (some ⟨w.heap.size, 0, none⟩) 1 1)) (w.alloc (.cells s.toArray 51))) : wpList Try.prog ops Q (o :: rest) a w := by
  obtain ⟨ie, hie, hz, hsz⟩ := info51z
  refine wpList_buildSlice hgd 63 51 1 #[(0, x)] ho s.toArray ie _ Try.underlying63 hie hz (by rw [hsz]; omega) (by rw [hsz]; omega) ?_ h
  rw [hsz]
  simp only [List.map_toArray, List.map_cons, List.map_nil, hx]
  exact fill_one _ (by simp) s hs
end
end Go.Proofs.Ytodidkjajkjlaaa.RingRep
