/- How a ring of states lies in memory: one block, 17 states of 202 cells, the oldest frame and the count (plain lemmas). -/
import Derived.Test.YtodidkjajkjlaaaProg
import Derived.Deep.MidRow
import Derived.WalkKit
import Derived.KernelRfl
import Derived.Deep.QuietTactic
import Derived.BigQuiet
import Derived.StillTailTactics
import Derived.Deep.LoopGhost
import Derived.Deep.Draws
import Derived.Outline
import Derived.Test.YtodidkjajkjlaaaWEqStruct
import Derived.Test.YtodidkjajkjlaaaWLast
namespace Go.Proofs.Ytodidkjajkjlaaa.RingRep
open Go.RowKit Go.Proofs.YtodidkjajkjlaaaW.PrintWords Go.Proofs.YtodidkjajkjlaaaW.PrintLast
set_option linter.unusedVariables false
set_option linter.unusedSimpArgs false

/-- The cells of a state: 202 whole numbers. -/
def okS (s : List Value) : Prop := s.length = 202 ∧ ∀ v ∈ s, ∃ k m, v = .int k m

theorem okS.one {s : List Value} (h : okS s) : s.toArray.all (·.oneCell') = true :=
  all_oneCell_toArray fun v hv => by obtain ⟨k, m, rfl⟩ := h.2 v hv; rfl

/-- The cells of a ring. -/
def ringC (S : List (List Value)) (f n : Int) : List Value := S.flatten ++ [.int .i64 f, .int .i64 n]

structure RingAt (w : World) (g : Nat) (S : List (List Value)) (f n : Int) : Prop where
  blk : w.heap[g]? = some (.cells (ringC S f n).toArray 54 (0, 0))
  len : S.length = 17
  ok : ∀ s ∈ S, okS s

theorem flat_len {S : List (List Value)} (h : ∀ s ∈ S, okS s) : S.flatten.length = S.length * 202 := by
  induction S with
  | nil => rfl
  | cons s S ih =>
    rw [List.flatten_cons, List.length_append, ih (fun t ht => h t (by simp [ht])), (h s (by simp)).1, List.length_cons]
    omega

theorem flat_get {S : List (List Value)} (h : ∀ s ∈ S, okS s) : ∀ (i j : Nat), i < S.length → j < 202 → S.flatten[i * 202 + j]? = (S.getD i [])[j]? := by
  induction S with
  | nil => intro i j hi; simp at hi
  | cons s S ih =>
    intro i j hi hj
    have hs := (h s (by simp)).1
    rw [List.flatten_cons, List.getElem?_append]
    cases i with
    | zero => simp [hs, hj]
    | succ i =>
      rw [if_neg (by omega), hs, show (i + 1) * 202 + j - 202 = i * 202 + j by omega, ih (fun t ht => h t (by simp [ht])) i j (by simpa using hi) hj]
      simp

section
variable {w w' : World} {g : Nat} {S : List (List Value)} {f n : Int}

theorem RingAt.keep (h : RingAt w g S f n) (hk : w'.heap[g]? = w.heap[g]?) : RingAt w' g S f n := ⟨hk.trans h.blk, h.len, h.ok⟩
theorem RingAt.lt (h : RingAt w g S f n) : g < w.heap.size := by
  rcases Nat.lt_or_ge g w.heap.size with hlt | hge
  · exact hlt
  · have := h.blk; rw [Array.getElem?_eq_none hge] at this; cases this
theorem RingAt.cell (h : RingAt w g S f n) (j : Nat) : w.cell? ⟨g, j, none⟩ = (ringC S f n)[j]? := by
  rw [cell_of_row w g j _ 54 (0, 0) h.blk]; simp
theorem RingAt.frozen (h : RingAt w g S f n) (j : Nat) : w.frozen? ⟨g, j, none⟩ = false := by
  have := h.blk
  simp [World.frozen?, this]
theorem RingAt.first (h : RingAt w g S f n) : w.cell? ⟨g, 3434, none⟩ = some (.int .i64 f) := by
  rw [h.cell, ringC, List.getElem?_append, flat_len h.ok, h.len]; simp
theorem RingAt.count (h : RingAt w g S f n) : w.cell? ⟨g, 3435, none⟩ = some (.int .i64 n) := by
  rw [h.cell, ringC, List.getElem?_append, flat_len h.ok, h.len]; simp
theorem RingAt.get_ok (h : RingAt w g S f n) {i : Nat} (hi : i < 17) : okS (S.getD i []) := by
  have hl : i < S.length := by rw [h.len]; exact hi
  have : S.getD i [] = S[i] := by simp [List.getD, hl]
  rw [this]
  exact h.ok _ (List.getElem_mem hl)
theorem RingAt.range (h : RingAt w g S f n) {i : Nat} (hi : i < 17) : w.rangeAt g (i * 202) (S.getD i []) := fun j v hv => by
  have hl : j < 202 := by
    have := (List.getElem?_eq_some_iff.1 hv).1
    rw [(h.get_ok hi).1] at this; exact this
  rw [h.cell, ringC, List.getElem?_append, flat_len h.ok, h.len, if_pos (by omega), flat_get h.ok i j (by rw [h.len]; exact hi) hl]
  exact hv
theorem RingAt.there (h : RingAt w g S f n) {i : Nat} (hi : i < 17) : w.there g (i * 202) 202 := fun j hj => by
  refine ⟨?_, h.frozen _⟩
  have hl : j < (S.getD i []).length := by rw [(h.get_ok hi).1]; exact hj
  rw [h.range hi j _ (List.getElem?_eq_getElem hl)]; rfl

theorem RingAt.drew (h : RingAt w g S f n) : RingAt w.drew g S f n := h.keep rfl
theorem RingAt.drewN (h : RingAt w g S f n) (k : Nat) : RingAt (w.drewN k) g S f n := h.keep (blk_drewN h.blk k |>.trans h.blk.symm)
theorem RingAt.alloc (h : RingAt w g S f n) (o : Obj) : RingAt (w.alloc o) g S f n := h.keep (Below.heap_alloc w o g h.lt)
theorem RingAt.far (h : RingAt w g S f n) {p : Addr} (hp : g ≠ p.block) (u : Value) : RingAt (w.setCell p u) g S f n := h.keep (Below.heap_setCell w p u g hp)
theorem RingAt.below {B : Nat} (h : RingAt w g S f n) (hb : Below B w w') (hg : g < B) : RingAt w' g S f n := h.keep (hb.block g hg)

theorem set_first (hl : S.flatten.length = 3434) (f' : Int) : ((ringC S f n).toArray.setIfInBounds 3434 (.int .i64 f')) = (ringC S f' n).toArray := by
  simp [ringC, hl, List.set_append]
theorem set_count (hl : S.flatten.length = 3434) (n' : Int) : ((ringC S f n).toArray.setIfInBounds 3435 (.int .i64 n')) = (ringC S f n').toArray := by
  simp [ringC, hl, List.set_append]

theorem RingAt.flat (h : RingAt w g S f n) : S.flatten.length = 3434 := by rw [flat_len h.ok, h.len]

theorem RingAt.setFirst (h : RingAt w g S f n) (f' : Int) : RingAt (w.setCell ⟨g, 3434, none⟩ (.int .i64 f')) g S f' n := by
  refine ⟨?_, h.len, h.ok⟩
  have hb := h.blk
  simp only [World.setCell, Array.getElem?_modify, hb, if_true]
  simp only [Option.map_some, Option.isSome_none, Bool.false_eq_true, if_false]
  rw [set_first h.flat]
theorem RingAt.setCount (h : RingAt w g S f n) (n' : Int) : RingAt (w.setCell ⟨g, 3435, none⟩ (.int .i64 n')) g S f n' := by
  refine ⟨?_, h.len, h.ok⟩
  have hb := h.blk
  simp only [World.setCell, Array.getElem?_modify, hb, if_true]
  simp only [Option.map_some, Option.isSome_none, Bool.false_eq_true, if_false]
  rw [set_count h.flat]
end

/-- Many cells set in a block that is known whole. -/
theorem heap_setCells (t : TypeId) : ∀ (vs : List Value) (w : World) (g o : Nat) (C : List Value), w.heap[g]? = some (.cells C.toArray t (0, 0)) → o + vs.length ≤ C.length →
    (w.setCells g o vs).heap[g]? = some (.cells (C.take o ++ vs ++ C.drop (o + vs.length)).toArray t (0, 0))
  | [], w, g, o, C, hb, hl => by simp [World.setCells, hb]
  | v :: vs, w, g, o, C, hb, hl => by
    rw [World.setCells]
    have h1 : (w.setCell ⟨g, o, none⟩ v).heap[g]? = some (.cells (C.set o v).toArray t (0, 0)) := by
      simp only [World.setCell, Array.getElem?_modify, hb, if_true]
      simp
    have hlen : o + 1 + vs.length ≤ (C.set o v).length := by simp only [List.length_set, List.length_cons] at hl ⊢; omega
    rw [heap_setCells t vs _ g (o + 1) _ h1 hlen]
    congr 2
    have ho : o < C.length := by simp only [List.length_cons] at hl; omega
    have e1 : (C.set o v).take (o + 1) = C.take o ++ [v] := by
      have hm : min o C.length = o := by omega
      rw [List.take_set, List.take_succ_eq_append_getElem ho]
      rw [List.set_append_right _ _ (by simp; omega)]
      simp [hm]
    have e2 : (C.set o v).drop (o + 1 + vs.length) = C.drop (o + (v :: vs).length) := by
      rw [List.drop_set_of_lt (by omega)]
      congr 1
      simp only [List.length_cons]; omega
    rw [e1, e2]
    simp

theorem other_setCells : ∀ (vs : List Value) (w : World) (g o b : Nat), b ≠ g → (w.setCells g o vs).heap[b]? = w.heap[b]?
  | [], w, g, o, b, h => rfl
  | v :: vs, w, g, o, b, h => by
    rw [World.setCells, other_setCells vs _ g (o + 1) b h]
    exact Below.heap_setCell w ⟨g, o, none⟩ v b h
theorem size_setCells : ∀ (vs : List Value) (w : World) (g o : Nat), (w.setCells g o vs).heap.size = w.heap.size
  | [], w, g, o => rfl
  | v :: vs, w, g, o => by
    rw [World.setCells, size_setCells vs _ g (o + 1)]
    simp [World.setCell]

theorem flat_set {S : List (List Value)} (h : ∀ s ∈ S, okS s) : ∀ (i : Nat) (s : List Value), i < S.length → s.length = 202 →
    S.flatten.take (i * 202) ++ s ++ S.flatten.drop (i * 202 + 202) = (S.set i s).flatten := by
  induction S with
  | nil => intro i s hi; simp at hi
  | cons t S ih =>
    intro i s hi hs
    have ht := (h t (by simp)).1
    cases i with
    | zero => simp [ht, List.drop_append]
    | succ i =>
      have := ih (fun u hu => h u (by simp [hu])) i s (by simpa using hi) hs
      rw [List.set_cons_succ, List.flatten_cons, List.flatten_cons, ← this]
      rw [List.take_append, List.drop_append, ht]
      have e1 : List.take ((i + 1) * 202) t = t := List.take_of_length_le (by omega)
      have e2 : List.drop ((i + 1) * 202 + 202) t = [] := List.drop_of_length_le (by omega)
      rw [e1, e2, show (i + 1) * 202 - 202 = i * 202 by omega, show (i + 1) * 202 + 202 - 202 = i * 202 + 202 by omega]
      simp

theorem RingAt.put {w : World} {g : Nat} {S : List (List Value)} {f n : Int} (h : RingAt w g S f n) {i : Nat} (hi : i < 17) {s : List Value} (hs : okS s) : RingAt (w.setCells g (i * 202) s) g (S.set i s) f n := by
  have hf := h.flat
  refine ⟨?_, by simp [h.len], fun t ht => ?_⟩
  · rw [heap_setCells 54 s w g (i * 202) _ h.blk (by simp only [ringC, List.length_append, hf, hs.1]; simp; omega)]
    congr 2
    rw [ringC, ringC, ← flat_set h.ok i s (by rw [h.len]; exact hi) hs.1, hs.1]
    rw [List.take_append_of_le_length (by omega), List.drop_append_of_le_length (by omega)]
    simp
  · rcases List.mem_or_eq_of_mem_set ht with h1 | rfl
    · exact h.ok t h1
    · exact hs

/-! ### A state by value, in a block of its own -/
theorem run_load_box {w : World} {b : Nat} {s : List Value} (h : w.heap[b]? = some (.cells s.toArray 51 (0, 0))) (hs : s.length = 202) :
    (Instr.loadAt 51 (.pointer (some ⟨b, 0, none⟩))).run Try.prog w = .ok (.agg s.toArray) w := by
  have hl : w.rangeAt b 0 s := fun j v hv => by
    rw [cell_of_row w b (0 + j) _ 51 (0, 0) h]
    simpa using hv
  exact run_loadAt_mid w b 0 51 s _ hl Try.underlying51 rfl (by rw [hs]; kernel_rfl)

end Go.Proofs.Ytodidkjajkjlaaa.RingRep
