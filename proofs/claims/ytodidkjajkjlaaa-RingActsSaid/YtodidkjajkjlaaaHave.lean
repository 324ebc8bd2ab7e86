/- A slice of states that the call owns, wherever in its row it lies: cut, and appended to (plain lemmas on append). -/
import Derived.Test.YtodidkjajkjlaaaRingKeepsL
import Derived.ArgAppend
import Derived.Laws.AppendOwn
namespace Go.Proofs.Ytodidkjajkjlaaa.RingRep
open Go.RowKit Go.Proofs.YtodidkjajkjlaaaW.PrintWords Go.Proofs.YtodidkjajkjlaaaW.PrintLast Go.Proofs.YtodidkjajkjlaaaW.PrintMore
set_option linter.unusedVariables false
set_option linter.unusedSimpArgs false

/-- The slice v holds the states xs, in a row of the call's own. -/
def HaveAt (w : World) (B : Nat) (v : Value) (xs : List (List Value)) : Prop :=
  (∀ s ∈ xs, okS s) ∧ ((v = .slice none 0 0 ∧ xs = []) ∨
    ∃ (b o c : Nat) (C : List Value), v = .slice (some ⟨b, o * 202, none⟩) xs.length c ∧ xs.length ≤ c ∧ c ≤ maxLen ∧ B ≤ b ∧ w.heap[b]? = some (.cells C.toArray 51 (0, 0)) ∧ (o + c) * 202 ≤ C.length ∧
      ∀ j u, xs.flatten[j]? = some u → C[o * 202 + j]? = some u)

theorem HaveAt.nil (w : World) (B : Nat) : HaveAt w B (.slice none 0 0) [] := ⟨by simp, .inl ⟨rfl, rfl⟩⟩
theorem HaveAt.keep {w w' : World} {B : Nat} {v : Value} {xs : List (List Value)} (h : HaveAt w B v xs) (hk : ∀ b C, v.ownBlock = some b → w.heap[b]? = some (.cells C 51 (0, 0)) → w'.heap[b]? = w.heap[b]?) : HaveAt w' B v xs := by
  refine ⟨h.1, ?_⟩
  rcases h.2 with h2 | ⟨b, o, c, C, rfl, h3, h4, h5, h6, h7⟩
  · exact .inl h2
  · exact .inr ⟨b, o, c, C, rfl, h3, h4, h5, (hk b _ rfl h6).trans h6, h7⟩
theorem HaveAt.lt {w : World} {B : Nat} {v : Value} {xs : List (List Value)} (h : HaveAt w B v xs) (b : Nat) (hb : v.ownBlock = some b) : b < w.heap.size ∧ B ≤ b ∧ ∃ C, w.heap[b]? = some (.cells C 51 (0, 0)) := by
  rcases h.2 with ⟨rfl, _⟩ | ⟨b', o, c, C, rfl, h3, h4, h5, h6, h7⟩
  · simp [Value.ownBlock] at hb
  · have : b' = b := by simpa [Value.ownBlock] using hb
    subst this
    exact ⟨blk_lt h6, h5, _, h6⟩
theorem HaveAt.below {w w' : World} {B : Nat} {v : Value} {xs : List (List Value)} (h : HaveAt w B v xs) (hb : Below w.heap.size w w') : HaveAt w' B v xs := h.keep fun b _ e _ => hb.block b (h.lt b e).1
theorem HaveAt.only {w w' : World} {B g : Nat} {v : Value} {xs : List (List Value)} {S : List (List Value)} {f n : Int} (h : HaveAt w B v xs) (hr : RingAt w g S f n) (hb : Only g w w') : HaveAt w' B v xs := h.keep fun b C e hC => by
  have hne : b ≠ g := by
    rintro rfl
    have := hr.blk
    rw [hC] at this
    injection this with this
    injection this with _ h2
    exact absurd h2 (by decide)
  exact hb.block b (h.lt b e).1 hne
theorem HaveAt.slice {w : World} {B : Nat} {v : Value} {xs : List (List Value)} (h : HaveAt w B v xs) : ∃ A c, v = .slice A xs.length c ∧ xs.length ≤ c := by
  rcases h.2 with ⟨rfl, rfl⟩ | ⟨b, o, c, C, rfl, h3, _⟩
  · exact ⟨none, 0, rfl, by simp⟩
  · exact ⟨_, c, rfl, h3⟩

theorem flatten_take {xs : List (List Value)} (h : ∀ s ∈ xs, okS s) (k : Nat) : ∀ (j : Nat) (u : Value), (xs.take k).flatten[j]? = some u → xs.flatten[j]? = some u := by
  intro j u hj
  have e : xs.flatten = (xs.take k).flatten ++ (xs.drop k).flatten := by rw [← List.flatten_append, List.take_append_drop]
  rw [e, List.getElem?_append, if_pos (List.getElem?_eq_some_iff.1 hj).1]
  exact hj
theorem flatten_drop {xs : List (List Value)} (h : ∀ s ∈ xs, okS s) (k : Nat) (hk : k ≤ xs.length) : ∀ (j : Nat) (u : Value), (xs.drop k).flatten[j]? = some u → xs.flatten[k * 202 + j]? = some u := by
  intro j u hj
  have e : xs.flatten = (xs.take k).flatten ++ (xs.drop k).flatten := by rw [← List.flatten_append, List.take_append_drop]
  have hl : (xs.take k).flatten.length = k * 202 := by
    rw [flat_len (fun s hs => h s (List.mem_of_mem_take hs)), List.length_take, Nat.min_eq_left hk]
  rw [e, List.getElem?_append, if_neg (by omega), hl, show k * 202 + j - k * 202 = j by omega]
  exact hj

/-- The first k of it. -/
theorem HaveAt.take {w : World} {B : Nat} {A : Option Addr} {n c : Nat} {xs : List (List Value)} (h : HaveAt w B (.slice A n c) xs) (k : Nat) (hk : k ≤ n) : HaveAt w B (.slice A k c) (xs.take k) := by
  refine ⟨fun s hs => h.1 s (List.mem_of_mem_take hs), ?_⟩
  rcases h.2 with ⟨hv, rfl⟩ | ⟨b, o, c', C, hv, h3, h4, h5, h6, h7, h8⟩
  · injection hv with e1 e2 e3
    subst e1 e2 e3
    have : k = 0 := by omega
    subst this
    exact .inl ⟨rfl, by simp⟩
  · injection hv with e1 e2 e3
    subst e1 e2 e3
    refine .inr ⟨b, o, c, C, ?_, ?_, h4, h5, h6, h7, fun j u hj => h8 j u (flatten_take h.1 k j u hj)⟩
    · rw [List.length_take, Nat.min_eq_left hk]
    · rw [List.length_take]; omega
/-- All but the first k of it. -/
theorem HaveAt.drop {w : World} {B : Nat} {A : Option Addr} {n c : Nat} {xs : List (List Value)} (h : HaveAt w B (.slice A n c) xs) (k : Nat) (hk : k ≤ n) (hn : n ≤ c) :
    HaveAt w B (.slice (if c = k then A else A.map (·.add (k * 202))) (n - k) (c - k)) (xs.drop k) := by
  refine ⟨fun s hs => h.1 s (List.mem_of_mem_drop hs), ?_⟩
  rcases h.2 with ⟨hv, rfl⟩ | ⟨b, o, c', C, hv, h3, h4, h5, h6, h7, h8⟩
  · injection hv with e1 e2 e3
    subst e1 e2 e3
    have : k = 0 := by omega
    subst this
    exact .inl ⟨by simp, by simp⟩
  · injection hv with e1 e2 e3
    subst e1 e2 e3
    right
    by_cases hc : c = k
    · rw [if_pos hc]
      have hx : xs.drop k = [] := List.drop_of_length_le (by omega)
      rw [hx]
      have h9 : (o + (c - k)) * 202 ≤ (o + c) * 202 := Nat.mul_le_mul_right _ (by omega)
      exact ⟨b, o, c - k, C, by simp; omega, by simp, by omega, h5, h6, Nat.le_trans h9 h7, by simp⟩
    · rw [if_neg hc]
      refine ⟨b, o + k, c - k, C, ?_, ?_, by omega, h5, h6, ?_, fun j u hj => ?_⟩
      · rw [List.length_drop]
        have : (⟨b, o * 202, none⟩ : Addr).add (k * 202) = ⟨b, (o + k) * 202, none⟩ := by
          unfold Addr.add
          split
          · have : k = 0 := by omega
            subst this; simp
          · rw [Nat.add_mul]
        simp [this]
      · rw [List.length_drop]; omega
      · rw [show o + k + (c - k) = o + c by omega]; exact h7
      · rw [Nat.add_mul, Nat.add_assoc]
        exact h8 _ u (flatten_drop h.1 k (by omega) j u hj)

theorem info51 : (Try.prog.info? 51).map (fun i => (i.zero, i.size, i.bytes)) = some (some (.agg (atS 0 0).toArray), 202, 1616) := by kernel_rfl

/-- Of an owned row: it is such a slice. -/
theorem HaveAt.of_own {w : World} {B base : Nat} {v : Value} {n : Nat} {xs : List (List Value)} (hx : ∀ s ∈ xs, okS s) (hn : xs.length = n) (hb : B ≤ base) (h : w.ownsRow base 51 202 v n xs.flatten) : HaveAt w B v xs := by
  refine ⟨hx, ?_⟩
  rcases h.2 with ⟨rfl, rfl⟩ | ⟨g, cap, cur, rfl, h1, h2, h3, h4, h5, h6⟩
  · exact .inl ⟨rfl, List.eq_nil_of_length_eq_zero hn⟩
  · refine .inr ⟨g, 0, cap, cur.toList, by simp [hn], by omega, h4, by omega, by simpa using h2, by simp [h5], fun j u hj => ?_⟩
    rw [← h6] at hj
    rw [List.getElem?_take] at hj
    split at hj
    · simpa using hj
    · cases hj

theorem run_append_zero {w : World} (ty : TypeId) (A A' : Option Addr) (n c c' : Nat) (hn : n ≤ c) : (Builtin.append_ #[63, 63] ty #[.slice A n c, .slice A' 0 c']).run Try.prog w = .ok (.slice A n c) w := by
  have hs : (sizeOf 51).run Try.prog w = .ok 202 w := by kernel_rfl
  cases A' <;> cases A <;> simp [Builtin.append_, run_underlying Try.underlying63, hs, Builtin.lenOf, Builtin.firstCells, hn, loadCells, loadCellsFrom, storeCells]

/-- append: what it makes. -/
theorem run_append_have {w : World} {B : Nat} {v : Value} {xs : List (List Value)} (h : HaveAt w B v xs) (ty : TypeId) (A : Option Addr) (m c : Nat) (ys : List (List Value)) (hm : ys.length = m) (hy : ∀ s ∈ ys, okS s)
    (hsrc : 0 < m → ∃ ad, A = some ad ∧ ∀ j u, ys.flatten[j]? = some u → w.cell? (ad.add j) = some u) (hx : xs.length ≤ 1000) (hm2 : m ≤ 1000) (hB : B ≤ w.heap.size) :
    ∃ v' w', (Builtin.append_ #[63, 63] ty #[v, .slice A m c]).run Try.prog w = .ok v' w' ∧ HaveAt w' B v' (xs ++ ys) ∧ w.grownBy w' v.ownBlock ∧ ∀ b, v'.ownBlock = some b → v.ownBlock = some b ∨ w.heap.size ≤ b := by
  obtain ⟨i0, hi, hz0, hz1, hz2⟩ := info_parts info51
  have hall : ∀ s ∈ xs ++ ys, okS s := fun s hs => by
    rcases List.mem_append.1 hs with h1 | h1
    · exact h.1 s h1
    · exact hy s h1
  have hyl : ys.flatten.length = m * 202 := by rw [flat_len hy, hm]
  have h1c : ∀ u ∈ ys.flatten, u.oneCell' = true := fun u hu => by
    obtain ⟨s, hs, hus⟩ := List.mem_flatten.1 hu
    obtain ⟨k, q, rfl⟩ := (hy s hs).2 u hus
    rfl
  have hmx : maxLen = 9223372036854775807 ∨ 1000000 ≤ maxLen := .inr (by unfold maxLen; omega)
  rcases Nat.eq_zero_or_pos m with h0 | h0
  · subst h0
    obtain ⟨A', c', rfl, hc'⟩ := h.slice
    have : ys = [] := List.eq_nil_of_length_eq_zero hm
    subst this
    exact ⟨_, w, run_append_zero ty A' A _ c' c hc', by rw [List.append_nil]; exact h, ⟨rfl, rfl, rfl, Nat.le_refl _, fun _ _ _ => rfl⟩, fun b hb => .inl hb⟩
  · obtain ⟨ad, rfl, hcell⟩ := hsrc h0
    rcases h.2 with ⟨rfl, rfl⟩ | ⟨b, o, cp, C, rfl, h3, h4, h5, h6, h7, h8⟩
    · obtain ⟨v', w', hr, ho, hg, _⟩ := run_append_own (P := Try.prog) w w.heap.size 63 ty 51 i0 _ 202 1616 Try.underlying63 hi hz0 hz1 hz2 (by show (atS 0 0).toArray.size = 202; rw [List.size_toArray]; exact (atS_ok 0 0).1) (by omega) (.slice none 0 0) 0 [] (World.ownsRow_nil w _ 51 202) ad m c ys.flatten hyl hcell h1c (by unfold maxLen; omega) (by omega) (Nat.le_refl _)
      refine ⟨v', w', hr, HaveAt.of_own hall (by simpa using hm) hB (by simpa using ho), hg, fun b hb => .inr ?_⟩
      rcases ho.2 with ⟨rfl, _⟩ | ⟨g, cap, cur, rfl, h1, _⟩
      · simp [Value.ownBlock] at hb
      · have : g = b := by simpa [Value.ownBlock] using hb
        omega
    · by_cases hroom : xs.length + m ≤ cp
      · have hxl : xs.flatten.length = xs.length * 202 := flat_len h.1
        have hsp : ∀ j, j < ys.flatten.length → (w.cell? ⟨b, o * 202 + xs.length * i0.size + j, none⟩).isSome = true ∧ w.frozen? ⟨b, o * 202 + xs.length * i0.size + j, none⟩ = false := fun j hj => by
          rw [hz1]
          have hlt : o * 202 + xs.length * 202 + j < C.length := by
            have : (o + xs.length + m) * 202 ≤ (o + cp) * 202 := Nat.mul_le_mul_right _ (by omega)
            omega
          refine ⟨?_, by simp [World.frozen?, h6]⟩
          rw [cell_of_row w b _ _ 51 (0, 0) h6]
          simp [hlt]
        have hr := run_append_room_cells (P := Try.prog) w 63 ty 51 i0 Try.underlying63 hi b (o * 202) xs.length cp ad m c ys.flatten (by rw [hz1]; exact hyl) hcell h1c hroom (fun j hj => (hsp j hj).1) (fun j hj => (hsp j hj).2)
        rw [hz1] at hr
        have hle : o * 202 + xs.length * 202 + ys.flatten.length ≤ C.length := by
          have : (o + xs.length + m) * 202 ≤ (o + cp) * 202 := Nat.mul_le_mul_right _ (by omega)
          omega
        have hh := heap_setCells 51 ys.flatten w b (o * 202 + xs.length * 202) C h6 hle
        refine ⟨_, _, hr, ⟨hall, .inr ⟨b, o, cp, _, by rw [List.length_append, hm], by rw [List.length_append]; omega, h4, h5, hh, ?_, ?_⟩⟩, ?_, fun b' hb' => .inl hb'⟩
        · simp only [List.length_append, List.length_take, List.length_drop]
          omega
        · intro j u hj
          rw [List.flatten_append, List.getElem?_append, hxl] at hj
          have htk : (C.take (o * 202 + xs.length * 202)).length = o * 202 + xs.length * 202 := by rw [List.length_take]; omega
          rw [List.append_assoc, List.getElem?_append, htk]
          by_cases hj1 : j < xs.length * 202
          · rw [if_pos hj1] at hj
            rw [if_pos (by omega), List.getElem?_take, if_pos (by omega)]
            exact h8 j u hj
          · rw [if_neg hj1] at hj
            rw [if_neg (by omega), List.getElem?_append, if_pos (by have := (List.getElem?_eq_some_iff.1 hj).1; omega)]
            rw [← hj]
            congr 1
            omega
        · exact ⟨(setCells_os _ w b _).1, (setCells_os _ w b _).2.1, (setCells_os _ w b _).2.2, by rw [size_setCells]; exact Nat.le_refl _, fun k hk hne => other_setCells _ w b _ k (fun e => hne (by rw [e]; rfl))⟩
      · obtain ⟨v', w', hr, ho, hg⟩ := run_append_arg_grows (P := Try.prog) w 63 ty 51 i0 _ 202 1616 Try.underlying63 hi hz0 hz1 hz2 (by show (atS 0 0).toArray.size = 202; rw [List.size_toArray]; exact (atS_ok 0 0).1) (by omega) ⟨b, o * 202, none⟩ xs.length cp xs.flatten (flat_len h.1)
          (fun j u hj => by
            rw [Addr.add_mid, cell_of_row w b _ _ 51 (0, 0) h6]
            simpa using h8 j u hj) ad m c ys.flatten hyl hcell (by omega) (by unfold maxLen; omega) (by omega)
        refine ⟨v', w', hr, HaveAt.of_own hall (by rw [List.length_append, hm]) hB (by rw [List.flatten_append]; exact ho), ⟨hg.os, hg.tape, hg.output, hg.size, fun k hk _ => hg.block k hk (by simp)⟩, fun b' hb => .inr ?_⟩
        rcases ho.2 with ⟨rfl, _⟩ | ⟨g, cap, cur, rfl, h1, _⟩
        · simp [Value.ownBlock] at hb
        · have : g = b' := by simpa [Value.ownBlock] using hb
          omega
end Go.Proofs.Ytodidkjajkjlaaa.RingRep
