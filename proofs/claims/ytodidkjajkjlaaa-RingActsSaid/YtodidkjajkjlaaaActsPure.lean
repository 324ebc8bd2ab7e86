/- A ring and the plain list that it should be: what puts and cuts make of both (plain lemmas). -/
import Derived.Test.YtodidkjajkjlaaaHave
namespace Go.Proofs.Ytodidkjajkjlaaa.RingRep
open Go.RowKit
set_option linter.unusedVariables false
set_option linter.unusedSimpArgs false

/-- The states of the list, from the oldest frame on. -/
def rows (low : Int) (ns : List Int) : List (List Value) := (List.range ns.length).map fun (i : Nat) => atS (low + i) (ns.getD i 0)
theorem rows_len (low : Int) (ns : List Int) : (rows low ns).length = ns.length := by simp [rows]
theorem rows_ok (low : Int) (ns : List Int) : ∀ s ∈ rows low ns, okS s := fun s hs => by
  obtain ⟨i, _, rfl⟩ := List.mem_map.1 hs
  exact atS_ok _ _
theorem rows_get (low : Int) (ns : List Int) (i : Nat) (hi : i < ns.length) : (rows low ns)[i]? = some (atS (low + i) (ns.getD i 0)) := by
  simp [rows, hi]
theorem rows_take (low : Int) (ns : List Int) (k : Nat) : rows low (ns.take k) = (rows low ns).take k := by
  apply List.ext_getElem?
  intro i
  rw [List.getElem?_take]
  by_cases h : i < (ns.take k).length
  · have h' : i < k ∧ i < ns.length := by rw [List.length_take] at h; omega
    rw [rows_get _ _ _ h, if_pos h'.1, rows_get _ _ _ h'.2]
    simp [List.getD, List.getElem?_take, h'.1]
  · rw [List.getElem?_eq_none (by rw [rows_len]; omega)]
    split
    · rw [List.getElem?_eq_none (by rw [rows_len]; rw [List.length_take] at h; omega)]
    · rfl
theorem rows_snoc (low : Int) (ns : List Int) (N : Int) : rows low (ns ++ [N]) = rows low ns ++ [atS (low + ns.length) N] := by
  apply List.ext_getElem?
  intro i
  rw [List.getElem?_append, rows_len]
  by_cases h : i < ns.length
  · rw [if_pos h, rows_get _ _ _ h, rows_get _ _ _ (by simp; omega)]
    simp [List.getD, List.getElem?_append, h]
  · rw [if_neg h]
    by_cases h2 : i = ns.length
    · subst h2
      rw [rows_get _ _ _ (by simp)]
      simp
    · rw [List.getElem?_eq_none (by rw [rows_len]; simp; omega), List.getElem?_eq_none (by simp; omega)]
theorem rows_tail (low : Int) (ns : List Int) : rows (low + 1) (ns.drop 1) = (rows low ns).drop 1 := by
  apply List.ext_getElem?
  intro i
  rw [List.getElem?_drop]
  by_cases h : i < (ns.drop 1).length
  · rw [rows_get _ _ _ h, rows_get _ _ _ (by simp at h; omega)]
    have e : low + 1 + (i : Int) = low + ((1 + i : Nat) : Int) := by omega
    rw [e]
    simp [List.getD, List.getElem?_drop, Nat.add_comm 1 i]
  · rw [List.getElem?_eq_none (by rw [rows_len]; omega), List.getElem?_eq_none (by rw [rows_len]; simp at h; omega)]
theorem rows_set (low : Int) (ns : List Int) (k : Nat) (hk : k < ns.length) (N : Int) : rows low (ns.set k N) = (rows low ns).take k ++ [atS (low + k) N] ++ (rows low ns).drop (k + 1) := by
  apply List.ext_getElem?
  intro i
  have hl : ((rows low ns).take k).length = k := by rw [List.length_take, rows_len]; omega
  rw [List.append_assoc, List.getElem?_append, hl]
  by_cases h : i < k
  · rw [if_pos h, List.getElem?_take, if_pos h, rows_get low (ns.set k N) i (by rw [List.length_set]; omega), rows_get low ns i (by omega)]
    simp [List.getD, List.getElem?_set, show ¬ k = i by omega]
  · rw [if_neg h]
    by_cases h2 : i = k
    · subst h2
      rw [rows_get low (ns.set i N) i (by rw [List.length_set]; omega)]
      simp [List.getD, hk]
    · obtain ⟨j, rfl⟩ : ∃ j, i = k + 1 + j := ⟨i - (k + 1), by omega⟩
      rw [show k + 1 + j - k = j + 1 by omega, List.singleton_append, List.getElem?_cons_succ, List.getElem?_drop]
      by_cases h3 : k + 1 + j < ns.length
      · rw [rows_get low ns _ h3, rows_get low (ns.set k N) _ (by rw [List.length_set]; omega)]
        simp [List.getD, List.getElem?_set, show ¬ k = k + 1 + j by omega]
      · rw [List.getElem?_eq_none (by rw [rows_len]; simp; omega), List.getElem?_eq_none (by rw [rows_len]; omega)]

/-- The ring has what the list has. -/
structure Fits (S : List (List Value)) (f low : Int) (ns : List Int) : Prop where
  first : 0 < ns.length → f = low
  slots : ∀ i : Nat, i < ns.length → S.getD ((low + i) % 17).toNat [] = atS (low + i) (ns.getD i 0)
  len : ns.length ≤ 17
  low0 : 0 ≤ low
  S17 : S.length = 17
  f0 : 0 ≤ f

theorem getD_set_same {S : List (List Value)} {k : Nat} (hk : k < S.length) (s : List Value) : (S.set k s).getD k [] = s := by simp [List.getD, hk]
theorem getD_set_ne {S : List (List Value)} {k j : Nat} (h : k ≠ j) (s : List Value) : (S.set k s).getD j [] = S.getD j [] := by
  rw [List.getD, List.getElem?_set_ne h, ← List.getD]

theorem Fits.new {S : List (List Value)} (hS : S.length = 17) (x N : Int) (hx : 0 ≤ x) : Fits (S.set (x % 17).toNat (atS x N)) x x [N] := by
  refine ⟨fun _ => rfl, fun i hi => ?_, by simp, hx, by simpa using hS, hx⟩
  have : i = 0 := by simpa using hi
  subst this
  have e : x + ((0 : Nat) : Int) = x := by omega
  rw [e, getD_set_same (by omega)]
  rfl
theorem Fits.more {S : List (List Value)} {f low : Int} {ns : List Int} (h : Fits S f low ns) (hp : 0 < ns.length) (hn : ns.length < 17) (N : Int) (x : Int) (hx : x = low + ns.length) : Fits (S.set (x % 17).toNat (atS x N)) f low (ns ++ [N]) := by
  have h0 := h.low0
  refine ⟨fun _ => h.first hp, fun i hi => ?_, by simp; omega, h.low0, by simpa using h.S17, h.f0⟩
  · by_cases hi2 : i = ns.length
    · subst hi2
      rw [← hx, getD_set_same (by rw [h.S17]; omega)]
      simp
    · have hi3 : i < ns.length := by simp at hi; omega
      rw [getD_set_ne (by omega), h.slots i hi3]
      simp [List.getD, List.getElem?_append, hi3]
theorem Fits.roll {S : List (List Value)} {f low : Int} {ns : List Int} (h : Fits S f low ns) (hn : ns.length = 17) (N : Int) (x : Int) (hx : x = low + ns.length) : Fits (S.set (x % 17).toNat (atS x N)) (f + 1) (low + 1) (ns.drop 1 ++ [N]) := by
  have h0 := h.low0
  have h1 := h.first (by omega)
  have hd : (ns.drop 1).length = 16 := by simp; omega
  refine ⟨fun _ => by omega, fun i hi => ?_, by simp; omega, by omega, by simpa using h.S17, by have := h.f0; omega⟩
  by_cases hi2 : i = 16
  · subst hi2
    have e : low + 1 + ((16 : Nat) : Int) = x := by omega
    rw [e, getD_set_same (by rw [h.S17]; omega)]
    simp [List.getD, List.getElem?_append, hn]
  · have hi3 : i < 16 := by simp at hi; omega
    have e : low + 1 + (i : Int) = low + ((i + 1 : Nat) : Int) := by omega
    rw [e, getD_set_ne (by omega), h.slots (i + 1) (by omega)]
    have hi4 : i + 1 < ns.length := by omega
    simp [List.getD, List.getElem?_append, hi3, hn, Nat.add_comm 1 i]
    rw [List.getElem?_eq_getElem hi4]; rfl
theorem Fits.over {S : List (List Value)} {f low : Int} {ns : List Int} (h : Fits S f low ns) (N : Int) (x : Int) (k : Nat) (hk : k < ns.length) (hx : x = low + k) : Fits (S.set (x % 17).toNat (atS x N)) f low (ns.set k N) := by
  have h0 := h.low0
  have h17 := h.len
  refine ⟨fun _ => h.first (by omega), fun i hi => ?_, by simpa using h.len, h.low0, by simpa using h.S17, h.f0⟩
  have hi' : i < ns.length := by simpa using hi
  by_cases hi2 : i = k
  · subst hi2
    rw [← hx, getD_set_same (by rw [h.S17]; omega)]
    simp [List.getD, hk]
  · rw [getD_set_ne (by omega), h.slots i hi']
    simp [List.getD, List.getElem?_set, show ¬ k = i by omega]
/-- How many are left behind a cut. -/
def left (low : Int) (ns : List Int) (y : Int) : Nat := min ns.length (y - low + 1).toNat
theorem Fits.cut {S : List (List Value)} {f low : Int} {ns : List Int} (h : Fits S f low ns) (y : Int) : cutN f ns.length y = (ns.take (left low ns y)).length ∧ Fits S f low (ns.take (left low ns y)) := by
  have h0 := h.f0
  refine ⟨?_, fun hp => h.first (by simp at hp; omega), fun i hi => ?_, by simp; have := h.len; omega, h.low0, h.S17, h.f0⟩
  · rw [List.length_take]
    unfold cutN newest left
    by_cases hn : ns.length = 0
    · rw [hn]; simp; omega
    · have := h.first (by omega)
      subst this
      split
      · omega
      · split <;> split at * <;> omega
  · have hi2 : i < left low ns y ∧ i < ns.length := by rw [List.length_take] at hi; omega
    rw [h.slots i hi2.2]
    simp [List.getD, List.getElem?_take, hi2.1]

theorem Fits.getB {S : List (List Value)} {f low : Int} {ns : List Int} (h : Fits S f low ns) (x : Int) : getB f ns.length x = (decide (0 < (ns.length : Int)) && (decide (low ≤ x) && decide (x ≤ low + ns.length - 1))) := by
  unfold RingRep.getB
  by_cases hn : ns.length = 0
  · rw [hn]; simp
  · have := h.first (by omega)
    subst this
    rw [decide_eq_true (show 0 < (ns.length : Int) by omega)]
    by_cases h1 : f ≤ x
    · by_cases h2 : x ≤ f + ns.length - 1
      · rw [decide_eq_false (show ¬ x < f by omega), decide_eq_false (show ¬ f + ns.length ≤ x by omega), decide_eq_true h1, decide_eq_true h2]; rfl
      · rw [decide_eq_true (show f + ns.length ≤ x by omega), decide_eq_false h2]; simp
    · rw [decide_eq_true (show x < f by omega), decide_eq_false h1]; simp
theorem Fits.get_in {S : List (List Value)} {f low : Int} {ns : List Int} (h : Fits S f low ns) (x : Int) (h1 : low ≤ x) (h2 : x < low + ns.length) : getS S f ns.length x = atS x (ns.getD (x - low).toNat 0) := by
  have := h.first (by omega)
  unfold getS
  rw [if_neg (by omega)]
  have h3 := h.slots (x - low).toNat (by omega)
  have e : low + ((x - low).toNat : Int) = x := by omega
  rw [e] at h3
  exact h3
theorem Fits.get_out {S : List (List Value)} {f low : Int} {ns : List Int} (h : Fits S f low ns) (x : Int) (hx : ns.length = 0 ∨ x < low ∨ low + ns.length ≤ x) : getS S f ns.length x = atS 0 0 := by
  unfold getS
  rw [if_pos]
  by_cases hn : ns.length = 0
  · omega
  · have := h.first (by omega)
    omega
theorem Fits.newest {S : List (List Value)} {f low : Int} {ns : List Int} (h : Fits S f low ns) : newest f ns.length = if ns.length = 0 then -1 else low + ns.length - 1 := by
  unfold RingRep.newest
  by_cases hn : ns.length = 0
  · rw [if_pos (by omega), if_pos hn]
  · rw [if_neg (by omega), if_neg hn, h.first (by omega)]
end Go.Proofs.Ytodidkjajkjlaaa.RingRep
