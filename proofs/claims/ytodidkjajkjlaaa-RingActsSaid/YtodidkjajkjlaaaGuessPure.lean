/- What guess.Row and the reference's Guess make is one plain list, and what Alike answers is whether two lists have the same inputs (plain lemmas over lists; no conditions beyond their own). -/
import Derived.Test.YtodidkjajkjlaaaGuessWalks
namespace Go.Proofs.Ytodidkjajkjlaaa.GuessPure
open Go.RowKit Go.Proofs.Ytodidkjajkjlaaa.PGuessTells Go.Proofs.YtodidkjajkjlaaaW.PrintWords Go.Proofs.YtodidkjajkjlaaaW.PrintLast Go.Proofs.YtodidkjajkjlaaaW.PrintMore
set_option linter.unusedVariables false
set_option linter.unusedSimpArgs false

/-- One slot of a row that is guessed. -/
def slotOf (l : List S36) (own : Int) (inp : S34) (k : Nat) : S36 :=
  if (k : Int) = own then ⟨true, inp⟩ else if k < l.length then ⟨true, (l.getD k z36).f1⟩ else z36

/-- The row that is guessed, for n slots. -/
def rowOf (n : Nat) (l : List S36) (own : Int) (inp : S34) : List S36 := (List.range n).map (slotOf l own inp)

theorem rowOf_len (n : Nat) (l : List S36) (own : Int) (inp : S34) : (rowOf n l own inp).length = n := by simp [rowOf]

/-- The row behind i slots: the first i are as they will be, the others are empty. -/
def upto (n : Nat) (l : List S36) (own : Int) (inp : S34) (i : Nat) : List S36 := (rowOf i l own inp) ++ List.replicate (n - i) z36

theorem upto_len {n i : Nat} (h : i ≤ n) (l : List S36) (own : Int) (inp : S34) : (upto n l own inp i).length = n := by
  simp [upto, rowOf]; omega

theorem upto_zero (n : Nat) (l : List S36) (own : Int) (inp : S34) : upto n l own inp 0 = List.replicate n z36 := by simp [upto, rowOf]
theorem upto_all (n : Nat) (l : List S36) (own : Int) (inp : S34) : upto n l own inp n = rowOf n l own inp := by simp [upto]

theorem upto_set {n i : Nat} (h : i < n) (l : List S36) (own : Int) (inp : S34) : (upto n l own inp i).set i (slotOf l own inp i) = upto n l own inp (i + 1) := by
  apply List.ext_getElem?
  intro j
  simp only [upto, rowOf, List.getElem?_set, List.getElem?_append, List.length_map, List.length_range, List.length_append, List.length_replicate]
  by_cases h1 : i = j
  · subst h1
    simp; omega
  · rw [if_neg h1]
    by_cases h2 : j < i
    · simp [h2, show j < i + 1 by omega]
    · simp only [h2, show ¬ j < i + 1 by omega, if_false, List.getElem?_replicate]
      by_cases h3 : j < n
      · simp [show j - i < n - i by omega, show j - (i + 1) < n - (i + 1) by omega]
      · simp [show ¬ j - i < n - i by omega, show ¬ j - (i + 1) < n - (i + 1) by omega]

theorem upto_same {n i : Nat} (h : i < n) (l : List S36) (own : Int) (inp : S34) (hz : slotOf l own inp i = z36) : upto n l own inp i = upto n l own inp (i + 1) := by
  rw [← upto_set h, hz]
  have hi : (upto n l own inp i)[i]? = some z36 := by
    simp only [upto, List.getElem?_append, rowOf_len, List.getElem?_replicate]
    rw [if_neg (by omega), if_pos (by omega)]
  apply List.ext_getElem?
  intro j
  rw [List.getElem?_set]
  split
  · rename_i e
    subst e
    rw [hi]
    have : i < (upto n l own inp i).length := by rw [upto_len (by omega)]; exact h
    rw [if_pos this]
  · rfl

theorem wrap_one {i : Nat} {n : Nat} (h : i < n) (hn : n ≤ 100000000000000) : wrap64 ((i : Int) + 1) = ((i + 1 : Nat) : Int) := by unfold wrap64; omega

theorem row_loop (l : List S36) (own : Int) (inp : S34) (n : Nat) (hn : n ≤ 8) (hl : l.length ≤ 100000000000000) (d : Nat) : ∀ (k i : Nat), i ≤ n → n - i = d → d < k →
    guess_Row.l0 k l own (upto n l own inp i) n i inp.f0 inp.f1 inp.f2 = some (rowOf n l own inp) := by
  induction d with
  | zero =>
    intro k i hi hd hk
    obtain ⟨k, rfl⟩ : ∃ m, k = m + 1 := ⟨k - 1, by omega⟩
    have : i = n := by omega
    subst this
    simp only [guess_Row.l0]
    rw [if_neg (by omega), upto_all]
  | succ d ih =>
    intro k i hi hd hk
    obtain ⟨k, rfl⟩ : ∃ m, k = m + 1 := ⟨k - 1, by omega⟩
    have hlt : i < n := by omega
    have hlen := upto_len (Nat.le_of_lt hlt) l own inp
    simp only [guess_Row.l0]
    rw [if_pos (by omega), hlen, if_pos (show (0 : Int) ≤ (i : Int) by omega), if_pos (show (i : Int) < (n : Int) by omega), wrap_one hlt (by omega), Int.toNat_natCast]
    by_cases h1 : (i : Int) = own
    · rw [if_pos h1]
      have : slotOf l own inp i = (⟨true, ⟨inp.f0, inp.f1, inp.f2⟩⟩ : S36) := by simp [slotOf, h1]
      rw [← this, upto_set hlt]
      exact ih k (i + 1) (by omega) (by omega) (by omega)
    · rw [if_neg h1]
      by_cases h2 : i < l.length
      · rw [if_pos (by omega), if_pos (show (0 : Int) ≤ (i : Int) by omega), if_pos (show (i : Int) < (n : Int) by omega)]
        have : slotOf l own inp i = (⟨true, (⟨(rd_T36 l i).f1.f0, (rd_T36 l i).f1.f1, (rd_T36 l i).f1.f2⟩ : S34)⟩ : S36) := by
          unfold slotOf
          rw [if_neg h1, if_pos h2]
          simp [rd_T36]
        rw [← this, upto_set hlt]
        exact ih k (i + 1) (by omega) (by omega) (by omega)
      · rw [if_neg (by omega)]
        rw [upto_same hlt l own inp (by unfold slotOf; rw [if_neg h1, if_neg h2])]
        exact ih k (i + 1) (by omega) (by omega) (by omega)

theorem ref_loop (l : List S36) (own : Int) (inp : S34) (n : Nat) (hn : n ≤ 8) (hl : l.length ≤ 100000000000000) (d : Nat) : ∀ (k i : Nat), i ≤ n → n - i = d → d < k →
    doubletakeref20_Guess.l0 k n l own (upto n l own inp i) i inp.f0 inp.f1 inp.f2 = some (rowOf n l own inp) := by
  induction d with
  | zero =>
    intro k i hi hd hk
    obtain ⟨k, rfl⟩ : ∃ m, k = m + 1 := ⟨k - 1, by omega⟩
    have : i = n := by omega
    subst this
    simp only [doubletakeref20_Guess.l0]
    rw [if_neg (by omega), upto_all]
  | succ d ih =>
    intro k i hi hd hk
    obtain ⟨k, rfl⟩ : ∃ m, k = m + 1 := ⟨k - 1, by omega⟩
    have hlt : i < n := by omega
    have hlen := upto_len (Nat.le_of_lt hlt) l own inp
    simp only [doubletakeref20_Guess.l0]
    rw [if_pos (by omega), hlen, if_pos (show (0 : Int) ≤ (i : Int) by omega), if_pos (show (i : Int) < (n : Int) by omega), wrap_one hlt (by omega), Int.toNat_natCast]
    by_cases h1 : (i : Int) = own
    · rw [if_pos h1]
      have : slotOf l own inp i = (⟨true, ⟨inp.f0, inp.f1, inp.f2⟩⟩ : S36) := by simp [slotOf, h1]
      rw [← this, upto_set hlt]
      exact ih k (i + 1) (by omega) (by omega) (by omega)
    · rw [if_neg h1]
      by_cases h2 : i < l.length
      · rw [if_pos (by omega), if_pos (show (0 : Int) ≤ (i : Int) by omega), if_pos (show (i : Int) < (n : Int) by omega)]
        have : slotOf l own inp i = (⟨true, (⟨(rd_T36 l i).f1.f0, (rd_T36 l i).f1.f1, (rd_T36 l i).f1.f2⟩ : S34)⟩ : S36) := by
          unfold slotOf
          rw [if_neg h1, if_pos h2]
          simp [rd_T36]
        rw [← this, upto_set hlt]
        exact ih k (i + 1) (by omega) (by omega) (by omega)
      · rw [if_neg (by omega)]
        rw [upto_same hlt l own inp (by unfold slotOf; rw [if_neg h1, if_neg h2])]
        exact ih k (i + 1) (by omega) (by omega) (by omega)

/-- How many slots a row has that is guessed for so many players. -/
def slots (players : Int) : Nat := (max 1 (min players 8)).toNat

theorem slots_bd (players : Int) : 1 ≤ slots players ∧ slots players ≤ 8 := by unfold slots; omega

theorem row_f (players : Int) (l : List S36) (own : Int) (inp : S34) (hl : l.length ≤ 100000000000000) :
    guess_Row.f 9 players l own inp.f0 inp.f1 inp.f2 = some (rowOf (slots players) l own inp) := by
  have e : mx 1 (mn players 8) = (slots players : Int) := by unfold mx mn slots; split <;> split <;> omega
  obtain ⟨h1, h2⟩ := slots_bd players
  unfold guess_Row.f
  rw [e, if_pos (by omega), if_pos (by omega), Int.toNat_natCast]
  simp only [Option.bind_some, List.length_replicate]
  rw [← upto_zero (slots players) l own inp]
  exact row_loop l own inp _ h2 hl _ 9 0 (by omega) rfl (by omega)

theorem ref_f (players : Int) (l : List S36) (own : Int) (inp : S34) (hl : l.length ≤ 100000000000000) :
    doubletakeref20_Guess.f 9 players l own inp.f0 inp.f1 inp.f2 = some (rowOf (slots players) l own inp) := by
  have e : mx 1 (mn 8 players) = (slots players : Int) := by unfold mx mn slots; split <;> split <;> omega
  obtain ⟨h1, h2⟩ := slots_bd players
  unfold doubletakeref20_Guess.f
  rw [e, if_pos (by omega), if_pos (by omega), Int.toNat_natCast]
  rw [← upto_zero (slots players) l own inp]
  exact ref_loop l own inp _ h2 hl _ 9 0 (by omega) rfl (by omega)

/-- Have two slots the same input? -/
def same3 (x y : S36) : Bool := x.f1.f0 == y.f1.f0 && (x.f1.f1 == y.f1.f1 && (x.f1.f2 == y.f1.f2))
/-- Have two rows of one length the same inputs from slot i on? -/
def sameFrom (a b : List S36) : Nat → Nat → Bool
  | 0, _ => true
  | d + 1, i => same3 (a.getD i z36) (b.getD i z36) && sameFrom a b d (i + 1)
/-- Have two rows the same inputs? -/
def alike (a b : List S36) : Bool := a.length == b.length && sameFrom a b a.length 0

theorem alike_loop (a b : List S36) (hl : a.length = b.length) (hn : a.length ≤ 100000000000000) (d : Nat) : ∀ (k i : Nat), i ≤ a.length → a.length - i = d → d < k →
    doubletakeref20_Alike.l0 k a b i = some (sameFrom a b d i) := by
  induction d with
  | zero =>
    intro k i hi hd hk
    obtain ⟨k, rfl⟩ : ∃ m, k = m + 1 := ⟨k - 1, by omega⟩
    simp only [doubletakeref20_Alike.l0]
    rw [if_neg (by omega)]; rfl
  | succ d ih =>
    intro k i hi hd hk
    obtain ⟨k, rfl⟩ : ∃ m, k = m + 1 := ⟨k - 1, by omega⟩
    have hlt : i < a.length := by omega
    simp only [doubletakeref20_Alike.l0]
    rw [if_pos (by omega), if_pos (by omega), if_pos (by omega), wrap_one hlt (by omega)]
    unfold sameFrom
    have e : (!((rd_T36 a i).f1.f0 == (rd_T36 b i).f1.f0) || (!((rd_T36 a i).f1.f1 == (rd_T36 b i).f1.f1) || !((rd_T36 a i).f1.f2 == (rd_T36 b i).f1.f2))) = !same3 (a.getD i z36) (b.getD i z36) := by
      simp only [rd_T36, Int.toNat_natCast, same3, Bool.not_and]
    rw [e]
    cases hs : same3 (a.getD i z36) (b.getD i z36)
    · rfl
    · rw [if_neg (by simp)]
      rw [ih k (i + 1) (by omega) (by omega) (by omega)]; rfl

theorem alike_f (a b : List S36) (hn : a.length ≤ 100000000000000) : doubletakeref20_Alike.f (a.length + 1) a b = some (alike a b) := by
  unfold doubletakeref20_Alike.f alike
  by_cases h : a.length = b.length
  · rw [if_pos (by omega), h, ← h]
    have := alike_loop a b h hn a.length (a.length + 1) 0 (by omega) (by omega) (by omega)
    simpa using this
  · rw [if_neg (by omega)]
    simp [h]

theorem sameRow_loop (a b : List S36) (hl : a.length = b.length) (hab : a = b) (hn : a.length ≤ 100000000000000) (d : Nat) : ∀ (k i : Nat), i ≤ a.length → a.length - i = d → d < k →
    doubletakeref15_SameRow.l0 k a b i = some true := by
  subst hab
  induction d with
  | zero =>
    intro k i hi hd hk
    obtain ⟨k, rfl⟩ : ∃ m, k = m + 1 := ⟨k - 1, by omega⟩
    simp only [doubletakeref15_SameRow.l0]
    rw [if_neg (by omega)]
  | succ d ih =>
    intro k i hi hd hk
    obtain ⟨k, rfl⟩ : ∃ m, k = m + 1 := ⟨k - 1, by omega⟩
    have hlt : i < a.length := by omega
    simp only [doubletakeref15_SameRow.l0]
    rw [if_pos (by omega), if_pos (by omega), if_pos (by omega), wrap_one hlt (by omega)]
    rw [if_neg (by simp)]
    exact ih k (i + 1) (by omega) (by omega) (by omega)

theorem sameRow_f (a : List S36) (hn : a.length ≤ 100000000000000) : doubletakeref15_SameRow.f (a.length + 1) a a = some true := by
  unfold doubletakeref15_SameRow.f
  rw [if_pos rfl]
  exact sameRow_loop a a rfl rfl hn a.length (a.length + 1) 0 (by omega) (by omega) (by omega)

theorem same3_refl (x : S36) : same3 x x = true := by simp [same3]
theorem sameFrom_of (a b : List S36) (h : ∀ i, i < a.length → same3 (a.getD i z36) (b.getD i z36) = true) (d : Nat) : ∀ i, i + d ≤ a.length → sameFrom a b d i = true := by
  induction d with
  | zero => intro i _; rfl
  | succ d ih =>
    intro i hi
    unfold sameFrom
    rw [h i (by omega), ih (i + 1) (by omega)]; rfl
theorem alike_of (a b : List S36) (hl : a.length = b.length) (h : ∀ i, i < a.length → same3 (a.getD i z36) (b.getD i z36) = true) : alike a b = true := by
  unfold alike
  rw [sameFrom_of a b h _ _ (by omega), hl]; simp
theorem alike_refl (a : List S36) : alike a a = true := alike_of a a rfl fun _ _ => same3_refl _

theorem rowOf_get {n k : Nat} (h : k < n) (l : List S36) (own : Int) (inp : S34) : (rowOf n l own inp).getD k z36 = slotOf l own inp k := by
  simp [rowOf, List.getD, h]

/-- A guess from a row that was guessed is alike. -/
theorem stays (n : Nat) (l : List S36) (own : Int) (inp : S34) (hl : l.length = n) : alike (rowOf n l own inp) (rowOf n (rowOf n l own inp) own inp) = true := by
  refine alike_of _ _ (by rw [rowOf_len, rowOf_len]) fun i hi => ?_
  rw [rowOf_len] at hi
  rw [rowOf_get hi, rowOf_get hi]
  unfold slotOf
  by_cases h1 : (i : Int) = own
  · rw [if_pos h1, if_pos h1]; exact same3_refl _
  · rw [if_neg h1, if_neg h1, if_pos (by omega), if_pos (by rw [rowOf_len]; omega), rowOf_get hi]
    unfold slotOf
    rw [if_neg h1, if_pos (by omega)]
    exact same3_refl _

end Go.Proofs.Ytodidkjajkjlaaa.GuessPure
