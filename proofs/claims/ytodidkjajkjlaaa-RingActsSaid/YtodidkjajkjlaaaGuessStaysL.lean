/- GuessStays answers true for every input (the walk; a list that can be read). -/
import Derived.Test.YtodidkjajkjlaaaGuessKnownL
import Derived.Test.YtodidkjajkjlaaaHandRow
namespace Go.Proofs.Ytodidkjajkjlaaa.Alike
open Go.RowKit Go.Proofs.Ytodidkjajkjlaaa.GuessPure Go.Proofs.Ytodidkjajkjlaaa.PGuessTells Go.Proofs.YtodidkjajkjlaaaW.PrintWords Go.Proofs.YtodidkjajkjlaaaW.PrintLast Go.Proofs.YtodidkjajkjlaaaW.PrintMore
set_option linter.unusedVariables false
set_option linter.unusedSimpArgs false

theorem pick_some (a m : Int) (ha : 0 < m) (hm : m ≤ 4294967296) : ∃ r, doubletakehand_Pick.f a m = some r ∧ 0 ≤ r ∧ r < m := by
  unfold doubletakehand_Pick.f
  rw [if_neg (by omega)]
  have h1 := Int.lt_tmod_of_pos a ha
  have h2 := Int.tmod_lt_of_pos a ha
  by_cases h : Int.tmod a m < 0
  · rw [if_pos h]; exact ⟨_, rfl, by unfold wrap64; omega, by unfold wrap64; omega⟩
  · rw [if_neg h]; exact ⟨_, rfl, by omega, by omega⟩

theorem input_some (n m : Int) : ∃ x : S34, doubletakehand_Input.f n m = some (x.f0, x.f1, x.f2) := by
  obtain ⟨a, ha, _⟩ := pick_some n 256 (by omega) (by omega)
  obtain ⟨b, hb, _⟩ := pick_some m 129 (by omega) (by omega)
  obtain ⟨c, hc, _⟩ := pick_some (wrap64 (Int.tdiv m 129)) 129 (by omega) (by omega)
  refine ⟨⟨a, wrap64 (b - 64), wrap64 (c - 64)⟩, ?_⟩
  unfold doubletakehand_Input.f
  rw [ha, hb, hc]
  rfl

theorem row_loop_some (p : Nat) (l : List Int) (hp : p ≤ 8) (d : Nat) : ∀ (k i : Nat) (xs : List S36), xs.length = p → i ≤ p → p - i = d → 2 * d + 2 ≤ k →
    ∃ r, doubletakehand_Row.l0 k p l xs i = some r ∧ r.length = p := by
  induction d with
  | zero =>
    intro k i xs hx hi hd hk
    obtain ⟨k, rfl⟩ : ∃ m, k = m + 2 := ⟨k - 2, by omega⟩
    refine ⟨xs, ?_, hx⟩
    simp only [doubletakehand_Row.l0]
    rw [if_neg (by omega)]
    simp only [doubletakehand_Row.j1]
    rw [if_neg (by simp)]
  | succ d ih =>
    intro k i xs hx hi hd hk
    obtain ⟨k, rfl⟩ : ∃ m, k = m + 2 := ⟨k - 2, by omega⟩
    simp only [doubletakehand_Row.l0]
    rw [if_pos (by omega)]
    by_cases hl : (i : Int) < (l.length : Int)
    · rw [decide_eq_true hl]
      simp only [doubletakehand_Row.j1]
      rw [if_pos True.intro, if_pos (by omega), if_pos hl]
      have hw : wrap64 ((i : Int) + 1) = ((i + 1 : Nat) : Int) := by unfold wrap64; omega
      rw [hw]
      split
      · obtain ⟨x, hx2⟩ := input_some (wrap64 (Int.tdiv (rd l i) 4)) (wrap64 (Int.tdiv (rd l i) 7))
        rw [hx2]
        simp only [Option.bind_some]
        rw [if_pos (by omega)]
        exact ih k (i + 1) _ (by simp [hx]) (by omega) (by omega) (by omega)
      · exact ih k (i + 1) xs hx (by omega) (by omega) (by omega)
    · rw [decide_eq_false hl]
      simp only [doubletakehand_Row.j1]
      rw [if_neg (by simp)]
      exact ⟨xs, rfl, hx⟩

theorem handRow_some (p : Int) (l : List Int) (h1 : 1 ≤ p) (h2 : p ≤ 8) : ∃ r, doubletakehand_Row.f 20 p l = some r ∧ (r.length : Int) = p := by
  obtain ⟨n, rfl⟩ : ∃ n : Nat, p = n := ⟨p.toNat, by omega⟩
  obtain ⟨r, hr, hl⟩ := row_loop_some n l (by omega) n 20 0 (List.replicate n z36) (by simp) (by omega) (by omega) (by omega)
  refine ⟨r, ?_, by omega⟩
  unfold doubletakehand_Row.f
  rw [if_pos (by omega), if_pos (by omega), Int.toNat_natCast]
  exact hr

/-! Contracts in one form: what was made lies behind what was there. -/
theorem below_drawn {w w' : World} (h : Drawn0 w w') : Below w.heap.size w w' := by
  obtain ⟨n, rfl⟩ := h
  exact pw_below_drewN (Below.refl _ _) n

theorem pick_calls (a m r : Int) (w : World) (h : doubletakehand_Pick.f a m = some r) :
    Calls Try.prog 21 #[.int .i64 a, .int .i64 m] w fun e w' => e = .returned (.int .i64 r) ∧ Aside0 (Below w.heap.size w w') :=
  (doubletakehand_Pick.calls a m r w h).mono fun e w' ⟨he, hd⟩ => ⟨he, ⟨below_drawn hd⟩⟩

theorem input_calls (n m : Int) (x : S34) (w : World) (h : doubletakehand_Input.f n m = some (x.f0, x.f1, x.f2)) :
    Calls Try.prog 29 #[.int .i64 n, .int .i64 m] w fun e w' => e = .returned (.agg #[.int .i64 x.f0, .int .i64 x.f1, .int .i64 x.f2]) ∧ Aside0 (Below w.heap.size w w') :=
  (doubletakehand_Input.calls n m _ _ _ w h).mono fun e w' ⟨he, hd⟩ => ⟨he, ⟨by first | exact below_drawn hd | exact hd⟩⟩

theorem handRow_calls (p : Int) (A : Option Addr) (c : Nat) (l : List Int) (r : List S36) (w : World) (hr : Kd.C (Kd.int .i64) w A l.length l) (hc : l.length ≤ c) (h : doubletakehand_Row.f 20 p l = some r) (hp : (r.length : Int) = p) (h1 : 1 ≤ p) :
    Calls Try.prog 28 #[.int .i64 p, .slice A l.length c] w fun e w' => ∃ g d, e = .returned (.slice (some ⟨g, 0, none⟩) r.length d) ∧ r.length ≤ d ∧ Aside0 (Kd.C k36 w' (some ⟨g, 0, none⟩) r.length r) ∧ Aside0 (Below w.heap.size w w') := by
  refine (doubletakehand_Row.calls 20 p A c l r w hr hc h).mono ?_
  rintro e w' ⟨v, rfl, hR, hb⟩
  obtain ⟨g, _, hv, _, _, _, _⟩ := Kd.R_form hR (by omega)
  obtain ⟨B, d, rfl, hle, hC⟩ := Kd.R_reads hR
  injection hv with hB _ _
  subst hB
  exact ⟨g, d, rfl, hle, ⟨hC⟩, ⟨hb⟩⟩

/-- A row guessed for players between 1 and 8. -/
theorem rowN_calls (n : Nat) (h1 : 1 ≤ n) (h8 : n ≤ 8) (p own : Int) (hp : p = n) (A : Option Addr) (c m : Nat) (l : List S36) (inp : S34) (w : World) (hm : m = l.length) (hr : Kd.C k36 w A m l) (hc : m ≤ c) (hl : l.length ≤ 8) :
    Calls Try.prog 22 #[.int .i64 p, .slice A m c, .int .i64 own, .agg #[.int .i64 inp.f0, .int .i64 inp.f1, .int .i64 inp.f2]] w fun e w' =>
      ∃ g d, e = .returned (.slice (some ⟨g, 0, none⟩) n d) ∧ n ≤ d ∧ Aside0 (Kd.C k36 w' (some ⟨g, 0, none⟩) n (rowOf n l own inp)) ∧ Aside0 (Below w.heap.size w w') := by
  subst hm hp
  have hs : slots (n : Int) = n := by unfold slots; omega
  have h := row_calls n own A c l inp w hr hc (by omega)
  rw [hs] at h
  exact h.mono fun e w' ⟨g, d, he, hd, hC, hb⟩ => ⟨g, d, he, hd, ⟨hC⟩, ⟨hb⟩⟩

theorem alikeN_calls (n m : Nat) (A B : Option Addr) (c d : Nat) (a b : List S36) (w : World) (hn : n = a.length) (hm : m = b.length) (ha : Kd.C k36 w A n a) (hb : Kd.C k36 w B m b) (hac : n ≤ c) (hbd : m ≤ d) (h8 : n ≤ 100000000000000) :
    Calls Try.prog 24 #[.slice A n c, .slice B m d] w fun e w' => e = .returned (.bool (alike a b)) ∧ Aside0 (Below w.heap.size w w') := by
  subst hn hm
  exact (alike_calls A B c d a b w ha hb hac hbd h8).mono fun e w' ⟨he, hb⟩ => ⟨he, ⟨hb⟩⟩

set_option maxHeartbeats 8000000 in
set_option maxRecDepth 100000 in
theorem stays_calls (players own n m : Int) (A : Option Addr) (c : Nat) (l : List Int) (w : World) (hr : Kd.C (Kd.int .i64) w A l.length l) (hc : l.length ≤ c) :
    Calls Try.prog 9 #[.int .i64 players, .slice A l.length c, .int .i64 own, .int .i64 n, .int .i64 m] w fun e w' => e = .returned (.bool true) ∧ Below w.heap.size w w' := by
  obtain ⟨p, hp, hp0, hp1⟩ := pick_some players 8 (by omega) (by omega)
  obtain ⟨o, ho, ho0, ho1⟩ := pick_some own (1 + p) (by omega) (by omega)
  obtain ⟨inp, hi⟩ := input_some n m
  obtain ⟨r, hrow, hrl⟩ := handRow_some (1 + p) l (by omega) (by omega)
  have HP := Aside0.mk hp
  have HO := Aside0.mk ho
  have HI := Aside0.mk hi
  have HR := Aside0.mk hrow
  have HL := Aside0.mk hrl
  have HC := Aside0.mk hr
  have hl1 : 1 ≤ r.length := by omega
  have hl8 : r.length ≤ 8 := by omega
  clear hp ho hi hrow hr hrl
  have hal : alike (rowOf r.length r o inp) (rowOf r.length (rowOf r.length r o inp) o inp) = true := stays _ _ _ _ rfl
  have hrr : alike (rowOf r.length r o inp) (rowOf r.length r o inp) = true := alike_refl _
  have HA := Aside0.mk hal
  have HRR := Aside0.mk hrr
  clear hal hrr
  have hEq : ((r.length : Int) == 1 + p) = true := by have := HL.out; simp [this]
  go_enter Try.func9, Try.ntmps9
  go_wp2_with (first
    | (go_at_call 21; (with_reducible refine (pick_calls players 8 p _ HP.out).mono ?_); rintro e w1 ⟨rfl, HB1⟩; have HC1 := Aside0.mk (Kd.C_below HC.out HB1.out))
    | (go_at_call 21; (with_reducible refine (pick_calls own (1 + p) o _ HO.out).mono ?_); rintro e w2 ⟨rfl, HB2⟩; have HC2 := Aside0.mk (Kd.C_below HC1.out HB2.out))
    | (go_at_call 28; (with_reducible refine (handRow_calls (1 + p) A c l r _ HC2.out hc HR.out HL.out (by omega)).mono ?_); rintro e w3 ⟨g3, d3, rfl, hd3, HC3, HB3⟩; have HX3 := Aside0.mk (then_ (then_ HB1.out HB2.out) HB3.out))
    | (go_at_call 29; (with_reducible refine (input_calls n m inp _ HI.out).mono ?_); rintro e w4 ⟨rfl, HB4⟩; have HC4 := Aside0.mk (Kd.C_below HC3.out HB4.out); have HX4 := Aside0.mk (then_ HX3.out HB4.out))
    | (go_at_call 22; (with_reducible refine (rowN_calls r.length hl1 hl8 (1 + p) o HL.out.symm _ _ r.length r inp _ rfl HC4.out hd3 hl8).mono ?_); rintro e w5 ⟨g5, d5, rfl, hd5, HC5, HB5⟩; have HX5 := Aside0.mk (then_ HX4.out HB5.out))
    | (go_at_call 29; (with_reducible refine (input_calls n m inp _ HI.out).mono ?_); rintro e w6 ⟨rfl, HB6⟩; have HC6 := Aside0.mk (Kd.C_below HC5.out HB6.out); have HX6 := Aside0.mk (then_ HX5.out HB6.out))
    | (go_at_call 22; (with_reducible refine (rowN_calls r.length hl1 hl8 (1 + p) o HL.out.symm _ _ r.length (rowOf r.length r o inp) inp _ (rowOf_len _ _ _ _).symm HC6.out hd5 (by rw [rowOf_len]; exact hl8)).mono ?_); rintro e w7 ⟨g7, d7, rfl, hd7, HD7, HB7⟩; have HC7 := Aside0.mk (Kd.C_below HC6.out HB7.out); have HX7 := Aside0.mk (then_ HX6.out HB7.out))
    | (go_at_call 23; (with_reducible refine (known_calls _).mono ?_); rintro e w8 ⟨rfl, hb8⟩; have HB8 := Aside0.mk hb8; clear hb8; have HC8 := Aside0.mk (Kd.C_below HC7.out HB8.out); have HD8 := Aside0.mk (Kd.C_below HD7.out HB8.out); have HX8 := Aside0.mk (then_ HX7.out HB8.out))
    | (go_at_call 24; (with_reducible refine (alikeN_calls r.length r.length _ _ _ _ (rowOf r.length r o inp) (rowOf r.length (rowOf r.length r o inp) o inp) _ (rowOf_len _ _ _ _).symm (rowOf_len _ _ _ _).symm HC8.out HD8.out hd5 hd7 (by omega)).mono ?_); rw [HA.out]; rintro e w9 ⟨rfl, HB9⟩; have HC9 := Aside0.mk (Kd.C_below HC8.out HB9.out); have HX9 := Aside0.mk (then_ HX8.out HB9.out))
    | (go_at_call 24; (with_reducible refine (alikeN_calls r.length r.length _ _ _ _ (rowOf r.length r o inp) (rowOf r.length r o inp) _ (rowOf_len _ _ _ _).symm (rowOf_len _ _ _ _).symm HC9.out HC9.out hd5 hd5 (by omega)).mono ?_); rw [HRR.out]; rintro e w10 ⟨rfl, HB10⟩; have HX10 := Aside0.mk (then_ HX9.out HB10.out)))
  go_ret
  exact ⟨rfl, HX10.out⟩
end Go.Proofs.Ytodidkjajkjlaaa.Alike
