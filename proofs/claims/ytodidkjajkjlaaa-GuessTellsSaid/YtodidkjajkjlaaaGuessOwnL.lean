/- GuessOwn answers true for every input (the walk; a list that can be read). -/
import Derived.Test.YtodidkjajkjlaaaGuessStaysL
namespace Go.Proofs.Ytodidkjajkjlaaa.Alike
open Go.RowKit Go.Proofs.Ytodidkjajkjlaaa.GuessPure Go.Proofs.Ytodidkjajkjlaaa.PGuessTells Go.Proofs.YtodidkjajkjlaaaW.PrintWords Go.Proofs.YtodidkjajkjlaaaW.PrintLast Go.Proofs.YtodidkjajkjlaaaW.PrintMore
set_option linter.unusedVariables false
set_option linter.unusedSimpArgs false

theorem C_cellsI {w : World} {g n : Nat} {xs : List S36} (h : Kd.C k36 w (some ⟨g, 0, none⟩) n xs) (x : Int) (h0 : 0 ≤ x) (h1 : x < n) (y : S36) (hy : xs.getD x.toNat z36 = y) :
    w.cell? ⟨g, x.toNat * 4, none⟩ = some (.bool y.f0) ∧ w.cell? ⟨g, x.toNat * 4 + 1, none⟩ = some (.int .i64 y.f1.f0) ∧
    w.cell? ⟨g, x.toNat * 4 + 2, none⟩ = some (.int .i64 y.f1.f1) ∧ w.cell? ⟨g, x.toNat * 4 + 3, none⟩ = some (.int .i64 y.f1.f2) := by
  subst hy
  exact C_cells h x.toNat (by omega)

theorem slot_own (l : List S36) (own : Int) (inp : S34) (n : Nat) (x : Int) (h0 : 0 ≤ x) (h1 : x < n) (h : x = own) : (rowOf n l own inp).getD x.toNat z36 = ⟨true, inp⟩ := by
  rw [rowOf_get (by omega)]
  unfold slotOf
  rw [if_pos (by omega)]
theorem slot_other (l : List S36) (own : Int) (inp : S34) (n : Nat) (x : Int) (h0 : 0 ≤ x) (h1 : x < n) (h : x ≠ own) (hl : l.length = n) : (rowOf n l own inp).getD x.toNat z36 = ⟨true, (l.getD x.toNat z36).f1⟩ := by
  rw [rowOf_get (by omega)]
  unfold slotOf
  rw [if_neg (by omega), if_pos (by omega)]
theorem slot_none (own : Int) (inp : S34) (n : Nat) (x : Int) (h0 : 0 ≤ x) (h1 : x < n) (h : x ≠ own) : (rowOf n [] own inp).getD x.toNat z36 = z36 := by
  rw [rowOf_get (by omega)]
  unfold slotOf
  rw [if_neg (by omega), if_neg (by simp)]

set_option maxHeartbeats 8000000 in
set_option maxRecDepth 100000 in
theorem own_calls (players own n m : Int) (A : Option Addr) (c : Nat) (l : List Int) (w : World) (hr : Kd.C (Kd.int .i64) w A l.length l) (hc : l.length ≤ c) :
    Calls Try.prog 10 #[.int .i64 players, .int .i64 own, .slice A l.length c, .int .i64 n, .int .i64 m] w fun e w' => e = .returned (.bool true) ∧ Below w.heap.size w w' := by
  have hu34 := Try.underlying34
  have hu36 := Try.underlying36
  obtain ⟨p, hp, hp0, hp1⟩ := pick_some players 8 (by omega) (by omega)
  obtain ⟨o, ho, ho0, ho1⟩ := pick_some own (1 + p + 2) (by omega) (by omega)
  obtain ⟨inp, hi⟩ := input_some n m
  obtain ⟨r, hrow, hrl⟩ := handRow_some (1 + p) l (by omega) (by omega)
  have HP := Aside0.mk hp
  have HO := Aside0.mk ho
  have HI := Aside0.mk hi
  have HR := Aside0.mk hrow
  have HL := Aside0.mk hrl
  have HC := Aside0.mk hr
  have hl1 : 1 ≤ r.length := by omega
  have hl8 : r.length ≤ 8 := by omega
  clear hp ho hi hrow hr hrl
  have hNe : ((r.length : Int) != 1 + p) = false := by have := HL.out; simp [this]
  go_enter Try.func10, Try.ntmps10
  go_wp2_with (first
    | (go_at_call 21; (with_reducible refine (pick_calls players 8 p _ HP.out).mono ?_); rintro e w1 ⟨rfl, HB1⟩; have HC1 := Aside0.mk (Kd.C_below HC.out HB1.out))
    | (go_at_call 21; (with_reducible refine (pick_calls own (1 + p + 2) o _ HO.out).mono ?_); rintro e w2 ⟨rfl, HB2⟩; have HC2 := Aside0.mk (Kd.C_below HC1.out HB2.out))
    | (go_at_call 28; (with_reducible refine (handRow_calls (1 + p) A c l r _ HC2.out hc HR.out HL.out (by omega)).mono ?_); rintro e w3 ⟨g3, d3, rfl, hd3, HC3, HB3⟩; have HX3 := Aside0.mk (then_ (then_ HB1.out HB2.out) HB3.out))
    | (go_at_call 29; (with_reducible refine (input_calls n m inp _ HI.out).mono ?_); rintro e w4 ⟨rfl, HB4⟩; have HC4 := Aside0.mk (Kd.C_below HC3.out HB4.out); have HX4 := Aside0.mk (then_ HX3.out HB4.out))
    | (go_at_call 22; (with_reducible refine (rowN_calls r.length hl1 hl8 (1 + p) (o - 1) HL.out.symm _ _ r.length r inp _ rfl (Kd.C_below HC4.out ((Below.refl _ _).alloc (Nat.le_refl _) _)) hd3 hl8).mono ?_); rintro e w5 ⟨g5, d5, rfl, hd5, HA5, HB5⟩; have HC5 := Aside0.mk (Kd.C_below HC4.out (then_ ((Below.refl _ _).alloc (Nat.le_refl _) _) HB5.out)); have BK5 := Aside0.mk ((HB5.out.block w4.heap.size (by simp)).trans (heap_alloc_new w4 _)); have HX5 := Aside0.mk (then_ HX4.out (then_ ((Below.refl _ _).alloc (Nat.le_refl _) _) HB5.out)); have k50 := (blk_cell BK5.out 0).trans rfl; have k51 := (blk_cell BK5.out 1).trans rfl; have k52 := (blk_cell BK5.out 2).trans rfl)
    | (go_at_call 22; (with_reducible refine (rowN_calls r.length hl1 hl8 (1 + p) (o - 1) HL.out.symm none 0 0 [] inp _ rfl (C_nil _) (Nat.le_refl _) (by simp)).mono ?_); rintro e w6 ⟨g6, d6, rfl, hd6, HD6, HB6⟩; have HC6 := Aside0.mk (Kd.C_below HC5.out HB6.out); have HA6 := Aside0.mk (Kd.C_below HA5.out HB6.out); have BK6 := Aside0.mk ((HB6.out.block _ (below_size HB5.out |> Nat.lt_of_lt_of_le (by simp))).trans BK5.out); have HX6 := Aside0.mk (then_ HX5.out HB6.out))
    | (go_at_call 23; (with_reducible refine (known_calls _).mono ?_); rintro e w7 ⟨rfl, hb7⟩; have HB7 := Aside0.mk hb7; clear hb7; have HC7 := Aside0.mk (Kd.C_below HC6.out HB7.out); have HA7 := Aside0.mk (Kd.C_below HA6.out HB7.out); have HD7 := Aside0.mk (Kd.C_below HD6.out HB7.out); have HX7 := Aside0.mk (then_ HX6.out HB7.out)))
  have BK7 := Aside0.mk ((HB7.out.block _ (Nat.lt_of_lt_of_le (Nat.lt_of_lt_of_le (by simp) (below_size HB5.out)) (below_size HB6.out))).trans BK6.out)
  go_loopg [55] r.length (fun kq v55 wr => ∃ x : Int, v55 = .int .i64 x ∧ Aside0 (0 ≤ x ∧ x + kq = r.length) ∧ Aside0 (Below w7.heap.size w7 wr))
  case atStart => exact ⟨0, rfl, ⟨by omega⟩, ⟨Below.refl _ _⟩⟩
  case round =>
    obtain ⟨x, rfl, HX, HW⟩ := hrel
    have h0 : 0 ≤ x := HX.out.1
    cases gk with
    | zero =>
      have hx : decide (x < (r.length : Int)) = false := decide_eq_false (by have := HX.out.2; omega)
      go_wp2
      go_ret
      exact ⟨rfl, then_ HX7.out HW.out⟩
    | succ k1 =>
      have hlt : x < (r.length : Int) := by have := HX.out.2; omega
      have hltd : decide (x < (r.length : Int)) = true := decide_eq_true hlt
      have BKr := Aside0.mk ((HW.out.block _ (Nat.lt_of_lt_of_le (Nat.lt_of_lt_of_le (Nat.lt_of_lt_of_le (by simp) (below_size HB5.out)) (below_size HB6.out)) (below_size HB7.out))).trans BK7.out)
      have k0 := (blk_cell BKr.out 0).trans rfl
      have k1' := (blk_cell BKr.out 1).trans rfl
      have k2 := (blk_cell BKr.out 2).trans rfl
      by_cases hown : x = o - 1
      · have hob : (x == o - 1) = true := by simp [hown]
        obtain ⟨a0, a1, a2, a3⟩ := C_cellsI (Kd.C_below HA7.out HW.out) x h0 hlt _ (slot_own r (o - 1) inp r.length x h0 hlt hown)
        obtain ⟨b0, b1, b2, b3⟩ := C_cellsI (Kd.C_below HD7.out HW.out) x h0 hlt _ (slot_own [] (o - 1) inp r.length x h0 hlt hown)
        have HOW := Aside0.mk hown
        clear hown
        go_wp2
        go_quiet (fail)
        go_wp2
        go_roundg k1
        case measure => omega
        case rel => exact ⟨x + 1, rfl, ⟨by have := HX.out.2; omega⟩, ⟨by exact pw_below_drewN HW.out _⟩⟩
      · have hob : (x == o - 1) = false := by simp [hown]
        obtain ⟨a0, a1, a2, a3⟩ := C_cellsI (Kd.C_below HA7.out HW.out) x h0 hlt _ (slot_other r (o - 1) inp r.length x h0 hlt hown rfl)
        obtain ⟨b0, b1, b2, b3⟩ := C_cellsI (Kd.C_below HD7.out HW.out) x h0 hlt (⟨false, ⟨0, 0, 0⟩⟩ : S36) (slot_none (o - 1) inp r.length x h0 hlt hown)
        obtain ⟨c0, c1, c2, c3⟩ := C_cellsI (Kd.C_below HC7.out HW.out) x h0 hlt _ rfl
        have HOW := Aside0.mk hown
        clear hown
        go_wp2
        go_quiet (fail)
        go_wp2
        go_roundg k1
        case measure => omega
        case rel => exact ⟨x + 1, rfl, ⟨by have := HX.out.2; omega⟩, ⟨by exact pw_below_drewN HW.out _⟩⟩
end Go.Proofs.Ytodidkjajkjlaaa.Alike
