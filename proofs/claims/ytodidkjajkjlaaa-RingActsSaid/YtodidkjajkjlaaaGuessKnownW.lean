/- doubletakelaw20's example answers true (a contract; no conditions). -/
import Derived.Test.YtodidkjajkjlaaaAlike
namespace Go.Proofs.Ytodidkjajkjlaaa.Alike
open Go.RowKit Go.Proofs.Ytodidkjajkjlaaa.GuessPure Go.Proofs.Ytodidkjajkjlaaa.PGuessTells Go.Proofs.YtodidkjajkjlaaaW.PrintWords Go.Proofs.YtodidkjajkjlaaaW.PrintLast Go.Proofs.YtodidkjajkjlaaaW.PrintMore
set_option linter.unusedVariables false
set_option linter.unusedSimpArgs false

theorem C_nil (w : World) : Kd.C k36 w none 0 [] := ⟨rfl, by omega, fun h => absurd h (by omega)⟩

/-- What guess.Row makes: a slice that reads as the plain row. -/
theorem row_calls (players own : Int) (A : Option Addr) (c : Nat) (l : List S36) (inp : S34) (w : World) (hr : Kd.C k36 w A l.length l) (hc : l.length ≤ c) (hl : l.length ≤ 100000000000000) :
    Calls Try.prog 22 #[.int .i64 players, .slice A l.length c, .int .i64 own, .agg #[.int .i64 inp.f0, .int .i64 inp.f1, .int .i64 inp.f2]] w fun e w' =>
      ∃ g d, e = .returned (.slice (some ⟨g, 0, none⟩) (slots players) d) ∧ slots players ≤ d ∧ Kd.C k36 w' (some ⟨g, 0, none⟩) (slots players) (rowOf (slots players) l own inp) ∧ Below w.heap.size w w' := by
  refine (guess_Row.calls 9 players A c l own inp.f0 inp.f1 inp.f2 _ w hr hc (row_f players l own inp hl)).mono ?_
  rintro e w' ⟨v, rfl, hR, hb⟩
  obtain ⟨g, _, hv, _, _, _, _⟩ := Kd.R_form hR (by rw [rowOf_len]; exact (slots_bd players).1)
  obtain ⟨B, d, rfl, hle, hC⟩ := Kd.R_reads hR
  injection hv with hB _ _
  subst hB
  rw [rowOf_len] at hle hC
  exact ⟨g, d, by rw [rowOf_len], hle, hC, hb⟩

/-- .. and the reference's. -/
theorem ref_calls (players own : Int) (A : Option Addr) (c : Nat) (l : List S36) (inp : S34) (w : World) (hr : Kd.C k36 w A l.length l) (hc : l.length ≤ c) (hl : l.length ≤ 100000000000000) :
    Calls Try.prog 25 #[.int .i64 players, .slice A l.length c, .int .i64 own, .agg #[.int .i64 inp.f0, .int .i64 inp.f1, .int .i64 inp.f2]] w fun e w' =>
      ∃ g d, e = .returned (.slice (some ⟨g, 0, none⟩) (slots players) d) ∧ slots players ≤ d ∧ Kd.C k36 w' (some ⟨g, 0, none⟩) (slots players) (rowOf (slots players) l own inp) ∧ Below w.heap.size w w' := by
  refine (doubletakeref20_Guess.calls 9 players A c l own inp.f0 inp.f1 inp.f2 _ w hr hc (ref_f players l own inp hl)).mono ?_
  rintro e w' ⟨v, rfl, hR, hb⟩
  obtain ⟨g, _, hv, _, _, _, _⟩ := Kd.R_form hR (by rw [rowOf_len]; exact (slots_bd players).1)
  obtain ⟨B, d, rfl, hle, hC⟩ := Kd.R_reads hR
  injection hv with hB _ _
  subst hB
  rw [rowOf_len] at hle hC
  exact ⟨g, d, by rw [rowOf_len], hle, hC, hb⟩

/-- A new block of two cells reads as them. -/
theorem C_new2 (w : World) (x y : S36) : Kd.C k36 (w.alloc (.cells #[.bool x.f0, .int .i64 x.f1.f0, .int .i64 x.f1.f1, .int .i64 x.f1.f2, .bool y.f0, .int .i64 y.f1.f0, .int .i64 y.f1.f1, .int .i64 y.f1.f2] 36)) (some ⟨w.heap.size, 0, none⟩) 2 [x, y] := by
  refine ⟨rfl, by omega, fun _ => ⟨_, rfl, fun j p hj => ?_⟩⟩
  match j, hj with
  | 0, hj =>
    cases hj
    refine ⟨_, rfl, k36_mk _ x, fun i u hu => ?_⟩
    match i, hu with
    | 0, hu => cases hu; go_simp
    | 1, hu => cases hu; go_simp
    | 2, hu => cases hu; go_simp
    | 3, hu => cases hu; go_simp
  | 1, hj =>
    cases hj
    refine ⟨_, rfl, k36_mk _ y, fun i u hu => ?_⟩
    match i, hu with
    | 0, hu => cases hu; go_simp; rfl
    | 1, hu => cases hu; go_simp; rfl
    | 2, hu => cases hu; go_simp; rfl
    | 3, hu => cases hu; go_simp; rfl

def r2 : List S36 := [z36, ⟨true, ⟨0, 3, 0⟩⟩]
theorem row_r2 : rowOf (slots 2) [] 1 ⟨0, 3, 0⟩ = r2 := by rfl

theorem row_known (w : World) :
    Calls Try.prog 22 #[.int .i64 2, .slice none 0 0, .int .i64 1, .agg #[.int .i64 0, .int .i64 3, .int .i64 0]] w fun e w' =>
      ∃ g d, e = .returned (.slice (some ⟨g, 0, none⟩) 2 d) ∧ 2 ≤ d ∧ Aside0 (Kd.C k36 w' (some ⟨g, 0, none⟩) 2 r2) ∧ Aside0 (Below w.heap.size w w') ∧
      w'.cell? ⟨g, 0, none⟩ = some (.bool false) ∧ w'.cell? ⟨g, 1, none⟩ = some (.int .i64 0) ∧ w'.cell? ⟨g, 2, none⟩ = some (.int .i64 0) ∧ w'.cell? ⟨g, 3, none⟩ = some (.int .i64 0) ∧
      w'.cell? ⟨g, 4, none⟩ = some (.bool true) ∧ w'.cell? ⟨g, 5, none⟩ = some (.int .i64 0) ∧ w'.cell? ⟨g, 6, none⟩ = some (.int .i64 3) ∧ w'.cell? ⟨g, 7, none⟩ = some (.int .i64 0) := by
  refine (row_calls 2 1 none 0 [] ⟨0, 3, 0⟩ w (C_nil w) (by simp) (by simp)).mono ?_
  rintro e w' ⟨g, d, rfl, hle, hC, hb⟩
  have hs : slots 2 = 2 := rfl
  rw [row_r2, hs] at hC
  rw [hs] at hle
  obtain ⟨ad, e', h0, h1, h2, h3⟩ := at_T36 hC 0 (by omega) (by omega)
  cases e'
  obtain ⟨ad', e', g0, g1, g2, g3⟩ := at_T36 hC 1 (by omega) (by omega)
  cases e'
  exact ⟨g, d, rfl, hle, ⟨hC⟩, ⟨hb⟩, h0, h1, h2, h3, g0, g1, g2, g3⟩

theorem alike_known (g d : Nat) (w : World) (hd : 2 ≤ d) (hc : Kd.C k36 w (some ⟨g, 0, none⟩) 2 r2) :
    Calls Try.prog 24 #[.slice (some ⟨g, 0, none⟩) 2 d, .slice (some ⟨w.heap.size, 0, none⟩) 2 2] (w.alloc (.cells #[.bool true, .int .i64 0, .int .i64 0, .int .i64 0, .bool false, .int .i64 0, .int .i64 3, .int .i64 0] 36)) fun e w' =>
      e = .returned (.bool true) ∧ Below w.heap.size w w' := by
  have hb := (Below.refl w.heap.size w).alloc (Nat.le_refl _) (.cells #[.bool true, .int .i64 0, .int .i64 0, .int .i64 0, .bool false, .int .i64 0, .int .i64 3, .int .i64 0] 36)
  refine (alike_calls (some ⟨g, 0, none⟩) (some ⟨w.heap.size, 0, none⟩) d 2 r2 [⟨true, z34⟩, ⟨false, ⟨0, 3, 0⟩⟩] _ (Kd.C_below hc hb) (C_new2 w ⟨true, z34⟩ ⟨false, ⟨0, 3, 0⟩⟩) hd (Nat.le_refl _) (by decide)).mono ?_
  rintro e w' ⟨rfl, h⟩
  exact ⟨rfl, hb.trans (h.mono (by simp))⟩

set_option maxHeartbeats 4000000 in
set_option maxRecDepth 100000 in
theorem known_calls (w : World) : Calls Try.prog 23 #[] w fun e w' => e = .returned (.bool true) ∧ Below w.heap.size w w' := by
  have hu34 := Try.underlying34
  have hu36 := Try.underlying36
  go_enter Try.func23, Try.ntmps23
  go_wp2_with (first | (go_at_call 22; refine (row_known _).mono ?_; rintro e w1 ⟨g, d, rfl, hd, HC, HB, h0, h1, h2, h3, g0, g1, g2, g3⟩) | (go_at_call 24; refine (alike_known _ _ _ hd HC.out).mono ?_; rintro e w2 ⟨rfl, hb2⟩))
  go_ret
  exact ⟨rfl, HB.out.trans (hb2.mono HB.out.size)⟩
end Go.Proofs.Ytodidkjajkjlaaa.Alike
