/- GuessKnown answers true (the walk; no conditions). -/
import Derived.Test.YtodidkjajkjlaaaGuessKnownW
namespace Go.Proofs.Ytodidkjajkjlaaa.Alike
open Go.RowKit Go.Proofs.Ytodidkjajkjlaaa.GuessPure Go.Proofs.Ytodidkjajkjlaaa.PGuessTells Go.Proofs.YtodidkjajkjlaaaW.PrintWords Go.Proofs.YtodidkjajkjlaaaW.PrintLast Go.Proofs.YtodidkjajkjlaaaW.PrintMore
set_option linter.unusedVariables false
set_option linter.unusedSimpArgs false

/-- The cells of a row, slot by slot. -/
theorem C_cells {w : World} {g n : Nat} {xs : List S36} (h : Kd.C k36 w (some ⟨g, 0, none⟩) n xs) (i : Nat) (hi : i < n) :
    w.cell? ⟨g, i * 4, none⟩ = some (.bool (xs.getD i z36).f0) ∧ w.cell? ⟨g, i * 4 + 1, none⟩ = some (.int .i64 (xs.getD i z36).f1.f0) ∧
    w.cell? ⟨g, i * 4 + 2, none⟩ = some (.int .i64 (xs.getD i z36).f1.f1) ∧ w.cell? ⟨g, i * 4 + 3, none⟩ = some (.int .i64 (xs.getD i z36).f1.f2) := by
  obtain ⟨ad, e, h0, h1, h2, h3⟩ := at_T36 h i (by omega) (by omega)
  cases e
  have e : (⟨g, 0, none⟩ : Addr).add (i * 4) = ⟨g, i * 4, none⟩ := by unfold Addr.add; split <;> simp_all
  have e2 : ((i : Int).toNat) = i := by omega
  rw [e2] at h0 h1 h2 h3
  rw [e] at h0 h1 h2 h3
  simp only [rd_T36, e2] at h0 h1 h2 h3
  exact ⟨h0, h1, h2, h3⟩

def last3 : List S36 := [⟨false, ⟨0, 0, 1⟩⟩, ⟨true, ⟨0, 0, 2⟩⟩, ⟨true, ⟨0, 0, 0⟩⟩]
abbrev cells3 : Array Value := #[.bool false, .int .i64 0, .int .i64 0, .int .i64 1, .bool true, .int .i64 0, .int .i64 0, .int .i64 2, .bool true, .int .i64 0, .int .i64 0, .int .i64 0]

theorem C_new3 (w : World) : Kd.C k36 (w.alloc (.cells cells3 36)) (some ⟨w.heap.size, 0, none⟩) 3 last3 := by
  refine ⟨rfl, by omega, fun _ => ⟨_, rfl, fun j p hj => ?_⟩⟩
  have hcell : ∀ k, (w.alloc (.cells cells3 36)).cell? ⟨w.heap.size, k, none⟩ = cells3[k]? := fun k => cell_of_row _ _ k _ 36 (0, 0) (heap_alloc_new w _)
  have e : ∀ k, (⟨w.heap.size, 0, none⟩ : Addr).add k = ⟨w.heap.size, k, none⟩ := fun k => by unfold Addr.add; split <;> simp_all
  match j, hj with
  | 0, hj =>
    cases hj
    refine ⟨_, rfl, k36_mk _ _, fun i u hu => ?_⟩
    rw [e, hcell]
    match i, hu with
    | 0, hu => exact hu
    | 1, hu => exact hu
    | 2, hu => exact hu
    | 3, hu => exact hu
  | 1, hj =>
    cases hj
    refine ⟨_, rfl, k36_mk _ _, fun i u hu => ?_⟩
    rw [e, hcell]
    match i, hu with
    | 0, hu => exact hu
    | 1, hu => exact hu
    | 2, hu => exact hu
    | 3, hu => exact hu
  | 2, hj =>
    cases hj
    refine ⟨_, rfl, k36_mk _ _, fun i u hu => ?_⟩
    rw [e, hcell]
    match i, hu with
    | 0, hu => exact hu
    | 1, hu => exact hu
    | 2, hu => exact hu
    | 3, hu => exact hu

def r2b : List S36 := [⟨true, ⟨0, 0, 1⟩⟩, ⟨true, ⟨0, 0, 2⟩⟩]
def s8 : List S36 := [⟨true, ⟨0, 0, 1⟩⟩, ⟨true, ⟨0, 0, 2⟩⟩, ⟨true, ⟨0, 0, 0⟩⟩, z36, z36, z36, z36, z36]

theorem row_a (L : Nat) (w : World) (hc : Kd.C k36 w (some ⟨L, 0, none⟩) 3 last3) :
    Calls Try.prog 22 #[.int .i64 2, .slice (some ⟨L, 0, none⟩) 3 3, .int .i64 9, .agg #[.int .i64 0, .int .i64 3, .int .i64 0]] w fun e w' =>
      ∃ g d, e = .returned (.slice (some ⟨g, 0, none⟩) 2 d) ∧ 2 ≤ d ∧ Aside0 (Kd.C k36 w' (some ⟨g, 0, none⟩) 2 r2b) ∧ Aside0 (Below w.heap.size w w') :=
  (row_calls 2 9 (some ⟨L, 0, none⟩) 3 last3 ⟨0, 3, 0⟩ w hc (by decide) (by decide)).mono fun e w' ⟨g, d, he, hd, hC, hb⟩ => ⟨g, d, he, hd, ⟨hC⟩, ⟨hb⟩⟩
theorem row_b (L : Nat) (w : World) (hc : Kd.C k36 w (some ⟨L, 0, none⟩) 3 last3) :
    Calls Try.prog 22 #[.int .i64 99, .slice (some ⟨L, 0, none⟩) 3 3, .int .i64 (-1), .agg #[.int .i64 0, .int .i64 0, .int .i64 0]] w fun e w' =>
      ∃ g d, e = .returned (.slice (some ⟨g, 0, none⟩) 8 d) ∧ 8 ≤ d ∧ Aside0 (Kd.C k36 w' (some ⟨g, 0, none⟩) 8 s8) ∧ Aside0 (Below w.heap.size w w') :=
  (row_calls 99 (-1) (some ⟨L, 0, none⟩) 3 last3 ⟨0, 0, 0⟩ w hc (by decide) (by decide)).mono fun e w' ⟨g, d, he, hd, hC, hb⟩ => ⟨g, d, he, hd, ⟨hC⟩, ⟨hb⟩⟩
theorem row_c (w : World) :
    Calls Try.prog 22 #[.int .i64 0, .slice none 0 0, .int .i64 0, .agg #[.int .i64 0, .int .i64 0, .int .i64 0]] w fun e w' =>
      ∃ g d, e = .returned (.slice (some ⟨g, 0, none⟩) 1 d) ∧ 1 ≤ d ∧ Aside0 (Below w.heap.size w w') :=
  (row_calls 0 0 none 0 [] ⟨0, 0, 0⟩ w (C_nil w) (by decide) (by decide)).mono fun e w' ⟨g, d, he, hd, hC, hb⟩ => ⟨g, d, he, hd, ⟨hb⟩⟩

theorem alike_a (g g' d d' : Nat) (w : World) (hd : 2 ≤ d) (hd' : 8 ≤ d') (hc : Kd.C k36 w (some ⟨g, 0, none⟩) 2 r2b) (hc' : Kd.C k36 w (some ⟨g', 0, none⟩) 8 s8) :
    Calls Try.prog 24 #[.slice (some ⟨g, 0, none⟩) 2 d, .slice (some ⟨g', 0, none⟩) 8 d'] w fun e w' => e = .returned (.bool false) ∧ Aside0 (Below w.heap.size w w') :=
  (alike_calls _ _ d d' r2b s8 w hc hc' hd hd' (by decide)).mono fun e w' ⟨he, hb⟩ => ⟨he, ⟨hb⟩⟩
theorem alike_b (w : World) : Calls Try.prog 24 #[.slice none 0 0, .slice none 0 0] w fun e w' => e = .returned (.bool true) ∧ Aside0 (Below w.heap.size w w') :=
  (alike_calls none none 0 0 [] [] w (C_nil w) (C_nil w) (by decide) (by decide) (by decide)).mono fun e w' ⟨he, hb⟩ => ⟨he, ⟨hb⟩⟩
theorem alike_c (L : Nat) (w : World) (hc : Kd.C k36 w (some ⟨L, 0, none⟩) 3 last3) :
    Calls Try.prog 24 #[.slice none 0 0, .slice (some ⟨L, 0, none⟩) 3 3] w fun e w' => e = .returned (.bool false) ∧ Aside0 (Below w.heap.size w w') :=
  (alike_calls none _ 0 3 [] last3 w (C_nil w) hc (by decide) (by decide) (by decide)).mono fun e w' ⟨he, hb⟩ => ⟨he, ⟨hb⟩⟩

/-- A step of a run: what a callee made behind what was made before. -/
theorem then_ {w w1 w2 : World} (h : Below w.heap.size w w1) (h' : Below w1.heap.size w1 w2) : Below w.heap.size w w2 := h.trans (h'.mono h.size)

set_option maxHeartbeats 8000000 in
set_option maxRecDepth 100000 in
theorem law_calls (w : World) : Calls Try.prog 7 #[] w fun e w' => e = .returned (.bool true) ∧ Below w.heap.size w w' := by
  have hu34 := Try.underlying34
  have hu36 := Try.underlying36
  have H0 := Aside0.mk (C_new3 w)
  have HB0 := Aside0.mk ((Below.refl w.heap.size w).alloc (Nat.le_refl _) (.cells cells3 36))
  go_enter Try.func7, Try.ntmps7
  go_wp2_with (first | (go_at_call 22; (with_reducible refine (row_a _ _ H0.out).mono ?_); rintro e w1 ⟨g1, d1, rfl, hd1, HC1, HB1⟩; have HL1 := Aside0.mk (Kd.C_below H0.out HB1.out); have HX1 := Aside0.mk (then_ HB0.out HB1.out)) | (go_at_call 22; (with_reducible refine (row_b _ _ HL1.out).mono ?_); rintro e w2 ⟨g2, d2, rfl, hd2, HC2, HB2⟩; have HL2 := Aside0.mk (Kd.C_below HL1.out HB2.out); have HR2 := Aside0.mk (Kd.C_below HC1.out HB2.out); have HX2 := Aside0.mk (then_ HX1.out HB2.out)) | (go_at_call 23; (with_reducible refine (known_calls _).mono ?_); rintro e w3 ⟨rfl, hb3⟩; have HB3 := Aside0.mk hb3; clear hb3; have HL3 := Aside0.mk (Kd.C_below HL2.out HB3.out); have HR3 := Aside0.mk (Kd.C_below HR2.out HB3.out); have HS3 := Aside0.mk (Kd.C_below HC2.out HB3.out); have HX3 := Aside0.mk (then_ HX2.out HB3.out); obtain ⟨a0, a1, a2, a3⟩ := C_cells HR3.out 0 (by decide); obtain ⟨b0, b1, b2, b3⟩ := C_cells HR3.out 1 (by decide); obtain ⟨c0, c1, c2, c3⟩ := C_cells HS3.out 2 (by decide); obtain ⟨f0, f1, f2, f3⟩ := C_cells HS3.out 3 (by decide); simp only [r2b, s8, List.getD_cons_zero, List.getD_cons_succ, Nat.reduceMul, Nat.reduceAdd, z36, z34] at a0 a1 a2 a3 b0 b1 b2 b3 c0 c1 c2 c3 f0 f1 f2 f3) | (go_at_call 22; (with_reducible refine (row_c _).mono ?_); rintro e w4 ⟨g4, d4, rfl, hd4, HB4⟩; have HL4 := Aside0.mk (Kd.C_below HL3.out HB4.out); have HR4 := Aside0.mk (Kd.C_below HR3.out HB4.out); have HS4 := Aside0.mk (Kd.C_below HS3.out HB4.out); have HX4 := Aside0.mk (then_ HX3.out HB4.out)) | (go_at_call 24; (with_reducible refine (alike_a _ _ _ _ _ hd1 hd2 HR4.out HS4.out).mono ?_); rintro e w5 ⟨rfl, HB5⟩; have HL5 := Aside0.mk (Kd.C_below HL4.out HB5.out); have HX5 := Aside0.mk (then_ HX4.out HB5.out)) | (go_at_call 24; (with_reducible refine (alike_b _).mono ?_); rintro e w6 ⟨rfl, HB6⟩; have HL6 := Aside0.mk (Kd.C_below HL5.out HB6.out); have HX6 := Aside0.mk (then_ HX5.out HB6.out)) | (go_at_call 24; (with_reducible refine (alike_c _ _ HL6.out).mono ?_); rintro e w7 ⟨rfl, HB7⟩; have HX7 := Aside0.mk (then_ HX6.out HB7.out)))
  go_ret
  exact ⟨rfl, HX7.out⟩
end Go.Proofs.Ytodidkjajkjlaaa.Alike
