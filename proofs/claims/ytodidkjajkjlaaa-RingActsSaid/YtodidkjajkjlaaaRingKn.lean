/- The ring's example answers true (a contract; no conditions). -/
import Derived.Test.YtodidkjajkjlaaaRingPut
namespace Go.Proofs.Ytodidkjajkjlaaa.RingRep
open Go.RowKit Go.Proofs.YtodidkjajkjlaaaW.PrintWords Go.Proofs.YtodidkjajkjlaaaW.PrintLast
set_option linter.unusedVariables false
set_option linter.unusedSimpArgs false

def S0 : List (List Value) := List.replicate 17 (atS 0 0)
theorem S0_ok : ∀ s ∈ S0, okS s := fun s hs => by
  rw [S0, List.mem_replicate] at hs
  rw [hs.2]; exact atS_ok 0 0

set_option maxRecDepth 100000 in
theorem zv54 (w : World) : (zeroValue 54).run Try.prog w = .ok (.agg (ringC S0 0 0).toArray) w := by kernel_rfl

theorem ring_new (w : World) : RingAt (w.alloc (.cells (ringC S0 0 0).toArray 54)) w.heap.size S0 0 0 := ⟨heap_alloc_new w _, by simp [S0], S0_ok⟩

/-! The methods, at a ring that is known. -/
theorem newestK (g : Nat) (S : List (List Value)) (f n v : Int) (w : World) (hr : RingAt w g S f n) (hb : 0 ≤ f ∧ f ≤ 1000000000000000 ∧ 0 ≤ n ∧ n ≤ 17) (hv : newest f n = v) :
    Calls Try.prog 33 #[.pointer (some ⟨g, 0, none⟩)] w fun e w' => e = .returned (.int .i64 v) ∧ Aside0 (RingAt w' g S f n) ∧ Aside0 (Only g w w') := by
  subst hv
  exact (newest_calls g S f n w hr hb).mono fun e w' ⟨he, hB⟩ => ⟨he, ⟨hr.below hB.out hr.lt⟩, ⟨Only.of_below hB.out⟩⟩
theorem countK (g : Nat) (S : List (List Value)) (f n : Int) (w : World) (hr : RingAt w g S f n) :
    Calls Try.prog 34 #[.pointer (some ⟨g, 0, none⟩)] w fun e w' => e = .returned (.int .i64 n) ∧ Aside0 (RingAt w' g S f n) ∧ Aside0 (Only g w w') :=
  (count_calls g S f n w hr).mono fun e w' ⟨he, hB⟩ => ⟨he, ⟨hr.below hB.out hr.lt⟩, ⟨Only.of_below hB.out⟩⟩
theorem putK (g : Nat) (S S' : List (List Value)) (f n f' n' x : Int) (st : List Value) (b : Bool) (w : World) (hr : RingAt w g S f n) (hst : okS st) (hb : 0 ≤ f ∧ f ≤ 900000000000000 ∧ 0 ≤ n ∧ n ≤ 17) (hx : x ≤ 900000000000000) (ho : Ring.putOk ⟨S, f, n⟩ x = b) (hp : Ring.put ⟨S, f, n⟩ x st = ⟨S', f', n'⟩) :
    Calls Try.prog 31 #[.pointer (some ⟨g, 0, none⟩), .int .i64 x, .agg st.toArray] w fun e w' => e = .returned (.bool b) ∧ Aside0 (RingAt w' g S' f' n') ∧ Aside0 (Only g w w') := by
  have h := put_calls g ⟨S, f, n⟩ x st w ⟨hr, hb.1, hb.2.1, hb.2.2.1, hb.2.2.2⟩ hst hx b ho
  rw [hp] at h
  exact h
theorem atK (g : Nat) (S : List (List Value)) (f n x m m' : Int) (hm : IntKind.u64.wrap m = m') (w : World) (hr : RingAt w g S f n) :
    Calls Try.prog 32 #[.int .i64 x, .int .i64 m] w fun e w' => e = .returned (.agg (atS x m').toArray) ∧ Aside0 (RingAt w' g S f n) ∧ Aside0 (Only g w w') :=
  hm ▸ (at_calls x m w).mono fun e w' ⟨he, hB⟩ => ⟨he, ⟨hr.below hB.out hr.lt⟩, ⟨Only.of_below hB.out⟩⟩
theorem Only.trans {g : Nat} {w w1 w2 : World} (h : Only g w w1) (h' : Only g w1 w2) : Only g w w2 :=
  ⟨h'.os.trans h.os, h'.tape.trans h.tape, h'.output.trans h.output, Nat.le_trans h.size h'.size, fun k hk hne => (h'.block k (Nat.lt_of_lt_of_le hk h.size) hne).trans (h.block k hk hne)⟩

set_option maxHeartbeats 4000000 in
set_option maxRecDepth 100000 in
theorem known_calls (w : World) : Calls Try.prog 30 #[] w fun e w' => e = .returned (.bool true) ∧ Aside0 (Below w.heap.size w w') := by
  have hz := zv54
  have H0 := Aside0.mk (ring_new w)
  have X0 := Aside0.mk (Only.of_below (g := w.heap.size) ((Below.refl w.heap.size w).alloc (Nat.le_refl _) (.cells (ringC S0 0 0).toArray 54)))
  go_enter Try.func30, Try.ntmps30
  go_wp2_with (first
    | (go_at_call 33; (with_reducible refine (newestK _ S0 0 0 (-1) _ H0.out (by decide) rfl).mono ?_); rintro e w1 ⟨rfl, H1, X1⟩)
    | (go_at_call 32; (with_reducible refine (atK _ S0 0 0 4 0 0 rfl _ H1.out).mono ?_); rintro e w2 ⟨rfl, H2, X2⟩)
    | (go_at_call 31; (with_reducible refine (putK _ S0 (S0.set 4 (atS 4 0)) 0 0 4 1 4 (atS 4 0) true _ H2.out (atS_ok _ _) (by decide) (by decide) rfl rfl).mono ?_); rintro e w3 ⟨rfl, H3, X3⟩)
    | (go_at_call 32; (with_reducible refine (atK _ _ 4 1 5 0 0 rfl _ H3.out).mono ?_); rintro e w4 ⟨rfl, H4, X4⟩)
    | (go_at_call 31; (with_reducible refine (putK _ _ ((S0.set 4 (atS 4 0)).set 5 (atS 5 0)) 4 1 4 2 5 (atS 5 0) true _ H4.out (atS_ok _ _) (by decide) (by decide) rfl rfl).mono ?_); rintro e w5 ⟨rfl, H5, X5⟩)
    | (go_at_call 32; (with_reducible refine (atK _ _ 4 2 7 0 0 rfl _ H5.out).mono ?_); rintro e w6 ⟨rfl, H6, X6⟩)
    | (go_at_call 31; (with_reducible refine (putK _ _ ((S0.set 4 (atS 4 0)).set 5 (atS 5 0)) 4 2 4 2 7 (atS 7 0) false _ H6.out (atS_ok _ _) (by decide) (by decide) rfl rfl).mono ?_); rintro e w7 ⟨rfl, H7, X7⟩)
    | (go_at_call 33; (with_reducible refine (newestK _ _ 4 2 5 _ H7.out (by decide) rfl).mono ?_); rintro e w8 ⟨rfl, H8, X8⟩)
    | (go_at_call 34; (with_reducible refine (countK _ _ 4 2 _ H8.out).mono ?_); rintro e w9 ⟨rfl, H9, X9⟩))
  go_ret
  exact ⟨rfl, ⟨((((((((X0.out.trans X1.out).trans X2.out).trans X3.out).trans X4.out).trans X5.out).trans X6.out).trans X7.out).trans X8.out |>.trans X9.out |>.below (Nat.le_refl _) (Nat.le_refl _))⟩⟩
end Go.Proofs.Ytodidkjajkjlaaa.RingRep
