/- guess.Alike answers whether two rows have the same inputs, slot by slot (contracts; no conditions but that the rows can be read). -/
import Derived.Test.YtodidkjajkjlaaaGuessPure
namespace Go.Proofs.Ytodidkjajkjlaaa.Alike
open Go.RowKit Go.Proofs.Ytodidkjajkjlaaa.GuessPure Go.Proofs.Ytodidkjajkjlaaa.PGuessTells Go.Proofs.YtodidkjajkjlaaaW.PrintWords Go.Proofs.YtodidkjajkjlaaaW.PrintLast Go.Proofs.YtodidkjajkjlaaaW.PrintMore
set_option linter.unusedVariables false
set_option linter.unusedSimpArgs false


set_option maxHeartbeats 1000000 in
set_option maxRecDepth 100000 in
theorem eq_calls (x y : S36) (w : World) :
    Calls Try.prog 38 #[.agg #[.bool x.f0, .int .i64 x.f1.f0, .int .i64 x.f1.f1, .int .i64 x.f1.f2], .agg #[.bool y.f0, .int .i64 y.f1.f0, .int .i64 y.f1.f1, .int .i64 y.f1.f2]] w
      fun e w' => e = .returned (.bool (same3 x y)) ∧ Below w.heap.size w w' := by
  have hu34 := Try.underlying34
  have hu36 := Try.underlying36
  go_enter Try.func38, Try.ntmps38
  go_wp2
  all_goals (go_ret; exact ⟨by simp [same3, *], ((Below.refl _ _).alloc (Nat.le_refl _) _).alloc (by simp) _⟩)

set_option maxHeartbeats 4000000 in
set_option maxRecDepth 100000 in
theorem func_calls (A B : Option Addr) (c d : Nat) (a b : List S36) (w : World) (ha : Kd.C k36 w A a.length a) (hb : Kd.C k36 w B b.length b) (hac : a.length ≤ c) (hbd : b.length ≤ d) (hl : a.length = b.length) (hn : a.length ≤ 100000000000000) :
    Calls Try.prog 37 #[.slice A a.length c, .slice B b.length d, .func (.func 38) #[] #[]] w
      fun e w' => e = .returned (.bool (alike a b)) ∧ Below w.heap.size w w' := by
  have HA := Aside0.mk ha
  have HB := Aside0.mk hb
  have HL := Aside0.mk hl
  clear ha hb hl
  have hlb : (a.length == b.length) = true := by have := HL.out; simp [this]
  have hlc : ((a.length : Int) != (b.length : Int)) = false := by have := HL.out; simp [this]
  go_enter Try.func37, Try.ntmps37
  go_wp2
  go_loopg [17] a.length (fun kq v17 wr => ∃ x : Int, v17 = .int .i64 x ∧ Aside0 (0 ≤ x ∧ x + kq = a.length) ∧ Aside0 (sameFrom a b a.length 0 = sameFrom a b kq x.toNat) ∧ Aside0 (Below w.heap.size w wr))
  case atStart => exact ⟨0, rfl, ⟨by omega⟩, ⟨rfl⟩, ⟨Below.refl _ _⟩⟩
  case round =>
    obtain ⟨x, rfl, HX, HS, HW⟩ := hrel
    have h0 : 0 ≤ x := HX.out.1
    cases gk with
    | zero =>
      have hx : decide (x < (a.length : Int)) = false := decide_eq_false (by have := HX.out.2; omega)
      have hres : alike a b = true := by unfold alike; rw [HS.out, HL.out]; simp [sameFrom]
      go_wp2
      go_ret
      exact ⟨by rw [hres]; rfl, HW.out⟩
    | succ k1 =>
      have hlt : x < (a.length : Int) := by have := HX.out.2; omega
      have hltd : decide (x < (a.length : Int)) = true := decide_eq_true hlt
      have hltb : x < (b.length : Int) := by have := HL.out; omega
      obtain ⟨ad, ea, hx0, hx1, hx2, hx3⟩ := at_T36 HA.out x h0 hlt
      cases ea
      obtain ⟨bd, eb, hy0, hy1, hy2, hy3⟩ := at_T36 HB.out x h0 hltb
      cases eb
      replace hx0 := (HW.out.cell (World.block_lt_of_cell? w _ hx0)).trans hx0
      replace hx1 := (HW.out.cell (World.block_lt_of_cell? w _ hx1)).trans hx1
      replace hx2 := (HW.out.cell (World.block_lt_of_cell? w _ hx2)).trans hx2
      replace hx3 := (HW.out.cell (World.block_lt_of_cell? w _ hx3)).trans hx3
      replace hy0 := (HW.out.cell (World.block_lt_of_cell? w _ hy0)).trans hy0
      replace hy1 := (HW.out.cell (World.block_lt_of_cell? w _ hy1)).trans hy1
      replace hy2 := (HW.out.cell (World.block_lt_of_cell? w _ hy2)).trans hy2
      replace hy3 := (HW.out.cell (World.block_lt_of_cell? w _ hy3)).trans hy3
      have hz0 := fun o => (World.cell?_alloc_lt wr o _ (World.block_lt_of_cell? wr _ hy0)).trans hy0
      have hz1 := fun o => (World.cell?_alloc_lt wr o _ (World.block_lt_of_cell? wr _ hy1)).trans hy1
      have hz2 := fun o => (World.cell?_alloc_lt wr o _ (World.block_lt_of_cell? wr _ hy2)).trans hy2
      have hz3 := fun o => (World.cell?_alloc_lt wr o _ (World.block_lt_of_cell? wr _ hy3)).trans hy3
      have hsx : sameFrom a b (k1 + 1) x.toNat = (same3 (rd_T36 a x) (rd_T36 b x) && sameFrom a b k1 (x + 1).toNat) := by
        have : (x + 1).toNat = x.toNat + 1 := by omega
        rw [this]; rfl
      have HSX := Aside0.mk hsx
      clear hsx
      cases hs : same3 (rd_T36 a x) (rd_T36 b x)
      · go_wp2_with (go_at_call 38; refine (eq_calls (rd_T36 a x) (rd_T36 b x) _).mono ?_; rintro e w' ⟨rfl, hb⟩)
        have hres : alike a b = false := by unfold alike; rw [HS.out, HSX.out, hs]; simp
        go_ret
        exact ⟨by rw [hres]; rfl, (((HW.out).alloc HW.out.size _).alloc (by have := HW.out.size; simp; omega) _).trans (hb.mono (by have := HW.out.size; simp; omega))⟩
      · go_wp2_with (go_at_call 38; refine (eq_calls (rd_T36 a x) (rd_T36 b x) _).mono ?_; rintro e w' ⟨rfl, hb⟩)
        go_roundg k1
        case measure => omega
        case rel => exact ⟨x + 1, rfl, ⟨by have := HX.out.2; omega⟩, ⟨by rw [HS.out, HSX.out, hs]; rfl⟩, ⟨(((HW.out).alloc HW.out.size _).alloc (by have := HW.out.size; simp; omega) _).trans (hb.mono (by have := HW.out.size; simp; omega))⟩⟩

set_option maxHeartbeats 4000000 in
set_option maxRecDepth 100000 in
theorem func_calls_no (A B : Option Addr) (n m c d : Nat) (w : World) (hl : n ≠ m) :
    Calls Try.prog 37 #[.slice A n c, .slice B m d, .func (.func 38) #[] #[]] w
      fun e w' => e = .returned (.bool false) ∧ Below w.heap.size w w' := by
  have hlb : (n == m) = false := by simp [hl]
  have hlc : ((n : Int) != (m : Int)) = true := by simp; omega
  clear hl
  go_enter Try.func37, Try.ntmps37
  go_wp2
  go_ret
  exact ⟨rfl, Below.refl _ _⟩

set_option maxHeartbeats 4000000 in
set_option maxRecDepth 100000 in
theorem alike_calls (A B : Option Addr) (c d : Nat) (a b : List S36) (w : World) (ha : Kd.C k36 w A a.length a) (hb : Kd.C k36 w B b.length b) (hac : a.length ≤ c) (hbd : b.length ≤ d) (hn : a.length ≤ 100000000000000) :
    Calls Try.prog 24 #[.slice A a.length c, .slice B b.length d] w
      fun e w' => e = .returned (.bool (alike a b)) ∧ Below w.heap.size w w' := by
  by_cases hl : a.length = b.length
  · have H := Aside0.mk (func_calls A B c d a b w ha hb hac hbd hl hn)
    clear ha hb hl
    go_enter Try.func24, Try.ntmps24
    go_wp2_with (go_at_call 37; refine H.out.mono ?_; rintro e w' ⟨rfl, hb⟩)
    go_ret
    exact ⟨rfl, hb⟩
  · have H := Aside0.mk (func_calls_no A B a.length b.length c d w hl)
    have hres : alike a b = false := by unfold alike; simp [hl]
    have HR := Aside0.mk hres
    clear ha hb hl hres
    go_enter Try.func24, Try.ntmps24
    go_wp2_with (go_at_call 37; refine H.out.mono ?_; rintro e w' ⟨rfl, hb⟩)
    go_ret
    exact ⟨by rw [HR.out]; rfl, hb⟩

end Go.Proofs.Ytodidkjajkjlaaa.Alike
