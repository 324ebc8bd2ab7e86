/- Contracts of the functions that make and compare rows: what they answer is what the plain functions of the same names answer. No conditions beyond those in each contract. -/
import Derived.Test.YtodidkjajkjlaaaPGuessTellsx0
import Derived.Test.YtodidkjajkjlaaaPGuessTellsx1
import Derived.Test.YtodidkjajkjlaaaPGuessTellsx2
namespace Go.Proofs.Ytodidkjajkjlaaa.PGuessTells
open Go.RowKit Go.Proofs.YtodidkjajkjlaaaW.PrintWords Go.Proofs.YtodidkjajkjlaaaW.PrintLast Go.Proofs.YtodidkjajkjlaaaW.PrintMore
attribute [local go_sem] max2_int min2_int max_two min_two max_three min_three max_four min_four   -- for this text's walks alone
set_option linter.unusedVariables false
set_option linter.unusedSimpArgs false

attribute [local go_sem high] eqA34 eqA36
/-! ### doubletakehand_Pick: function 21 -/
def doubletakehand_Pick.f (a0 : Int) (a1 : Int) : Option (Int) := if a1 = 0 then (none) else (if (Int.tmod a0 a1) < 0 then (some (wrap64 ((Int.tmod a0 a1) + a1))) else (some (Int.tmod a0 a1)))
set_option maxHeartbeats 8000000 in
set_option maxRecDepth 100000 in
theorem doubletakehand_Pick.calls (a0 : Int) (a1 : Int) (r : Int) (w : World) (h : doubletakehand_Pick.f a0 a1 = some r) :
    Calls Try.prog 21 #[.int .i64 a0, .int .i64 a1] w fun e w' => e = .returned (.int .i64 r) ∧ Drawn0 w w' := by
  have H : (if a1 = 0 then (none) else (if (Int.tmod a0 a1) < 0 then (some (wrap64 ((Int.tmod a0 a1) + a1))) else (some (Int.tmod a0 a1)))) = some r := h
  clear h
  by_cases c3 : a1 = 0
  · rw [if_pos c3] at H
    exact absurd H (by simp)
  · rw [if_neg c3] at H
    have c3b0 : (a1 == 0) = false := beq_eq_false_iff_ne.mpr c3
    have c3b1 : (a1 != 0) = true := bne_iff_ne.mpr c3
    by_cases c4 : (Int.tmod a0 a1) < 0
    · rw [if_pos c4] at H
      have c4b0 : decide ((Int.tmod a0 a1) < 0) = true := decide_eq_true c4
      clear c4
      obtain rfl := Option.some.inj H
      go_enter Try.func21, Try.ntmps21
      go_wp2
      go_ret
      exact ⟨by first | rfl | (simp; done) | (simp [*]; done), by repeat (first | exact Drawn0.refl _ | apply Drawn0.step)⟩
    · rw [if_neg c4] at H
      have c4b0 : decide ((Int.tmod a0 a1) < 0) = false := decide_eq_false c4
      clear c4
      obtain rfl := Option.some.inj H
      go_enter Try.func21, Try.ntmps21
      go_wp2
      go_ret
      exact ⟨by first | rfl | (simp; done) | (simp [*]; done), by repeat (first | exact Drawn0.refl _ | apply Drawn0.step)⟩

/-! ### guess_Row: function 22 -/
def guess_Row.l0 : Nat → List (S36) → Int → List (S36) → Int → Int → Int → Int → Int → Option ((List (S36)))
  | 0, _, _, _, _, _, _, _, _ => none
  | k + 1, x1, x2, x9, x16, x17, x102000, x102001, x102002 => if x17 < x16 then (if x17 = x2 then (if 0 ≤ x17 then (if x17 < (x9.length : Int) then (guess_Row.l0 k x1 x2 (x9.set (x17 : Int).toNat (⟨true, (⟨x102000, x102001, x102002⟩ : S34)⟩ : S36)) x16 (wrap64 (x17 + 1)) x102000 x102001 x102002) else (none)) else (none)) else (if x17 < (x1.length : Int) then (if 0 ≤ x17 then (if x17 < (x9.length : Int) then (guess_Row.l0 k x1 x2 (x9.set (x17 : Int).toNat (⟨true, (⟨(rd_T36 x1 x17).f1.f0, (rd_T36 x1 x17).f1.f1, (rd_T36 x1 x17).f1.f2⟩ : S34)⟩ : S36)) x16 (wrap64 (x17 + 1)) x102000 x102001 x102002) else (none)) else (none)) else (guess_Row.l0 k x1 x2 x9 x16 (wrap64 (x17 + 1)) x102000 x102001 x102002))) else (some x9)
def guess_Row.f (k : Nat) (a0 : Int) (l1 : List (S36)) (a2 : Int) (a3_0 : Int) (a3_1 : Int) (a3_2 : Int) : Option ((List (S36))) := if 0 ≤ (mx 1 (mn a0 8)) then (if (mx 1 (mn a0 8) : Int).toNat ≤ 8796093022208 then ((some (List.replicate (mx 1 (mn a0 8) : Int).toNat z36 : List (S36))).bind fun y102 => (guess_Row.l0 k l1 a2 y102 (y102.length : Int) 0 a3_0 a3_1 a3_2)) else (none)) else (none)
theorem guess_Row.mono_l : ∀ k, (∀ y0 y1 y2 y3 y4 y5 y6 y7, LeO (guess_Row.l0 k y0 y1 y2 y3 y4 y5 y6 y7) (guess_Row.l0 (k + 1) y0 y1 y2 y3 y4 y5 y6 y7))
  | 0 => fun _ _ _ _ _ _ _ _ r h => by simp [guess_Row.l0] at h
  | k + 1 => by
    have ih0 := guess_Row.mono_l k
    · intro y0 y1 y2 y3 y4 y5 y6 y7
      unfold guess_Row.l0
      repeat' first
      | (with_reducible exact ih0 _ _ _ _ _ _ _ _)
      | (with_reducible exact LeO.refl _)
      | (with_reducible exact LeO.none _)
      | (with_reducible refine LeO.ite ?_ ?_)
      | (with_reducible refine LeO.bind ?_ (fun _ => ?_))
      | exact ih0 _ _ _ _ _ _ _ _
      | exact LeO.none _
      | refine LeO.ite ?_ ?_
      | refine LeO.bind ?_ (fun _ => ?_)
theorem guess_Row.mono : ∀ a0 a1 a2 a3 a4 a5 k, LeO (guess_Row.f k a0 a1 a2 a3 a4 a5) (guess_Row.f (k + 1) a0 a1 a2 a3 a4 a5) := by
  intro a0 a1 a2 a3 a4 a5 k
  have ih0 := guess_Row.mono_l k
  unfold guess_Row.f
  repeat' first
      | (with_reducible exact ih0 _ _ _ _ _ _ _ _)
      | (with_reducible exact LeO.refl _)
      | (with_reducible exact LeO.none _)
      | (with_reducible refine LeO.ite ?_ ?_)
      | (with_reducible refine LeO.bind ?_ (fun _ => ?_))
      | exact ih0 _ _ _ _ _ _ _ _
      | exact LeO.none _
      | refine LeO.ite ?_ ?_
      | refine LeO.bind ?_ (fun _ => ?_)
set_option maxHeartbeats 8000000 in
set_option maxRecDepth 100000 in
theorem guess_Row.calls (k : Nat) (a0 : Int) (A1 : Option Addr) (c1 : Nat) (l1 : List (S36)) (a2 : Int) (a3_0 : Int) (a3_1 : Int) (a3_2 : Int) (r : List (S36)) (w : World) (hr1 : Kd.C k36 w A1 l1.length l1) (hc1 : l1.length ≤ c1) (h : guess_Row.f k a0 l1 a2 a3_0 a3_1 a3_2 = some r) :
    Calls Try.prog 22 #[.int .i64 a0, .slice A1 l1.length c1, .int .i64 a2, .agg #[.int .i64 a3_0, .int .i64 a3_1, .int .i64 a3_2]] w fun e w' => ∃ v0_ : Value, e = .returned (v0_) ∧ Kd.R k36 36 w' w.heap.size (fun _ => True) v0_ r ∧ Below w.heap.size w w' := by
  have hu34 := Try.underlying34
  have hu36 := Try.underlying36
  have HR1 := Aside0.mk hr1
  have HC1 := Aside0.mk hc1
  clear hr1 hc1
  have HB := Aside0.mk (Below.refl w.heap.size w)
  have H : (if 0 ≤ (mx 1 (mn a0 8)) then (if (mx 1 (mn a0 8) : Int).toNat ≤ 8796093022208 then ((some (List.replicate (mx 1 (mn a0 8) : Int).toNat z36 : List (S36))).bind fun y102 => (guess_Row.l0 k l1 a2 y102 (y102.length : Int) 0 a3_0 a3_1 a3_2)) else (none)) else (none)) = some r := h
  clear h
  obtain ⟨ji5, hji5⟩ : ∃ j_ : Int, (mn a0 8) = j_ := ⟨_, rfl⟩
  replace H : (if 0 ≤ (mx 1 (ji5)) then (if (mx 1 (ji5) : Int).toNat ≤ 8796093022208 then ((some (List.replicate (mx 1 (ji5) : Int).toNat z36 : List (S36))).bind fun y102 => (guess_Row.l0 k l1 a2 y102 (y102.length : Int) 0 a3_0 a3_1 a3_2)) else (none)) else (none)) = some r := by first | (rw [hji5] at H; exact H) | (simp only [hji5] at H ⊢; exact H)
  (try (have hji5h : ji5 ≤ 8 := by (rw [← hji5]; unfold mn; (repeat' split) <;> omega)))
  (try (have hji5g : ji5 ≤ 64 := by omega))
  have hji5_ : (if 8 < a0 then 8 else a0) = ji5 := hji5
  obtain ⟨ji6, hji6⟩ : ∃ j_ : Int, (mx 1 (ji5)) = j_ := ⟨_, rfl⟩
  replace H : (if 0 ≤ (ji6) then (if (ji6 : Int).toNat ≤ 8796093022208 then ((some (List.replicate (ji6 : Int).toNat z36 : List (S36))).bind fun y102 => (guess_Row.l0 k l1 a2 y102 (y102.length : Int) 0 a3_0 a3_1 a3_2)) else (none)) else (none)) = some r := by first | (rw [hji6] at H; exact H) | (simp only [hji6] at H ⊢; exact H)
  have hji6_ : (if 1 < (ji5) then (ji5) else 1) = ji6 := hji6
  by_cases c7 : 0 ≤ (ji6)
  · rw [if_pos c7] at H
    have c7b0 := eq_true c7
    have c7b1 : decide (0 ≤ (ji6)) = true := decide_eq_true c7
    clear c7
    by_cases c8 : (ji6 : Int).toNat ≤ 8796093022208
    · rw [if_pos c8] at H
      have c8b0 := eq_true c8
      have c8b1 : decide ((ji6 : Int).toNat ≤ 8796093022208) = true := decide_eq_true c8
      clear c8
      obtain ⟨y102, hy102⟩ : ∃ y_ : List (S36), y_ = (List.replicate (ji6 : Int).toNat z36) := ⟨_, rfl⟩
      replace H : (guess_Row.l0 k l1 a2 y102 (y102.length : Int) 0 a3_0 a3_1 a3_2) = some r := by first | (rw [hy102]; with_reducible exact H) | (have H2_ := (Option.bind_some _ _).symm.trans H; rw [hy102]; with_reducible exact H2_) | (have H2_ := (Option.bind_some _ _).symm.trans H; with_reducible exact H2_) | with_reducible exact H | (rw [hy102]; exact H) | exact H
      have Ny102 := Aside0.mk hy102
      clear hy102
      have H' := Aside0.mk H
      clear H
      go_enter Try.func22, Try.ntmps22
      go_wp2_with (first | ((with_reducible refine gate_dst (N := 7) rfl ?_); refine box_event ?hg (N := 7) ?hd (cs := #[.int .i64 a3_0, .int .i64 a3_1, .int .i64 a3_2]) (t := 34) ?hr ?_; (case hd => rfl); (case hg => rfl); (case hr => first | (go_simp; done) | (go_simp; rfl)); intro gb101 hg w9 hbox hb; have n0_ := Aside0.mk (below_step (by repeat (first | (with_reducible first | exact HB.out | apply below_alloc | apply pw_below_drewN | apply below_drew1) | exact HB.out)) hb); have n1_ := Aside0.mk (hbox); have n2_ := Aside0.mk ((by rw [hg]; exact (below_size (by repeat (first | (with_reducible first | exact HB.out | apply below_alloc | apply pw_below_drewN | apply below_drew1) | exact HB.out))) : w.heap.size ≤ gb101)); have n3_ := Aside0.mk ((by rw [hg]; exact (below_size (by repeat (first | (with_reducible first | exact HB.out | apply below_alloc | apply pw_below_drewN | apply below_drew1) | exact HB.out))) : w.heap.size ≤ gb101)); clear HB; have HB := n0_; have BK101 := n1_; have GW101 := n2_; have GE101 := n3_; clear n0_ n1_ n2_ n3_; clear hb hbox hg) | ((with_reducible refine gate_dst (N := 14) rfl ?_); refine Kd.R_make k36 _ 36 rfl (N := 14) rfl 37 _ _ rfl ji6 rfl rfl Try.underlying37 (.agg #[(.bool false), (.int .i64 0), (.int .i64 0), (.int .i64 0)]) 32 info36 rfl (by decide) (by omega) z36 (ok := fun _ => True) (okp := fun _ => True) (k36_mkM _ _ _ z36 ) (fun _ hk => hk) trivial (of_decide_eq_true (by first | (with_reducible assumption) | assumption)) (Nat.le_trans (Nat.mul_le_mul_right _ (of_decide_eq_true (by first | (with_reducible assumption) | assumption) : ji6.toNat ≤ 8796093022208)) (by omega)) (Below.refl _ _) (Nat.le_refl _) ?_; intro v103 w10 ho11 hb hg_ hnew_; clear hg_ hnew_; (first | rw [← Ny102.out] at ho11 | (simp only [Int.reduceToNat] at ho11; rw [← Ny102.out] at ho11)); have n0_ := Aside0.mk (Kd.R_lower ho11 (below_size (by repeat (first | (with_reducible first | exact HB.out | apply below_alloc | apply pw_below_drewN | apply below_drew1 | refine below_set ?_ GE101.out) | exact HB.out)))); have n1_ := Aside0.mk (blk_below (g := gb101) (o := .cells #[.int .i64 a3_0, .int .i64 a3_1, .int .i64 a3_2] 34 (0, 0)) (by (with_reducible repeat (first | refine blk_drewN ?_ _ | refine blk_drew ?_ | refine blk_alloc ?_ _)); exact BK101.out) hb); have n2_ := Aside0.mk (below_step (by repeat (first | (with_reducible first | exact HB.out | apply below_alloc | apply pw_below_drewN | apply below_drew1 | refine below_set ?_ GE101.out) | exact HB.out)) hb); clear BK101; clear HB; have HO104 := n0_; have BK101 := n1_; have HB := n2_; clear n0_ n1_ n2_; clear hb ho11; obtain ⟨Ao12, co12, eo12⟩ := Kd.R_slice HO104.out; subst eo12))
      go_loopg [17] k (fun kq v17 w' => ∃ (x9_1 : List (S36)) (x17_1 : Int), v17 = .int .i64 x17_1 ∧ Aside0 (guess_Row.l0 kq l1 a2 x9_1 (y102.length : Int) x17_1 a3_0 a3_1 a3_2 = some r) ∧ Aside0 (kq ≤ k) ∧ Aside0 (Kd.R k36 36 w' w.heap.size (fun _ => True) (.slice Ao12 y102.length co12) x9_1) ∧ Aside0 (w'.heap[gb101]? = some (.cells #[.int .i64 a3_0, .int .i64 a3_1, .int .i64 a3_2] 34 (0, 0))) ∧ Aside0 (Below w.heap.size w w'))
      case atStart => exact ⟨(y102), (0), (by first | rfl | (simp; done) | (simp [*]; done)), H', ⟨Nat.le_refl _⟩, ⟨by (with_reducible repeat (first | apply Kd.R_alloc | apply Kd.R_drewN | apply Kd.R_drew)); exact HO104.out⟩, ⟨by (with_reducible repeat (first | refine blk_drewN ?_ _ | refine blk_drew ?_ | refine blk_alloc ?_ _)); exact BK101.out⟩, ⟨by repeat (first | (with_reducible first | exact HB.out | apply below_alloc | apply pw_below_drewN | apply below_drew1 | refine below_set ?_ GE101.out) | exact HB.out)⟩⟩
      case round =>
        clear H'
        try clear c1
        try clear c2
        try clear p2
        try clear c7
        try clear c7b0
        try clear c7b1
        try clear c8
        try clear c8b0
        try clear c8b1
        obtain ⟨x9_1, x17_1, rfl, HA, HK1, HO_9, BK101, HB⟩ := hrel
        have hl9_1 := (Kd.R_reads' HO_9.out).1
        rw [hl9_1] at HO_9
        (try simp only [hl9_1])
        (try simp only [hl9_1] at BK101)
        cases gk with
        | zero => exact absurd HA.out (by simp [guess_Row.l0])
        | succ k1 =>
          have H := HA.out
          clear HA
          simp only [guess_Row.l0] at H
          by_cases c13 : x17_1 < (y102.length : Int)
          · rw [if_pos c13] at H
            have c13b0 : decide (x17_1 < (y102.length : Int)) = true := decide_eq_true c13
            have c13b9 : decide (x17_1 < (x9_1.length : Int)) = true := by rw [← hl9_1]; exact c13b0
            clear c13
            by_cases c14 : x17_1 = a2
            · rw [if_pos c14] at H
              have c14b0 : (x17_1 == a2) = true := beq_iff_eq.mpr c14
              have c14b1 : (x17_1 != a2) = false := bne_eq_false_iff_eq.mpr c14
              clear c14
              by_cases c15 : 0 ≤ x17_1
              · rw [if_pos c15] at H
                have c15b0 : decide (0 ≤ x17_1) = true := decide_eq_true c15
                clear c15
                by_cases c16 : x17_1 < (x9_1.length : Int)
                · rw [if_pos c16] at H
                  have c16b0 : decide (x17_1 < (x9_1.length : Int)) = true := decide_eq_true c16
                  clear c16
                  obtain ⟨y105, hy105⟩ : ∃ y_ : List (S36), y_ = (x9_1.set (x17_1 : Int).toNat (⟨true, (⟨a3_0, a3_1, a3_2⟩ : S34)⟩ : S36)) := ⟨_, rfl⟩
                  replace H : (guess_Row.l0 k1 l1 a2 y105 (y102.length : Int) (wrap64 (x17_1 + 1)) a3_0 a3_1 a3_2) = some r := by first | (rw [hy105]; with_reducible exact H) | (have H2_ := (Option.bind_some _ _).symm.trans H; rw [hy105]; with_reducible exact H2_) | (have H2_ := (Option.bind_some _ _).symm.trans H; with_reducible exact H2_) | with_reducible exact H | (rw [hy105]; exact H) | exact H
                  have Ny105 := Aside0.mk hy105
                  clear hy105
                  have H' := Aside0.mk H
                  clear H
                  have hcz18_0 : wr.cell? ⟨gb101, 0, none⟩ = some (.int .i64 a3_0) := (blk_cell BK101.out 0).trans rfl
                  have hcz18_1 : wr.cell? ⟨gb101, 1, none⟩ = some (.int .i64 a3_1) := (blk_cell BK101.out 1).trans rfl
                  have hcz18_2 : wr.cell? ⟨gb101, 2, none⟩ = some (.int .i64 a3_2) := (blk_cell BK101.out 2).trans rfl
                  have hfz18_0 := blk_frozen BK101.out 0
                  have hfz18_1 := blk_frozen BK101.out 1
                  have hfz18_2 := blk_frozen BK101.out 2
                  have p17 : 0 ≤ (x17_1 : Int) := of_decide_eq_true (by first | (with_reducible assumption) | assumption)
                  have q17 : (x17_1 : Int) < ((x9_1.length : Int) : Int) := of_decide_eq_true (by first | (with_reducible assumption) | assumption)
                  obtain ⟨go17, co17, eo17, gb17, gl17, cl17, HG17⟩ := Kd.R_form HO_9.out (by omega)
                  (first | cases eo17 | (injection eo17 with ea_ en_ ec_; (first | subst ea_ | (injection ea_ with ea_; subst ea_)); subst ec_; clear en_))
                  have GB17 := Aside0.mk gb17
                  have GG17 := Aside0.mk HG17
                  clear gb17 gl17 HG17
                  obtain ⟨ce17, hcl17, hM17, hcc17, hfr17⟩ := Kd.R_elem HO_9.out z36 (x17_1 : Int) p17 q17
                  obtain rfl := k36_openM hM17
                  have hx17_0 : wr.cell? ⟨go17, (x17_1 : Int).toNat * 4, none⟩ = some (.bool ((rd_T36 x9_1 x17_1).f0)) := hcc17 0 _ rfl
                  have hx17_1 : wr.cell? ⟨go17, (x17_1 : Int).toNat * 4 + 1, none⟩ = some (.int .i64 ((rd_T36 x9_1 x17_1).f1.f0)) := hcc17 1 _ rfl
                  have hx17_2 : wr.cell? ⟨go17, (x17_1 : Int).toNat * 4 + 2, none⟩ = some (.int .i64 ((rd_T36 x9_1 x17_1).f1.f1)) := hcc17 2 _ rfl
                  have hx17_3 : wr.cell? ⟨go17, (x17_1 : Int).toNat * 4 + 3, none⟩ = some (.int .i64 ((rd_T36 x9_1 x17_1).f1.f2)) := hcc17 3 _ rfl
                  have hf17_0 : wr.frozen? ⟨go17, (x17_1 : Int).toNat * 4, none⟩ = false := hfr17 0
                  have hf17_1 : wr.frozen? ⟨go17, (x17_1 : Int).toNat * 4 + 1, none⟩ = false := hfr17 1
                  have hf17_2 : wr.frozen? ⟨go17, (x17_1 : Int).toNat * 4 + 2, none⟩ = false := hfr17 2
                  have hf17_3 : wr.frozen? ⟨go17, (x17_1 : Int).toNat * 4 + 3, none⟩ = false := hfr17 3
                  clear hcl17 hcc17 hfr17 hM17
                  replace p17 := eq_true p17
                  replace q17 := eq_true q17
                  have HX19 := Aside0.mk (show Kd.R k36 36 wr w.heap.size (fun _ => True) (.slice (some ⟨go17, 0, none⟩) x9_1.length co12) x9_1 from (by (with_reducible repeat (first | apply Kd.R_alloc | apply Kd.R_drewN | apply Kd.R_drew)); exact HO_9.out))
                  obtain ⟨ce19, hcl19, hM19, hcc19, hfr19⟩ := Kd.R_elem HX19.out z36 (x17_1 : Int) (of_decide_eq_true (by first | (with_reducible assumption) | assumption)) (by have h_ : (x17_1 : Int) < ((x9_1.length : Int) : Int) := of_decide_eq_true (by first | (with_reducible assumption) | assumption); first | exact h_ | (have e_ := (Kd.R_reads' HO_9.out).1; omega) | simpa using h_)
                  obtain rfl := k36_openM hM19
                  have HP19 := Kd.R_seg HX19.out (x17_1 : Int) (of_decide_eq_true (by first | (with_reducible assumption) | assumption)) (by have h_ : (x17_1 : Int) < ((x9_1.length : Int) : Int) := of_decide_eq_true (by first | (with_reducible assumption) | assumption); first | exact h_ | (have e_ := (Kd.R_reads' HO_9.out).1; omega) | simpa using h_) (seg := [.bool true, .int .i64 a3_0, .int .i64 a3_1, .int .i64 a3_2]) (j := 0) hcl19 hcc19 (show 4 ≤ 4 from by decide) (x' := (⟨true, (⟨a3_0, a3_1, a3_2⟩ : S34)⟩ : S36)) (k36_mkM _ _ _ (⟨true, (⟨a3_0, a3_1, a3_2⟩ : S34)⟩ : S36) ) (fun _ hk => hk)
                  have hx19_0 := hcc19 0 _ rfl
                  (try simp only [show (k36).sz = 4 from rfl, Nat.mul_one, Nat.add_zero] at hx19_0)
                  have hf19_0 := hfr19 0
                  (try simp only [show (k36).sz = 4 from rfl, Nat.mul_one, Nat.add_zero] at hf19_0)
                  have hx19_1 := hcc19 1 _ rfl
                  (try simp only [show (k36).sz = 4 from rfl, Nat.mul_one, Nat.add_zero] at hx19_1)
                  have hf19_1 := hfr19 1
                  (try simp only [show (k36).sz = 4 from rfl, Nat.mul_one, Nat.add_zero] at hf19_1)
                  have hx19_2 := hcc19 2 _ rfl
                  (try simp only [show (k36).sz = 4 from rfl, Nat.mul_one, Nat.add_zero] at hx19_2)
                  have hf19_2 := hfr19 2
                  (try simp only [show (k36).sz = 4 from rfl, Nat.mul_one, Nat.add_zero] at hf19_2)
                  have hx19_3 := hcc19 3 _ rfl
                  (try simp only [show (k36).sz = 4 from rfl, Nat.mul_one, Nat.add_zero] at hx19_3)
                  have hf19_3 := hfr19 3
                  (try simp only [show (k36).sz = 4 from rfl, Nat.mul_one, Nat.add_zero] at hf19_3)
                  clear hcl19 hcc19 hfr19 hM19
                  go_wp2_with (first | ((with_reducible refine gate_store (t := 36) (p := 28) rfl ?_); refine store_event (t := 36) (p := 28) (v := ?vo_w20) (w1 := ((((wr.setCell ⟨go17, (x17_1 : Int).toNat * 4, none⟩ (.bool true)).setCell ⟨go17, (x17_1 : Int).toNat * 4 + 1, none⟩ (.int .i64 a3_0)).setCell ⟨go17, (x17_1 : Int).toNat * 4 + 2, none⟩ (.int .i64 a3_1)).setCell ⟨go17, (x17_1 : Int).toNat * 4 + 3, none⟩ (.int .i64 a3_2))) ?hg ?ho ?hn ?hr ?_; (case ho => rfl); (case hg => rfl); (case hn => rfl); (case hr => first | (go_simp; done) | (go_simp; rfl)); intro w20 hw; have hg : wr.grownBy w20 (some go17) := (by rw [hw]; exact HP19.2); have hp_ : Kd.R k36 36 w20 w.heap.size (fun _ => True) (.slice (some ⟨go17, 0, none⟩) x9_1.length co12) y105 := (by rw [hw, Ny105.out]; exact HP19.1); clear HP19; have n0_ := Aside0.mk (hp_); have n1_ := Aside0.mk (blk_grown (g := gb101) (o := .cells #[.int .i64 a3_0, .int .i64 a3_1, .int .i64 a3_2] 34 (0, 0)) (by (with_reducible repeat (first | refine blk_drewN ?_ _ | refine blk_drew ?_ | refine blk_alloc ?_ _)); exact BK101.out) hg (Kd.R_ne HO_9.out BK101.out (by decide))); have n2_ := Aside0.mk ((by rw [hw]; exact below_set (below_set (below_set (below_set (HB.out) GB17.out) GB17.out) GB17.out) GB17.out : Below w.heap.size w w20)); clear HO_9; clear BK101; clear HB; have HO_9 := n0_; have BK101 := n1_; have HB := n2_; clear n0_ n1_ n2_; clear hg hw hp_))
                  (try simp only [← hl9_1])
                  go_roundg k1
                  case measure => have := HK1.out; omega
                  case rel => exact ⟨(y105), (wrap64 (x17_1 + 1)), (by first | rfl | (simp; done) | (simp [*]; done)), H', ⟨by have := HK1.out; omega⟩, ⟨by (try simp only [hl9_1]); (with_reducible repeat (first | apply Kd.R_alloc | apply Kd.R_drewN | apply Kd.R_drew)); exact HO_9.out⟩, ⟨by (try simp only [hl9_1]); (with_reducible repeat (first | refine blk_drewN ?_ _ | refine blk_drew ?_ | refine blk_alloc ?_ _)); exact BK101.out⟩, ⟨by repeat (first | (with_reducible first | exact HB.out | apply below_alloc | apply pw_below_drewN | apply below_drew1 | refine below_set ?_ GE101.out) | exact HB.out)⟩⟩
                · rw [if_neg c16] at H
                  exact absurd H (by simp)
              · rw [if_neg c15] at H
                exact absurd H (by simp)
            · rw [if_neg c14] at H
              have c14b0 : (x17_1 == a2) = false := beq_eq_false_iff_ne.mpr c14
              have c14b1 : (x17_1 != a2) = true := bne_iff_ne.mpr c14
              by_cases c21 : x17_1 < (l1.length : Int)
              · rw [if_pos c21] at H
                have c21b0 : decide (x17_1 < (l1.length : Int)) = true := decide_eq_true c21
                clear c21
                by_cases c22 : 0 ≤ x17_1
                · rw [if_pos c22] at H
                  have c22b0 : decide (0 ≤ x17_1) = true := decide_eq_true c22
                  clear c22
                  by_cases c23 : x17_1 < (x9_1.length : Int)
                  · rw [if_pos c23] at H
                    have c23b0 : decide (x17_1 < (x9_1.length : Int)) = true := decide_eq_true c23
                    clear c23
                    obtain ⟨y107, hy107⟩ : ∃ y_ : List (S36), y_ = (x9_1.set (x17_1 : Int).toNat (⟨true, (⟨(rd_T36 l1 x17_1).f1.f0, (rd_T36 l1 x17_1).f1.f1, (rd_T36 l1 x17_1).f1.f2⟩ : S34)⟩ : S36)) := ⟨_, rfl⟩
                    replace H : (guess_Row.l0 k1 l1 a2 y107 (y102.length : Int) (wrap64 (x17_1 + 1)) a3_0 a3_1 a3_2) = some r := by first | (rw [hy107]; with_reducible exact H) | (have H2_ := (Option.bind_some _ _).symm.trans H; rw [hy107]; with_reducible exact H2_) | (have H2_ := (Option.bind_some _ _).symm.trans H; with_reducible exact H2_) | with_reducible exact H | (rw [hy107]; exact H) | exact H
                    have Ny107 := Aside0.mk hy107
                    clear hy107
                    have H' := Aside0.mk H
                    clear H
                    have p106 : 0 ≤ (x17_1 : Int) := of_decide_eq_true (by first | (with_reducible assumption) | assumption)
                    have q106 : x17_1 < (l1.length : Int) := of_decide_eq_true (by first | (with_reducible assumption) | assumption)
                    obtain ⟨ad106, e106, hx106_0, hx106_1, hx106_2, hx106_3⟩ := at_T36 HR1.out x17_1 p106 q106
                    cases e106
                    replace hx106_0 := (HB.out.cell (World.block_lt_of_cell? w _ hx106_0)).trans hx106_0
                    replace hx106_1 := (HB.out.cell (World.block_lt_of_cell? w _ hx106_1)).trans hx106_1
                    replace hx106_2 := (HB.out.cell (World.block_lt_of_cell? w _ hx106_2)).trans hx106_2
                    replace hx106_3 := (HB.out.cell (World.block_lt_of_cell? w _ hx106_3)).trans hx106_3
                    replace p106 := eq_true p106
                    replace q106 := eq_true q106
                    have p24 : 0 ≤ (x17_1 : Int) := of_decide_eq_true (by first | (with_reducible assumption) | assumption)
                    have q24 : (x17_1 : Int) < ((x9_1.length : Int) : Int) := of_decide_eq_true (by first | (with_reducible assumption) | assumption)
                    obtain ⟨go24, co24, eo24, gb24, gl24, cl24, HG24⟩ := Kd.R_form HO_9.out (by omega)
                    (first | cases eo24 | (injection eo24 with ea_ en_ ec_; (first | subst ea_ | (injection ea_ with ea_; subst ea_)); subst ec_; clear en_))
                    have GB24 := Aside0.mk gb24
                    have GG24 := Aside0.mk HG24
                    clear gb24 gl24 HG24
                    obtain ⟨ce24, hcl24, hM24, hcc24, hfr24⟩ := Kd.R_elem HO_9.out z36 (x17_1 : Int) p24 q24
                    obtain rfl := k36_openM hM24
                    have hx24_0 : wr.cell? ⟨go24, (x17_1 : Int).toNat * 4, none⟩ = some (.bool ((rd_T36 x9_1 x17_1).f0)) := hcc24 0 _ rfl
                    have hx24_1 : wr.cell? ⟨go24, (x17_1 : Int).toNat * 4 + 1, none⟩ = some (.int .i64 ((rd_T36 x9_1 x17_1).f1.f0)) := hcc24 1 _ rfl
                    have hx24_2 : wr.cell? ⟨go24, (x17_1 : Int).toNat * 4 + 2, none⟩ = some (.int .i64 ((rd_T36 x9_1 x17_1).f1.f1)) := hcc24 2 _ rfl
                    have hx24_3 : wr.cell? ⟨go24, (x17_1 : Int).toNat * 4 + 3, none⟩ = some (.int .i64 ((rd_T36 x9_1 x17_1).f1.f2)) := hcc24 3 _ rfl
                    have hf24_0 : wr.frozen? ⟨go24, (x17_1 : Int).toNat * 4, none⟩ = false := hfr24 0
                    have hf24_1 : wr.frozen? ⟨go24, (x17_1 : Int).toNat * 4 + 1, none⟩ = false := hfr24 1
                    have hf24_2 : wr.frozen? ⟨go24, (x17_1 : Int).toNat * 4 + 2, none⟩ = false := hfr24 2
                    have hf24_3 : wr.frozen? ⟨go24, (x17_1 : Int).toNat * 4 + 3, none⟩ = false := hfr24 3
                    clear hcl24 hcc24 hfr24 hM24
                    replace p24 := eq_true p24
                    replace q24 := eq_true q24
                    have HX25 := Aside0.mk (show Kd.R k36 36 wr w.heap.size (fun _ => True) (.slice (some ⟨go24, 0, none⟩) x9_1.length co12) x9_1 from (by (with_reducible repeat (first | apply Kd.R_alloc | apply Kd.R_drewN | apply Kd.R_drew)); exact HO_9.out))
                    obtain ⟨ce25, hcl25, hM25, hcc25, hfr25⟩ := Kd.R_elem HX25.out z36 (x17_1 : Int) (of_decide_eq_true (by first | (with_reducible assumption) | assumption)) (by have h_ : (x17_1 : Int) < ((x9_1.length : Int) : Int) := of_decide_eq_true (by first | (with_reducible assumption) | assumption); first | exact h_ | (have e_ := (Kd.R_reads' HO_9.out).1; omega) | simpa using h_)
                    obtain rfl := k36_openM hM25
                    have HP25 := Kd.R_seg HX25.out (x17_1 : Int) (of_decide_eq_true (by first | (with_reducible assumption) | assumption)) (by have h_ : (x17_1 : Int) < ((x9_1.length : Int) : Int) := of_decide_eq_true (by first | (with_reducible assumption) | assumption); first | exact h_ | (have e_ := (Kd.R_reads' HO_9.out).1; omega) | simpa using h_) (seg := [.bool true, .int .i64 ((rd_T36 l1 x17_1).f1.f0), .int .i64 ((rd_T36 l1 x17_1).f1.f1), .int .i64 ((rd_T36 l1 x17_1).f1.f2)]) (j := 0) hcl25 hcc25 (show 4 ≤ 4 from by decide) (x' := (⟨true, (⟨(rd_T36 l1 x17_1).f1.f0, (rd_T36 l1 x17_1).f1.f1, (rd_T36 l1 x17_1).f1.f2⟩ : S34)⟩ : S36)) (k36_mkM _ _ _ (⟨true, (⟨(rd_T36 l1 x17_1).f1.f0, (rd_T36 l1 x17_1).f1.f1, (rd_T36 l1 x17_1).f1.f2⟩ : S34)⟩ : S36) ) (fun _ hk => hk)
                    have hx25_0 := hcc25 0 _ rfl
                    (try simp only [show (k36).sz = 4 from rfl, Nat.mul_one, Nat.add_zero] at hx25_0)
                    have hf25_0 := hfr25 0
                    (try simp only [show (k36).sz = 4 from rfl, Nat.mul_one, Nat.add_zero] at hf25_0)
                    have hx25_1 := hcc25 1 _ rfl
                    (try simp only [show (k36).sz = 4 from rfl, Nat.mul_one, Nat.add_zero] at hx25_1)
                    have hf25_1 := hfr25 1
                    (try simp only [show (k36).sz = 4 from rfl, Nat.mul_one, Nat.add_zero] at hf25_1)
                    have hx25_2 := hcc25 2 _ rfl
                    (try simp only [show (k36).sz = 4 from rfl, Nat.mul_one, Nat.add_zero] at hx25_2)
                    have hf25_2 := hfr25 2
                    (try simp only [show (k36).sz = 4 from rfl, Nat.mul_one, Nat.add_zero] at hf25_2)
                    have hx25_3 := hcc25 3 _ rfl
                    (try simp only [show (k36).sz = 4 from rfl, Nat.mul_one, Nat.add_zero] at hx25_3)
                    have hf25_3 := hfr25 3
                    (try simp only [show (k36).sz = 4 from rfl, Nat.mul_one, Nat.add_zero] at hf25_3)
                    clear hcl25 hcc25 hfr25 hM25
                    go_wp2_with (first | ((with_reducible refine gate_store (t := 36) (p := 42) rfl ?_); refine store_event (t := 36) (p := 42) (v := ?vo_w26) (w1 := ((((wr.setCell ⟨go24, (x17_1 : Int).toNat * 4, none⟩ (.bool true)).setCell ⟨go24, (x17_1 : Int).toNat * 4 + 1, none⟩ (.int .i64 ((rd_T36 l1 x17_1).f1.f0))).setCell ⟨go24, (x17_1 : Int).toNat * 4 + 2, none⟩ (.int .i64 ((rd_T36 l1 x17_1).f1.f1))).setCell ⟨go24, (x17_1 : Int).toNat * 4 + 3, none⟩ (.int .i64 ((rd_T36 l1 x17_1).f1.f2)))) ?hg ?ho ?hn ?hr ?_; (case ho => rfl); (case hg => rfl); (case hn => rfl); (case hr => first | (go_simp; done) | (go_simp; rfl)); intro w26 hw; have hg : wr.grownBy w26 (some go24) := (by rw [hw]; exact HP25.2); have hp_ : Kd.R k36 36 w26 w.heap.size (fun _ => True) (.slice (some ⟨go24, 0, none⟩) x9_1.length co12) y107 := (by rw [hw, Ny107.out]; exact HP25.1); clear HP25; have n0_ := Aside0.mk (hp_); have n1_ := Aside0.mk (blk_grown (g := gb101) (o := .cells #[.int .i64 a3_0, .int .i64 a3_1, .int .i64 a3_2] 34 (0, 0)) (by (with_reducible repeat (first | refine blk_drewN ?_ _ | refine blk_drew ?_ | refine blk_alloc ?_ _)); exact BK101.out) hg (Kd.R_ne HO_9.out BK101.out (by decide))); have n2_ := Aside0.mk ((by rw [hw]; exact below_set (below_set (below_set (below_set (HB.out) GB24.out) GB24.out) GB24.out) GB24.out : Below w.heap.size w w26)); clear HO_9; clear BK101; clear HB; have HO_9 := n0_; have BK101 := n1_; have HB := n2_; clear n0_ n1_ n2_; clear hg hw hp_))
                    (try simp only [← hl9_1])
                    go_roundg k1
                    case measure => have := HK1.out; omega
                    case rel => exact ⟨(y107), (wrap64 (x17_1 + 1)), (by first | rfl | (simp; done) | (simp [*]; done)), H', ⟨by have := HK1.out; omega⟩, ⟨by (try simp only [hl9_1]); (with_reducible repeat (first | apply Kd.R_alloc | apply Kd.R_drewN | apply Kd.R_drew)); exact HO_9.out⟩, ⟨by (try simp only [hl9_1]); (with_reducible repeat (first | refine blk_drewN ?_ _ | refine blk_drew ?_ | refine blk_alloc ?_ _)); exact BK101.out⟩, ⟨by repeat (first | (with_reducible first | exact HB.out | apply below_alloc | apply pw_below_drewN | apply below_drew1 | refine below_set ?_ GE101.out) | exact HB.out)⟩⟩
                  · rw [if_neg c23] at H
                    exact absurd H (by simp)
                · rw [if_neg c22] at H
                  exact absurd H (by simp)
              · rw [if_neg c21] at H
                have c21b0 : decide (x17_1 < (l1.length : Int)) = false := decide_eq_false c21
                clear c21
                have H' := Aside0.mk H
                clear H
                go_wp2
                (try simp only [← hl9_1])
                go_roundg k1
                case measure => have := HK1.out; omega
                case rel => exact ⟨(x9_1), (wrap64 (x17_1 + 1)), (by first | rfl | (simp; done) | (simp [*]; done)), H', ⟨by have := HK1.out; omega⟩, ⟨by (try simp only [hl9_1]); (with_reducible repeat (first | apply Kd.R_alloc | apply Kd.R_drewN | apply Kd.R_drew)); exact HO_9.out⟩, ⟨by (try simp only [hl9_1]); (with_reducible repeat (first | refine blk_drewN ?_ _ | refine blk_drew ?_ | refine blk_alloc ?_ _)); exact BK101.out⟩, ⟨by repeat (first | (with_reducible first | exact HB.out | apply below_alloc | apply pw_below_drewN | apply below_drew1 | refine below_set ?_ GE101.out) | exact HB.out)⟩⟩
          · rw [if_neg c13] at H
            have c13b0 : decide (x17_1 < (y102.length : Int)) = false := decide_eq_false c13
            have c13b9 : decide (x17_1 < (x9_1.length : Int)) = false := by rw [← hl9_1]; exact c13b0
            clear c13
            obtain rfl := Option.some.inj H
            go_wp2
            go_ret
            exact ⟨_, by first | rfl | (simp [errW_none, errW_some] <;> rfl) | (simp only [← hji5, ← hji6]; first | rfl | (simp [errW_none, errW_some] <;> rfl)) | (simp [*, errW_none, errW_some] <;> rfl), by (with_reducible repeat (first | apply Kd.R_alloc | apply Kd.R_drewN | apply Kd.R_drew)); exact HO_9.out, by repeat (first | (with_reducible first | exact HB.out | apply below_alloc | apply pw_below_drewN | apply below_drew1 | refine below_set ?_ GE101.out) | exact HB.out)⟩
    · rw [if_neg c8] at H
      exact absurd H (by simp)
  · rw [if_neg c7] at H
    exact absurd H (by simp)




/-! ### doubletakeref20_Guess: function 25 -/
def doubletakeref20_Guess.l0 : Nat → Int → List (S36) → Int → List (S36) → Int → Int → Int → Int → Option ((List (S36)))
  | 0, _, _, _, _, _, _, _, _ => none
  | k + 1, x0, x1, x2, x9, x10, x117000, x117001, x117002 => if x10 < x0 then (if x10 = x2 then (if 0 ≤ x10 then (if x10 < (x9.length : Int) then (doubletakeref20_Guess.l0 k x0 x1 x2 (x9.set (x10 : Int).toNat (⟨true, (⟨x117000, x117001, x117002⟩ : S34)⟩ : S36)) (wrap64 (x10 + 1)) x117000 x117001 x117002) else (none)) else (none)) else (if x10 < (x1.length : Int) then (if 0 ≤ x10 then (if x10 < (x9.length : Int) then (doubletakeref20_Guess.l0 k x0 x1 x2 (x9.set (x10 : Int).toNat (⟨true, (⟨(rd_T36 x1 x10).f1.f0, (rd_T36 x1 x10).f1.f1, (rd_T36 x1 x10).f1.f2⟩ : S34)⟩ : S36)) (wrap64 (x10 + 1)) x117000 x117001 x117002) else (none)) else (none)) else (doubletakeref20_Guess.l0 k x0 x1 x2 x9 (wrap64 (x10 + 1)) x117000 x117001 x117002))) else (some x9)
def doubletakeref20_Guess.f (k : Nat) (a0 : Int) (l1 : List (S36)) (a2 : Int) (a3_0 : Int) (a3_1 : Int) (a3_2 : Int) : Option ((List (S36))) := if 0 ≤ (mx 1 (mn 8 a0)) then (if (mx 1 (mn 8 a0) : Int).toNat ≤ 8796093022208 then (doubletakeref20_Guess.l0 k (mx 1 (mn 8 a0)) l1 a2 (List.replicate (mx 1 (mn 8 a0) : Int).toNat z36) 0 a3_0 a3_1 a3_2) else (none)) else (none)
theorem doubletakeref20_Guess.mono_l : ∀ k, (∀ y0 y1 y2 y3 y4 y5 y6 y7, LeO (doubletakeref20_Guess.l0 k y0 y1 y2 y3 y4 y5 y6 y7) (doubletakeref20_Guess.l0 (k + 1) y0 y1 y2 y3 y4 y5 y6 y7))
  | 0 => fun _ _ _ _ _ _ _ _ r h => by simp [doubletakeref20_Guess.l0] at h
  | k + 1 => by
    have ih0 := doubletakeref20_Guess.mono_l k
    · intro y0 y1 y2 y3 y4 y5 y6 y7
      unfold doubletakeref20_Guess.l0
      repeat' first
      | (with_reducible exact ih0 _ _ _ _ _ _ _ _)
      | (with_reducible exact LeO.refl _)
      | (with_reducible exact LeO.none _)
      | (with_reducible refine LeO.ite ?_ ?_)
      | (with_reducible refine LeO.bind ?_ (fun _ => ?_))
      | exact ih0 _ _ _ _ _ _ _ _
      | exact LeO.none _
      | refine LeO.ite ?_ ?_
      | refine LeO.bind ?_ (fun _ => ?_)
theorem doubletakeref20_Guess.mono : ∀ a0 a1 a2 a3 a4 a5 k, LeO (doubletakeref20_Guess.f k a0 a1 a2 a3 a4 a5) (doubletakeref20_Guess.f (k + 1) a0 a1 a2 a3 a4 a5) := by
  intro a0 a1 a2 a3 a4 a5 k
  have ih0 := doubletakeref20_Guess.mono_l k
  unfold doubletakeref20_Guess.f
  repeat' first
      | (with_reducible exact ih0 _ _ _ _ _ _ _ _)
      | (with_reducible exact LeO.refl _)
      | (with_reducible exact LeO.none _)
      | (with_reducible refine LeO.ite ?_ ?_)
      | (with_reducible refine LeO.bind ?_ (fun _ => ?_))
      | exact ih0 _ _ _ _ _ _ _ _
      | exact LeO.none _
      | refine LeO.ite ?_ ?_
      | refine LeO.bind ?_ (fun _ => ?_)
set_option maxHeartbeats 8000000 in
set_option maxRecDepth 100000 in
theorem doubletakeref20_Guess.calls (k : Nat) (a0 : Int) (A1 : Option Addr) (c1 : Nat) (l1 : List (S36)) (a2 : Int) (a3_0 : Int) (a3_1 : Int) (a3_2 : Int) (r : List (S36)) (w : World) (hr1 : Kd.C k36 w A1 l1.length l1) (hc1 : l1.length ≤ c1) (h : doubletakeref20_Guess.f k a0 l1 a2 a3_0 a3_1 a3_2 = some r) :
    Calls Try.prog 25 #[.int .i64 a0, .slice A1 l1.length c1, .int .i64 a2, .agg #[.int .i64 a3_0, .int .i64 a3_1, .int .i64 a3_2]] w fun e w' => ∃ v0_ : Value, e = .returned (v0_) ∧ Kd.R k36 36 w' w.heap.size (fun _ => True) v0_ r ∧ Below w.heap.size w w' := by
  have hu34 := Try.underlying34
  have hu36 := Try.underlying36
  have HR1 := Aside0.mk hr1
  have HC1 := Aside0.mk hc1
  clear hr1 hc1
  have HB := Aside0.mk (Below.refl w.heap.size w)
  have H : (if 0 ≤ (mx 1 (mn 8 a0)) then (if (mx 1 (mn 8 a0) : Int).toNat ≤ 8796093022208 then (doubletakeref20_Guess.l0 k (mx 1 (mn 8 a0)) l1 a2 (List.replicate (mx 1 (mn 8 a0) : Int).toNat z36) 0 a3_0 a3_1 a3_2) else (none)) else (none)) = some r := h
  clear h
  obtain ⟨ji5, hji5⟩ : ∃ j_ : Int, (mn 8 a0) = j_ := ⟨_, rfl⟩
  replace H : (if 0 ≤ (mx 1 (ji5)) then (if (mx 1 (ji5) : Int).toNat ≤ 8796093022208 then (doubletakeref20_Guess.l0 k (mx 1 (ji5)) l1 a2 (List.replicate (mx 1 (ji5) : Int).toNat z36) 0 a3_0 a3_1 a3_2) else (none)) else (none)) = some r := by first | (rw [hji5] at H; exact H) | (simp only [hji5] at H ⊢; exact H)
  (try (have hji5h : ji5 ≤ 8 := by (rw [← hji5]; unfold mn; (repeat' split) <;> omega)))
  (try (have hji5g : ji5 ≤ 64 := by omega))
  have hji5_ : (if a0 < 8 then a0 else 8) = ji5 := hji5
  obtain ⟨ji6, hji6⟩ : ∃ j_ : Int, (mx 1 (ji5)) = j_ := ⟨_, rfl⟩
  replace H : (if 0 ≤ (ji6) then (if (ji6 : Int).toNat ≤ 8796093022208 then (doubletakeref20_Guess.l0 k ji6 l1 a2 (List.replicate (ji6 : Int).toNat z36) 0 a3_0 a3_1 a3_2) else (none)) else (none)) = some r := by first | (rw [hji6] at H; exact H) | (simp only [hji6] at H ⊢; exact H)
  have hji6_ : (if 1 < (ji5) then (ji5) else 1) = ji6 := hji6
  by_cases c7 : 0 ≤ (ji6)
  · rw [if_pos c7] at H
    have c7b0 := eq_true c7
    have c7b1 : decide (0 ≤ (ji6)) = true := decide_eq_true c7
    clear c7
    by_cases c8 : (ji6 : Int).toNat ≤ 8796093022208
    · rw [if_pos c8] at H
      have c8b0 := eq_true c8
      have c8b1 : decide ((ji6 : Int).toNat ≤ 8796093022208) = true := decide_eq_true c8
      clear c8
      obtain ⟨y117, hy117⟩ : ∃ y_ : List (S36), y_ = (List.replicate (ji6 : Int).toNat z36) := ⟨_, rfl⟩
      replace H : (doubletakeref20_Guess.l0 k ji6 l1 a2 y117 0 a3_0 a3_1 a3_2) = some r := by first | (rw [hy117]; with_reducible exact H) | (have H2_ := (Option.bind_some _ _).symm.trans H; rw [hy117]; with_reducible exact H2_) | (have H2_ := (Option.bind_some _ _).symm.trans H; with_reducible exact H2_) | with_reducible exact H | (rw [hy117]; exact H) | exact H
      have Ny117 := Aside0.mk hy117
      clear hy117
      have H' := Aside0.mk H
      clear H
      go_enter Try.func25, Try.ntmps25
      go_wp2_with (first | ((with_reducible refine gate_dst (N := 7) rfl ?_); refine box_event ?hg (N := 7) ?hd (cs := #[.int .i64 a3_0, .int .i64 a3_1, .int .i64 a3_2]) (t := 34) ?hr ?_; (case hd => rfl); (case hg => rfl); (case hr => first | (go_simp; done) | (go_simp; rfl)); intro gb116 hg w9 hbox hb; have n0_ := Aside0.mk (below_step (by repeat (first | (with_reducible first | exact HB.out | apply below_alloc | apply pw_below_drewN | apply below_drew1) | exact HB.out)) hb); have n1_ := Aside0.mk (hbox); have n2_ := Aside0.mk ((by rw [hg]; exact (below_size (by repeat (first | (with_reducible first | exact HB.out | apply below_alloc | apply pw_below_drewN | apply below_drew1) | exact HB.out))) : w.heap.size ≤ gb116)); have n3_ := Aside0.mk ((by rw [hg]; exact (below_size (by repeat (first | (with_reducible first | exact HB.out | apply below_alloc | apply pw_below_drewN | apply below_drew1) | exact HB.out))) : w.heap.size ≤ gb116)); clear HB; have HB := n0_; have BK116 := n1_; have GW116 := n2_; have GE116 := n3_; clear n0_ n1_ n2_ n3_; clear hb hbox hg) | ((with_reducible refine gate_dst (N := 15) rfl ?_); refine Kd.R_make k36 _ 36 rfl (N := 15) rfl 37 _ _ rfl ji6 rfl rfl Try.underlying37 (.agg #[(.bool false), (.int .i64 0), (.int .i64 0), (.int .i64 0)]) 32 info36 rfl (by decide) (by omega) z36 (ok := fun _ => True) (okp := fun _ => True) (k36_mkM _ _ _ z36 ) (fun _ hk => hk) trivial (of_decide_eq_true (by first | (with_reducible assumption) | assumption)) (Nat.le_trans (Nat.mul_le_mul_right _ (of_decide_eq_true (by first | (with_reducible assumption) | assumption) : ji6.toNat ≤ 8796093022208)) (by omega)) (Below.refl _ _) (Nat.le_refl _) ?_; intro v118 w10 ho11 hb hg_ hnew_; clear hg_ hnew_; (first | rw [← Ny117.out] at ho11 | (simp only [Int.reduceToNat] at ho11; rw [← Ny117.out] at ho11)); have n0_ := Aside0.mk (Kd.R_lower ho11 (below_size (by repeat (first | (with_reducible first | exact HB.out | apply below_alloc | apply pw_below_drewN | apply below_drew1 | refine below_set ?_ GE116.out) | exact HB.out)))); have n1_ := Aside0.mk (blk_below (g := gb116) (o := .cells #[.int .i64 a3_0, .int .i64 a3_1, .int .i64 a3_2] 34 (0, 0)) (by (with_reducible repeat (first | refine blk_drewN ?_ _ | refine blk_drew ?_ | refine blk_alloc ?_ _)); exact BK116.out) hb); have n2_ := Aside0.mk (below_step (by repeat (first | (with_reducible first | exact HB.out | apply below_alloc | apply pw_below_drewN | apply below_drew1 | refine below_set ?_ GE116.out) | exact HB.out)) hb); clear BK116; clear HB; have HO119 := n0_; have BK116 := n1_; have HB := n2_; clear n0_ n1_ n2_; clear hb ho11))
      go_loopg [10] k (fun kq v10 w' => ∃ (x9_1 : List (S36)) (x10_1 : Int), v10 = .int .i64 x10_1 ∧ Aside0 (doubletakeref20_Guess.l0 kq ji6 l1 a2 x9_1 x10_1 a3_0 a3_1 a3_2 = some r) ∧ Aside0 (kq ≤ k) ∧ Aside0 (Kd.R k36 36 w' w.heap.size (fun _ => True) v118 x9_1) ∧ Aside0 (w'.heap[gb116]? = some (.cells #[.int .i64 a3_0, .int .i64 a3_1, .int .i64 a3_2] 34 (0, 0))) ∧ Aside0 (Below w.heap.size w w'))
      case atStart => exact ⟨(y117), (0), (by first | rfl | (simp; done) | (simp [*]; done)), H', ⟨Nat.le_refl _⟩, ⟨by (with_reducible repeat (first | apply Kd.R_alloc | apply Kd.R_drewN | apply Kd.R_drew)); exact HO119.out⟩, ⟨by (with_reducible repeat (first | refine blk_drewN ?_ _ | refine blk_drew ?_ | refine blk_alloc ?_ _)); exact BK116.out⟩, ⟨by repeat (first | (with_reducible first | exact HB.out | apply below_alloc | apply pw_below_drewN | apply below_drew1 | refine below_set ?_ GE116.out) | exact HB.out)⟩⟩
      case round =>
        clear H'
        try clear c1
        try clear c2
        try clear p2
        try clear c7
        try clear c7b0
        try clear c7b1
        try clear c8
        try clear c8b0
        try clear c8b1
        obtain ⟨x9_1, x10_1, rfl, HA, HK1, HO_9, BK116, HB⟩ := hrel
        cases gk with
        | zero => exact absurd HA.out (by simp [doubletakeref20_Guess.l0])
        | succ k1 =>
          have H := HA.out
          clear HA
          simp only [doubletakeref20_Guess.l0] at H
          by_cases c12 : x10_1 < ji6
          · rw [if_pos c12] at H
            have c12b0 : decide (x10_1 < ji6) = true := decide_eq_true c12
            clear c12
            by_cases c13 : x10_1 = a2
            · rw [if_pos c13] at H
              have c13b0 : (x10_1 == a2) = true := beq_iff_eq.mpr c13
              have c13b1 : (x10_1 != a2) = false := bne_eq_false_iff_eq.mpr c13
              clear c13
              by_cases c14 : 0 ≤ x10_1
              · rw [if_pos c14] at H
                have c14b0 : decide (0 ≤ x10_1) = true := decide_eq_true c14
                clear c14
                by_cases c15 : x10_1 < (x9_1.length : Int)
                · rw [if_pos c15] at H
                  have c15b0 : decide (x10_1 < (x9_1.length : Int)) = true := decide_eq_true c15
                  clear c15
                  obtain ⟨y120, hy120⟩ : ∃ y_ : List (S36), y_ = (x9_1.set (x10_1 : Int).toNat (⟨true, (⟨a3_0, a3_1, a3_2⟩ : S34)⟩ : S36)) := ⟨_, rfl⟩
                  replace H : (doubletakeref20_Guess.l0 k1 ji6 l1 a2 y120 (wrap64 (x10_1 + 1)) a3_0 a3_1 a3_2) = some r := by first | (rw [hy120]; with_reducible exact H) | (have H2_ := (Option.bind_some _ _).symm.trans H; rw [hy120]; with_reducible exact H2_) | (have H2_ := (Option.bind_some _ _).symm.trans H; with_reducible exact H2_) | with_reducible exact H | (rw [hy120]; exact H) | exact H
                  have Ny120 := Aside0.mk hy120
                  clear hy120
                  have H' := Aside0.mk H
                  clear H
                  have hcz17_0 : wr.cell? ⟨gb116, 0, none⟩ = some (.int .i64 a3_0) := (blk_cell BK116.out 0).trans rfl
                  have hcz17_1 : wr.cell? ⟨gb116, 1, none⟩ = some (.int .i64 a3_1) := (blk_cell BK116.out 1).trans rfl
                  have hcz17_2 : wr.cell? ⟨gb116, 2, none⟩ = some (.int .i64 a3_2) := (blk_cell BK116.out 2).trans rfl
                  have hfz17_0 := blk_frozen BK116.out 0
                  have hfz17_1 := blk_frozen BK116.out 1
                  have hfz17_2 := blk_frozen BK116.out 2
                  have p16 : 0 ≤ (x10_1 : Int) := of_decide_eq_true (by first | (with_reducible assumption) | assumption)
                  have q16 : (x10_1 : Int) < ((x9_1.length : Int) : Int) := of_decide_eq_true (by first | (with_reducible assumption) | assumption)
                  obtain ⟨go16, co16, eo16, gb16, gl16, cl16, HG16⟩ := Kd.R_form HO_9.out (by omega)
                  (first | cases eo16 | (injection eo16 with ea_ en_ ec_; (first | subst ea_ | (injection ea_ with ea_; subst ea_)); subst ec_; clear en_))
                  have GB16 := Aside0.mk gb16
                  have GG16 := Aside0.mk HG16
                  clear gb16 gl16 HG16
                  obtain ⟨ce16, hcl16, hM16, hcc16, hfr16⟩ := Kd.R_elem HO_9.out z36 (x10_1 : Int) p16 q16
                  obtain rfl := k36_openM hM16
                  have hx16_0 : wr.cell? ⟨go16, (x10_1 : Int).toNat * 4, none⟩ = some (.bool ((rd_T36 x9_1 x10_1).f0)) := hcc16 0 _ rfl
                  have hx16_1 : wr.cell? ⟨go16, (x10_1 : Int).toNat * 4 + 1, none⟩ = some (.int .i64 ((rd_T36 x9_1 x10_1).f1.f0)) := hcc16 1 _ rfl
                  have hx16_2 : wr.cell? ⟨go16, (x10_1 : Int).toNat * 4 + 2, none⟩ = some (.int .i64 ((rd_T36 x9_1 x10_1).f1.f1)) := hcc16 2 _ rfl
                  have hx16_3 : wr.cell? ⟨go16, (x10_1 : Int).toNat * 4 + 3, none⟩ = some (.int .i64 ((rd_T36 x9_1 x10_1).f1.f2)) := hcc16 3 _ rfl
                  have hf16_0 : wr.frozen? ⟨go16, (x10_1 : Int).toNat * 4, none⟩ = false := hfr16 0
                  have hf16_1 : wr.frozen? ⟨go16, (x10_1 : Int).toNat * 4 + 1, none⟩ = false := hfr16 1
                  have hf16_2 : wr.frozen? ⟨go16, (x10_1 : Int).toNat * 4 + 2, none⟩ = false := hfr16 2
                  have hf16_3 : wr.frozen? ⟨go16, (x10_1 : Int).toNat * 4 + 3, none⟩ = false := hfr16 3
                  clear hcl16 hcc16 hfr16 hM16
                  replace p16 := eq_true p16
                  replace q16 := eq_true q16
                  have HX18 := Aside0.mk (show Kd.R k36 36 wr w.heap.size (fun _ => True) (.slice (some ⟨go16, 0, none⟩) x9_1.length co16) x9_1 from (by (with_reducible repeat (first | apply Kd.R_alloc | apply Kd.R_drewN | apply Kd.R_drew)); exact HO_9.out))
                  obtain ⟨ce18, hcl18, hM18, hcc18, hfr18⟩ := Kd.R_elem HX18.out z36 (x10_1 : Int) (of_decide_eq_true (by first | (with_reducible assumption) | assumption)) (by have h_ : (x10_1 : Int) < ((x9_1.length : Int) : Int) := of_decide_eq_true (by first | (with_reducible assumption) | assumption); first | exact h_ | (have e_ := (Kd.R_reads' HO_9.out).1; omega) | simpa using h_)
                  obtain rfl := k36_openM hM18
                  have HP18 := Kd.R_seg HX18.out (x10_1 : Int) (of_decide_eq_true (by first | (with_reducible assumption) | assumption)) (by have h_ : (x10_1 : Int) < ((x9_1.length : Int) : Int) := of_decide_eq_true (by first | (with_reducible assumption) | assumption); first | exact h_ | (have e_ := (Kd.R_reads' HO_9.out).1; omega) | simpa using h_) (seg := [.bool true, .int .i64 a3_0, .int .i64 a3_1, .int .i64 a3_2]) (j := 0) hcl18 hcc18 (show 4 ≤ 4 from by decide) (x' := (⟨true, (⟨a3_0, a3_1, a3_2⟩ : S34)⟩ : S36)) (k36_mkM _ _ _ (⟨true, (⟨a3_0, a3_1, a3_2⟩ : S34)⟩ : S36) ) (fun _ hk => hk)
                  have hx18_0 := hcc18 0 _ rfl
                  (try simp only [show (k36).sz = 4 from rfl, Nat.mul_one, Nat.add_zero] at hx18_0)
                  have hf18_0 := hfr18 0
                  (try simp only [show (k36).sz = 4 from rfl, Nat.mul_one, Nat.add_zero] at hf18_0)
                  have hx18_1 := hcc18 1 _ rfl
                  (try simp only [show (k36).sz = 4 from rfl, Nat.mul_one, Nat.add_zero] at hx18_1)
                  have hf18_1 := hfr18 1
                  (try simp only [show (k36).sz = 4 from rfl, Nat.mul_one, Nat.add_zero] at hf18_1)
                  have hx18_2 := hcc18 2 _ rfl
                  (try simp only [show (k36).sz = 4 from rfl, Nat.mul_one, Nat.add_zero] at hx18_2)
                  have hf18_2 := hfr18 2
                  (try simp only [show (k36).sz = 4 from rfl, Nat.mul_one, Nat.add_zero] at hf18_2)
                  have hx18_3 := hcc18 3 _ rfl
                  (try simp only [show (k36).sz = 4 from rfl, Nat.mul_one, Nat.add_zero] at hx18_3)
                  have hf18_3 := hfr18 3
                  (try simp only [show (k36).sz = 4 from rfl, Nat.mul_one, Nat.add_zero] at hf18_3)
                  clear hcl18 hcc18 hfr18 hM18
                  go_wp2_with (first | ((with_reducible refine gate_store (t := 36) (p := 29) rfl ?_); refine store_event (t := 36) (p := 29) (v := ?vo_w19) (w1 := ((((wr.setCell ⟨go16, (x10_1 : Int).toNat * 4, none⟩ (.bool true)).setCell ⟨go16, (x10_1 : Int).toNat * 4 + 1, none⟩ (.int .i64 a3_0)).setCell ⟨go16, (x10_1 : Int).toNat * 4 + 2, none⟩ (.int .i64 a3_1)).setCell ⟨go16, (x10_1 : Int).toNat * 4 + 3, none⟩ (.int .i64 a3_2))) ?hg ?ho ?hn ?hr ?_; (case ho => rfl); (case hg => rfl); (case hn => rfl); (case hr => first | (go_simp; done) | (go_simp; rfl)); intro w19 hw; have hg : wr.grownBy w19 (some go16) := (by rw [hw]; exact HP18.2); have hp_ : Kd.R k36 36 w19 w.heap.size (fun _ => True) (.slice (some ⟨go16, 0, none⟩) x9_1.length co16) y120 := (by rw [hw, Ny120.out]; exact HP18.1); clear HP18; have n0_ := Aside0.mk (hp_); have n1_ := Aside0.mk (blk_grown (g := gb116) (o := .cells #[.int .i64 a3_0, .int .i64 a3_1, .int .i64 a3_2] 34 (0, 0)) (by (with_reducible repeat (first | refine blk_drewN ?_ _ | refine blk_drew ?_ | refine blk_alloc ?_ _)); exact BK116.out) hg (Kd.R_ne HO_9.out BK116.out (by decide))); have n2_ := Aside0.mk ((by rw [hw]; exact below_set (below_set (below_set (below_set (HB.out) GB16.out) GB16.out) GB16.out) GB16.out : Below w.heap.size w w19)); clear HO_9; clear BK116; clear HB; have HO_9 := n0_; have BK116 := n1_; have HB := n2_; clear n0_ n1_ n2_; clear hg hw hp_))
                  go_roundg k1
                  case measure => have := HK1.out; omega
                  case rel => exact ⟨(y120), (wrap64 (x10_1 + 1)), (by first | rfl | (simp; done) | (simp [*]; done)), H', ⟨by have := HK1.out; omega⟩, ⟨by (with_reducible repeat (first | apply Kd.R_alloc | apply Kd.R_drewN | apply Kd.R_drew)); exact HO_9.out⟩, ⟨by (with_reducible repeat (first | refine blk_drewN ?_ _ | refine blk_drew ?_ | refine blk_alloc ?_ _)); exact BK116.out⟩, ⟨by repeat (first | (with_reducible first | exact HB.out | apply below_alloc | apply pw_below_drewN | apply below_drew1 | refine below_set ?_ GE116.out) | exact HB.out)⟩⟩
                · rw [if_neg c15] at H
                  exact absurd H (by simp)
              · rw [if_neg c14] at H
                exact absurd H (by simp)
            · rw [if_neg c13] at H
              have c13b0 : (x10_1 == a2) = false := beq_eq_false_iff_ne.mpr c13
              have c13b1 : (x10_1 != a2) = true := bne_iff_ne.mpr c13
              by_cases c20 : x10_1 < (l1.length : Int)
              · rw [if_pos c20] at H
                have c20b0 : decide (x10_1 < (l1.length : Int)) = true := decide_eq_true c20
                clear c20
                by_cases c21 : 0 ≤ x10_1
                · rw [if_pos c21] at H
                  have c21b0 : decide (0 ≤ x10_1) = true := decide_eq_true c21
                  clear c21
                  by_cases c22 : x10_1 < (x9_1.length : Int)
                  · rw [if_pos c22] at H
                    have c22b0 : decide (x10_1 < (x9_1.length : Int)) = true := decide_eq_true c22
                    clear c22
                    obtain ⟨y122, hy122⟩ : ∃ y_ : List (S36), y_ = (x9_1.set (x10_1 : Int).toNat (⟨true, (⟨(rd_T36 l1 x10_1).f1.f0, (rd_T36 l1 x10_1).f1.f1, (rd_T36 l1 x10_1).f1.f2⟩ : S34)⟩ : S36)) := ⟨_, rfl⟩
                    replace H : (doubletakeref20_Guess.l0 k1 ji6 l1 a2 y122 (wrap64 (x10_1 + 1)) a3_0 a3_1 a3_2) = some r := by first | (rw [hy122]; with_reducible exact H) | (have H2_ := (Option.bind_some _ _).symm.trans H; rw [hy122]; with_reducible exact H2_) | (have H2_ := (Option.bind_some _ _).symm.trans H; with_reducible exact H2_) | with_reducible exact H | (rw [hy122]; exact H) | exact H
                    have Ny122 := Aside0.mk hy122
                    clear hy122
                    have H' := Aside0.mk H
                    clear H
                    have p121 : 0 ≤ (x10_1 : Int) := of_decide_eq_true (by first | (with_reducible assumption) | assumption)
                    have q121 : x10_1 < (l1.length : Int) := of_decide_eq_true (by first | (with_reducible assumption) | assumption)
                    obtain ⟨ad121, e121, hx121_0, hx121_1, hx121_2, hx121_3⟩ := at_T36 HR1.out x10_1 p121 q121
                    cases e121
                    replace hx121_0 := (HB.out.cell (World.block_lt_of_cell? w _ hx121_0)).trans hx121_0
                    replace hx121_1 := (HB.out.cell (World.block_lt_of_cell? w _ hx121_1)).trans hx121_1
                    replace hx121_2 := (HB.out.cell (World.block_lt_of_cell? w _ hx121_2)).trans hx121_2
                    replace hx121_3 := (HB.out.cell (World.block_lt_of_cell? w _ hx121_3)).trans hx121_3
                    replace p121 := eq_true p121
                    replace q121 := eq_true q121
                    have p23 : 0 ≤ (x10_1 : Int) := of_decide_eq_true (by first | (with_reducible assumption) | assumption)
                    have q23 : (x10_1 : Int) < ((x9_1.length : Int) : Int) := of_decide_eq_true (by first | (with_reducible assumption) | assumption)
                    obtain ⟨go23, co23, eo23, gb23, gl23, cl23, HG23⟩ := Kd.R_form HO_9.out (by omega)
                    (first | cases eo23 | (injection eo23 with ea_ en_ ec_; (first | subst ea_ | (injection ea_ with ea_; subst ea_)); subst ec_; clear en_))
                    have GB23 := Aside0.mk gb23
                    have GG23 := Aside0.mk HG23
                    clear gb23 gl23 HG23
                    obtain ⟨ce23, hcl23, hM23, hcc23, hfr23⟩ := Kd.R_elem HO_9.out z36 (x10_1 : Int) p23 q23
                    obtain rfl := k36_openM hM23
                    have hx23_0 : wr.cell? ⟨go23, (x10_1 : Int).toNat * 4, none⟩ = some (.bool ((rd_T36 x9_1 x10_1).f0)) := hcc23 0 _ rfl
                    have hx23_1 : wr.cell? ⟨go23, (x10_1 : Int).toNat * 4 + 1, none⟩ = some (.int .i64 ((rd_T36 x9_1 x10_1).f1.f0)) := hcc23 1 _ rfl
                    have hx23_2 : wr.cell? ⟨go23, (x10_1 : Int).toNat * 4 + 2, none⟩ = some (.int .i64 ((rd_T36 x9_1 x10_1).f1.f1)) := hcc23 2 _ rfl
                    have hx23_3 : wr.cell? ⟨go23, (x10_1 : Int).toNat * 4 + 3, none⟩ = some (.int .i64 ((rd_T36 x9_1 x10_1).f1.f2)) := hcc23 3 _ rfl
                    have hf23_0 : wr.frozen? ⟨go23, (x10_1 : Int).toNat * 4, none⟩ = false := hfr23 0
                    have hf23_1 : wr.frozen? ⟨go23, (x10_1 : Int).toNat * 4 + 1, none⟩ = false := hfr23 1
                    have hf23_2 : wr.frozen? ⟨go23, (x10_1 : Int).toNat * 4 + 2, none⟩ = false := hfr23 2
                    have hf23_3 : wr.frozen? ⟨go23, (x10_1 : Int).toNat * 4 + 3, none⟩ = false := hfr23 3
                    clear hcl23 hcc23 hfr23 hM23
                    replace p23 := eq_true p23
                    replace q23 := eq_true q23
                    have HX24 := Aside0.mk (show Kd.R k36 36 wr w.heap.size (fun _ => True) (.slice (some ⟨go23, 0, none⟩) x9_1.length co23) x9_1 from (by (with_reducible repeat (first | apply Kd.R_alloc | apply Kd.R_drewN | apply Kd.R_drew)); exact HO_9.out))
                    obtain ⟨ce24, hcl24, hM24, hcc24, hfr24⟩ := Kd.R_elem HX24.out z36 (x10_1 : Int) (of_decide_eq_true (by first | (with_reducible assumption) | assumption)) (by have h_ : (x10_1 : Int) < ((x9_1.length : Int) : Int) := of_decide_eq_true (by first | (with_reducible assumption) | assumption); first | exact h_ | (have e_ := (Kd.R_reads' HO_9.out).1; omega) | simpa using h_)
                    obtain rfl := k36_openM hM24
                    have HP24 := Kd.R_seg HX24.out (x10_1 : Int) (of_decide_eq_true (by first | (with_reducible assumption) | assumption)) (by have h_ : (x10_1 : Int) < ((x9_1.length : Int) : Int) := of_decide_eq_true (by first | (with_reducible assumption) | assumption); first | exact h_ | (have e_ := (Kd.R_reads' HO_9.out).1; omega) | simpa using h_) (seg := [.bool true, .int .i64 ((rd_T36 l1 x10_1).f1.f0), .int .i64 ((rd_T36 l1 x10_1).f1.f1), .int .i64 ((rd_T36 l1 x10_1).f1.f2)]) (j := 0) hcl24 hcc24 (show 4 ≤ 4 from by decide) (x' := (⟨true, (⟨(rd_T36 l1 x10_1).f1.f0, (rd_T36 l1 x10_1).f1.f1, (rd_T36 l1 x10_1).f1.f2⟩ : S34)⟩ : S36)) (k36_mkM _ _ _ (⟨true, (⟨(rd_T36 l1 x10_1).f1.f0, (rd_T36 l1 x10_1).f1.f1, (rd_T36 l1 x10_1).f1.f2⟩ : S34)⟩ : S36) ) (fun _ hk => hk)
                    have hx24_0 := hcc24 0 _ rfl
                    (try simp only [show (k36).sz = 4 from rfl, Nat.mul_one, Nat.add_zero] at hx24_0)
                    have hf24_0 := hfr24 0
                    (try simp only [show (k36).sz = 4 from rfl, Nat.mul_one, Nat.add_zero] at hf24_0)
                    have hx24_1 := hcc24 1 _ rfl
                    (try simp only [show (k36).sz = 4 from rfl, Nat.mul_one, Nat.add_zero] at hx24_1)
                    have hf24_1 := hfr24 1
                    (try simp only [show (k36).sz = 4 from rfl, Nat.mul_one, Nat.add_zero] at hf24_1)
                    have hx24_2 := hcc24 2 _ rfl
                    (try simp only [show (k36).sz = 4 from rfl, Nat.mul_one, Nat.add_zero] at hx24_2)
                    have hf24_2 := hfr24 2
                    (try simp only [show (k36).sz = 4 from rfl, Nat.mul_one, Nat.add_zero] at hf24_2)
                    have hx24_3 := hcc24 3 _ rfl
                    (try simp only [show (k36).sz = 4 from rfl, Nat.mul_one, Nat.add_zero] at hx24_3)
                    have hf24_3 := hfr24 3
                    (try simp only [show (k36).sz = 4 from rfl, Nat.mul_one, Nat.add_zero] at hf24_3)
                    clear hcl24 hcc24 hfr24 hM24
                    go_wp2_with (first | ((with_reducible refine gate_store (t := 36) (p := 43) rfl ?_); refine store_event (t := 36) (p := 43) (v := ?vo_w25) (w1 := ((((wr.setCell ⟨go23, (x10_1 : Int).toNat * 4, none⟩ (.bool true)).setCell ⟨go23, (x10_1 : Int).toNat * 4 + 1, none⟩ (.int .i64 ((rd_T36 l1 x10_1).f1.f0))).setCell ⟨go23, (x10_1 : Int).toNat * 4 + 2, none⟩ (.int .i64 ((rd_T36 l1 x10_1).f1.f1))).setCell ⟨go23, (x10_1 : Int).toNat * 4 + 3, none⟩ (.int .i64 ((rd_T36 l1 x10_1).f1.f2)))) ?hg ?ho ?hn ?hr ?_; (case ho => rfl); (case hg => rfl); (case hn => rfl); (case hr => first | (go_simp; done) | (go_simp; rfl)); intro w25 hw; have hg : wr.grownBy w25 (some go23) := (by rw [hw]; exact HP24.2); have hp_ : Kd.R k36 36 w25 w.heap.size (fun _ => True) (.slice (some ⟨go23, 0, none⟩) x9_1.length co23) y122 := (by rw [hw, Ny122.out]; exact HP24.1); clear HP24; have n0_ := Aside0.mk (hp_); have n1_ := Aside0.mk (blk_grown (g := gb116) (o := .cells #[.int .i64 a3_0, .int .i64 a3_1, .int .i64 a3_2] 34 (0, 0)) (by (with_reducible repeat (first | refine blk_drewN ?_ _ | refine blk_drew ?_ | refine blk_alloc ?_ _)); exact BK116.out) hg (Kd.R_ne HO_9.out BK116.out (by decide))); have n2_ := Aside0.mk ((by rw [hw]; exact below_set (below_set (below_set (below_set (HB.out) GB23.out) GB23.out) GB23.out) GB23.out : Below w.heap.size w w25)); clear HO_9; clear BK116; clear HB; have HO_9 := n0_; have BK116 := n1_; have HB := n2_; clear n0_ n1_ n2_; clear hg hw hp_))
                    go_roundg k1
                    case measure => have := HK1.out; omega
                    case rel => exact ⟨(y122), (wrap64 (x10_1 + 1)), (by first | rfl | (simp; done) | (simp [*]; done)), H', ⟨by have := HK1.out; omega⟩, ⟨by (with_reducible repeat (first | apply Kd.R_alloc | apply Kd.R_drewN | apply Kd.R_drew)); exact HO_9.out⟩, ⟨by (with_reducible repeat (first | refine blk_drewN ?_ _ | refine blk_drew ?_ | refine blk_alloc ?_ _)); exact BK116.out⟩, ⟨by repeat (first | (with_reducible first | exact HB.out | apply below_alloc | apply pw_below_drewN | apply below_drew1 | refine below_set ?_ GE116.out) | exact HB.out)⟩⟩
                  · rw [if_neg c22] at H
                    exact absurd H (by simp)
                · rw [if_neg c21] at H
                  exact absurd H (by simp)
              · rw [if_neg c20] at H
                have c20b0 : decide (x10_1 < (l1.length : Int)) = false := decide_eq_false c20
                clear c20
                have H' := Aside0.mk H
                clear H
                go_wp2
                go_roundg k1
                case measure => have := HK1.out; omega
                case rel => exact ⟨(x9_1), (wrap64 (x10_1 + 1)), (by first | rfl | (simp; done) | (simp [*]; done)), H', ⟨by have := HK1.out; omega⟩, ⟨by (with_reducible repeat (first | apply Kd.R_alloc | apply Kd.R_drewN | apply Kd.R_drew)); exact HO_9.out⟩, ⟨by (with_reducible repeat (first | refine blk_drewN ?_ _ | refine blk_drew ?_ | refine blk_alloc ?_ _)); exact BK116.out⟩, ⟨by repeat (first | (with_reducible first | exact HB.out | apply below_alloc | apply pw_below_drewN | apply below_drew1 | refine below_set ?_ GE116.out) | exact HB.out)⟩⟩
          · rw [if_neg c12] at H
            have c12b0 : decide (x10_1 < ji6) = false := decide_eq_false c12
            clear c12
            obtain rfl := Option.some.inj H
            go_wp2
            go_ret
            exact ⟨_, by first | rfl | (simp [errW_none, errW_some] <;> rfl) | (simp only [← hji5, ← hji6]; first | rfl | (simp [errW_none, errW_some] <;> rfl)) | (simp [*, errW_none, errW_some] <;> rfl), by (with_reducible repeat (first | apply Kd.R_alloc | apply Kd.R_drewN | apply Kd.R_drew)); exact HO_9.out, by repeat (first | (with_reducible first | exact HB.out | apply below_alloc | apply pw_below_drewN | apply below_drew1 | refine below_set ?_ GE116.out) | exact HB.out)⟩
    · rw [if_neg c8] at H
      exact absurd H (by simp)
  · rw [if_neg c7] at H
    exact absurd H (by simp)

/-! ### doubletakeref15_SameRow: function 26 -/
def doubletakeref15_SameRow.l0 : Nat → List (S36) → List (S36) → Int → Option (Bool)
  | 0, _, _, _ => none
  | k + 1, x0, x1, x5 => if x5 < (x0.length : Int) then (if 0 ≤ x5 then (if x5 < (x1.length : Int) then (if (!(((rd_T36 x0 x5).f0) == ((rd_T36 x1 x5).f0)) || ((!(((rd_T36 x0 x5).f1.f0) == ((rd_T36 x1 x5).f1.f0)) || (!(((rd_T36 x0 x5).f1.f1) == ((rd_T36 x1 x5).f1.f1)) || (!(((rd_T36 x0 x5).f1.f2) == ((rd_T36 x1 x5).f1.f2))))))) = true then (some false) else (doubletakeref15_SameRow.l0 k x0 x1 (wrap64 (x5 + 1)))) else (none)) else (none)) else (some true)
def doubletakeref15_SameRow.f (k : Nat) (l0 : List (S36)) (l1 : List (S36)) : Option (Bool) := if (l0.length : Int) = (l1.length : Int) then (doubletakeref15_SameRow.l0 k l0 l1 0) else (some false)
theorem doubletakeref15_SameRow.mono_l : ∀ k, (∀ y0 y1 y2, LeO (doubletakeref15_SameRow.l0 k y0 y1 y2) (doubletakeref15_SameRow.l0 (k + 1) y0 y1 y2))
  | 0 => fun _ _ _ r h => by simp [doubletakeref15_SameRow.l0] at h
  | k + 1 => by
    have ih0 := doubletakeref15_SameRow.mono_l k
    · intro y0 y1 y2
      unfold doubletakeref15_SameRow.l0
      repeat' first
      | (with_reducible exact ih0 _ _ _)
      | (with_reducible exact LeO.refl _)
      | (with_reducible exact LeO.none _)
      | (with_reducible refine LeO.ite ?_ ?_)
      | (with_reducible refine LeO.bind ?_ (fun _ => ?_))
      | exact ih0 _ _ _
      | exact LeO.none _
      | refine LeO.ite ?_ ?_
      | refine LeO.bind ?_ (fun _ => ?_)
theorem doubletakeref15_SameRow.mono : ∀ a0 a1 k, LeO (doubletakeref15_SameRow.f k a0 a1) (doubletakeref15_SameRow.f (k + 1) a0 a1) := by
  intro a0 a1 k
  have ih0 := doubletakeref15_SameRow.mono_l k
  unfold doubletakeref15_SameRow.f
  repeat' first
      | (with_reducible exact ih0 _ _ _)
      | (with_reducible exact LeO.refl _)
      | (with_reducible exact LeO.none _)
      | (with_reducible refine LeO.ite ?_ ?_)
      | (with_reducible refine LeO.bind ?_ (fun _ => ?_))
      | exact ih0 _ _ _
      | exact LeO.none _
      | refine LeO.ite ?_ ?_
      | refine LeO.bind ?_ (fun _ => ?_)
set_option maxHeartbeats 8000000 in
set_option maxRecDepth 100000 in
theorem doubletakeref15_SameRow.calls (k : Nat) (A0 : Option Addr) (c0 : Nat) (l0 : List (S36)) (A1 : Option Addr) (c1 : Nat) (l1 : List (S36)) (r : Bool) (w : World) (hr0 : Kd.C k36 w A0 l0.length l0) (hc0 : l0.length ≤ c0) (hr1 : Kd.C k36 w A1 l1.length l1) (hc1 : l1.length ≤ c1) (h : doubletakeref15_SameRow.f k l0 l1 = some r) :
    Calls Try.prog 26 #[.slice A0 l0.length c0, .slice A1 l1.length c1] w fun e w' => e = .returned (.bool r) ∧ Drawn0 w w' := by
  have hu36 := Try.underlying36
  have HR0 := Aside0.mk hr0
  have HC0 := Aside0.mk hc0
  clear hr0 hc0
  have HR1 := Aside0.mk hr1
  have HC1 := Aside0.mk hc1
  clear hr1 hc1
  have H : (if (l0.length : Int) = (l1.length : Int) then (doubletakeref15_SameRow.l0 k l0 l1 0) else (some false)) = some r := h
  clear h
  by_cases c3 : (l0.length : Int) = (l1.length : Int)
  · rw [if_pos c3] at H
    have c3b0 : ((l0.length : Int) == (l1.length : Int)) = true := beq_iff_eq.mpr c3
    have c3b1 : ((l0.length : Int) != (l1.length : Int)) = false := bne_eq_false_iff_eq.mpr c3
    have c3b2 : (l0.length == l1.length) = true := by first | simpa using c3 | (simp at c3 ⊢; omega)
    clear c3
    have H' := Aside0.mk H
    clear H
    go_enter Try.func26, Try.ntmps26
    go_wp2
    repeat (go_quiet (fail); try go_wp2)
    go_loopg [5] k (fun kq v5 w' => ∃ (x5_1 : Int), v5 = .int .i64 x5_1 ∧ Aside0 (doubletakeref15_SameRow.l0 kq l0 l1 x5_1 = some r) ∧ Aside0 (kq ≤ k) ∧ Drawn0 w w')
    case atStart => exact ⟨(0), (by first | rfl | (simp; done) | (simp [*]; done)), H', ⟨Nat.le_refl _⟩, by repeat (first | exact Drawn0.refl _ | apply Drawn0.step)⟩
    case round =>
      clear H'
      try clear c1
      try clear c2
      try clear p2
      try clear c3
      try clear c3b0
      try clear c3b1
      try clear c3b2
      obtain ⟨x5_1, rfl, HA, HK1, ⟨m1, rfl⟩⟩ := hrel
      cases gk with
      | zero => exact absurd HA.out (by simp [doubletakeref15_SameRow.l0])
      | succ k1 =>
        have H := HA.out
        clear HA
        simp only [doubletakeref15_SameRow.l0] at H
        by_cases c4 : x5_1 < (l0.length : Int)
        · rw [if_pos c4] at H
          have c4b0 : decide (x5_1 < (l0.length : Int)) = true := decide_eq_true c4
          clear c4
          by_cases c5 : 0 ≤ x5_1
          · rw [if_pos c5] at H
            have c5b0 : decide (0 ≤ x5_1) = true := decide_eq_true c5
            clear c5
            by_cases c6 : x5_1 < (l1.length : Int)
            · rw [if_pos c6] at H
              have c6b0 : decide (x5_1 < (l1.length : Int)) = true := decide_eq_true c6
              clear c6
              by_cases c7 : (!(((rd_T36 l0 x5_1).f0) == ((rd_T36 l1 x5_1).f0)) || ((!(((rd_T36 l0 x5_1).f1.f0) == ((rd_T36 l1 x5_1).f1.f0)) || (!(((rd_T36 l0 x5_1).f1.f1) == ((rd_T36 l1 x5_1).f1.f1)) || (!(((rd_T36 l0 x5_1).f1.f2) == ((rd_T36 l1 x5_1).f1.f2))))))) = true
              · rw [if_pos c7] at H
                have c7b0 : (!(((rd_T36 l0 x5_1).f0) == ((rd_T36 l1 x5_1).f0)) || ((!(((rd_T36 l0 x5_1).f1.f0) == ((rd_T36 l1 x5_1).f1.f0)) || (!(((rd_T36 l0 x5_1).f1.f1) == ((rd_T36 l1 x5_1).f1.f1)) || (!(((rd_T36 l0 x5_1).f1.f2) == ((rd_T36 l1 x5_1).f1.f2))))))) = true := c7
                clear c7
                obtain rfl := Option.some.inj H
                have p123 : 0 ≤ (x5_1 : Int) := of_decide_eq_true (by first | (with_reducible assumption) | assumption)
                have q123 : x5_1 < (l0.length : Int) := of_decide_eq_true (by first | (with_reducible assumption) | assumption)
                obtain ⟨ad123, e123, hx123_0, hx123_1, hx123_2, hx123_3⟩ := at_T36 HR0.out x5_1 p123 q123
                cases e123
                replace p123 := eq_true p123
                replace q123 := eq_true q123
                have p124 : 0 ≤ (x5_1 : Int) := of_decide_eq_true (by first | (with_reducible assumption) | assumption)
                have q124 : x5_1 < (l1.length : Int) := of_decide_eq_true (by first | (with_reducible assumption) | assumption)
                obtain ⟨ad124, e124, hx124_0, hx124_1, hx124_2, hx124_3⟩ := at_T36 HR1.out x5_1 p124 q124
                cases e124
                replace p124 := eq_true p124
                replace q124 := eq_true q124
                go_wp2
                repeat (go_quiet (fail); try go_wp2)
                go_ret
                exact ⟨by first | rfl | (simp; done) | (simp [*]; done), by repeat (first | exact Drawn0.refl _ | apply Drawn0.step)⟩
              · rw [if_neg c7] at H
                have c7b0 : (!(((rd_T36 l0 x5_1).f0) == ((rd_T36 l1 x5_1).f0)) || ((!(((rd_T36 l0 x5_1).f1.f0) == ((rd_T36 l1 x5_1).f1.f0)) || (!(((rd_T36 l0 x5_1).f1.f1) == ((rd_T36 l1 x5_1).f1.f1)) || (!(((rd_T36 l0 x5_1).f1.f2) == ((rd_T36 l1 x5_1).f1.f2))))))) = false := by simpa using c7
                clear c7
                have H' := Aside0.mk H
                clear H
                have p123 : 0 ≤ (x5_1 : Int) := of_decide_eq_true (by first | (with_reducible assumption) | assumption)
                have q123 : x5_1 < (l0.length : Int) := of_decide_eq_true (by first | (with_reducible assumption) | assumption)
                obtain ⟨ad123, e123, hx123_0, hx123_1, hx123_2, hx123_3⟩ := at_T36 HR0.out x5_1 p123 q123
                cases e123
                replace p123 := eq_true p123
                replace q123 := eq_true q123
                have p124 : 0 ≤ (x5_1 : Int) := of_decide_eq_true (by first | (with_reducible assumption) | assumption)
                have q124 : x5_1 < (l1.length : Int) := of_decide_eq_true (by first | (with_reducible assumption) | assumption)
                obtain ⟨ad124, e124, hx124_0, hx124_1, hx124_2, hx124_3⟩ := at_T36 HR1.out x5_1 p124 q124
                cases e124
                replace p124 := eq_true p124
                replace q124 := eq_true q124
                go_wp2
                repeat (go_quiet (fail); try go_wp2)
                go_roundg k1
                case measure => have := HK1.out; omega
                case rel => exact ⟨(wrap64 (x5_1 + 1)), (by first | rfl | (simp; done) | (simp [*]; done)), H', ⟨by have := HK1.out; omega⟩, by repeat (first | exact Drawn0.refl _ | apply Drawn0.step)⟩
            · rw [if_neg c6] at H
              exact absurd H (by simp)
          · rw [if_neg c5] at H
            exact absurd H (by simp)
        · rw [if_neg c4] at H
          have c4b0 : decide (x5_1 < (l0.length : Int)) = false := decide_eq_false c4
          clear c4
          obtain rfl := Option.some.inj H
          go_wp2
          repeat (go_quiet (fail); try go_wp2)
          go_ret
          exact ⟨by first | rfl | (simp; done) | (simp [*]; done), by repeat (first | exact Drawn0.refl _ | apply Drawn0.step)⟩
  · rw [if_neg c3] at H
    have c3b0 : ((l0.length : Int) == (l1.length : Int)) = false := beq_eq_false_iff_ne.mpr c3
    have c3b1 : ((l0.length : Int) != (l1.length : Int)) = true := bne_iff_ne.mpr c3
    have c3b2 : (l0.length == l1.length) = false := by first | simpa using c3 | (simp at c3 ⊢; omega)
    obtain rfl := Option.some.inj H
    go_enter Try.func26, Try.ntmps26
    go_wp2
    repeat (go_quiet (fail); try go_wp2)
    go_ret
    exact ⟨by first | rfl | (simp; done) | (simp [*]; done), by repeat (first | exact Drawn0.refl _ | apply Drawn0.step)⟩

/-! ### doubletakeref20_Alike: function 27 -/
def doubletakeref20_Alike.l0 : Nat → List (S36) → List (S36) → Int → Option (Bool)
  | 0, _, _, _ => none
  | k + 1, x0, x1, x5 => if x5 < (x0.length : Int) then (if 0 ≤ x5 then (if x5 < (x1.length : Int) then (if (!(((rd_T36 x0 x5).f1.f0) == ((rd_T36 x1 x5).f1.f0)) || (!(((rd_T36 x0 x5).f1.f1) == ((rd_T36 x1 x5).f1.f1)) || (!(((rd_T36 x0 x5).f1.f2) == ((rd_T36 x1 x5).f1.f2))))) = true then (some false) else (doubletakeref20_Alike.l0 k x0 x1 (wrap64 (x5 + 1)))) else (none)) else (none)) else (some true)
def doubletakeref20_Alike.f (k : Nat) (l0 : List (S36)) (l1 : List (S36)) : Option (Bool) := if (l0.length : Int) = (l1.length : Int) then (doubletakeref20_Alike.l0 k l0 l1 0) else (some false)
theorem doubletakeref20_Alike.mono_l : ∀ k, (∀ y0 y1 y2, LeO (doubletakeref20_Alike.l0 k y0 y1 y2) (doubletakeref20_Alike.l0 (k + 1) y0 y1 y2))
  | 0 => fun _ _ _ r h => by simp [doubletakeref20_Alike.l0] at h
  | k + 1 => by
    have ih0 := doubletakeref20_Alike.mono_l k
    · intro y0 y1 y2
      unfold doubletakeref20_Alike.l0
      repeat' first
      | (with_reducible exact ih0 _ _ _)
      | (with_reducible exact LeO.refl _)
      | (with_reducible exact LeO.none _)
      | (with_reducible refine LeO.ite ?_ ?_)
      | (with_reducible refine LeO.bind ?_ (fun _ => ?_))
      | exact ih0 _ _ _
      | exact LeO.none _
      | refine LeO.ite ?_ ?_
      | refine LeO.bind ?_ (fun _ => ?_)
theorem doubletakeref20_Alike.mono : ∀ a0 a1 k, LeO (doubletakeref20_Alike.f k a0 a1) (doubletakeref20_Alike.f (k + 1) a0 a1) := by
  intro a0 a1 k
  have ih0 := doubletakeref20_Alike.mono_l k
  unfold doubletakeref20_Alike.f
  repeat' first
      | (with_reducible exact ih0 _ _ _)
      | (with_reducible exact LeO.refl _)
      | (with_reducible exact LeO.none _)
      | (with_reducible refine LeO.ite ?_ ?_)
      | (with_reducible refine LeO.bind ?_ (fun _ => ?_))
      | exact ih0 _ _ _
      | exact LeO.none _
      | refine LeO.ite ?_ ?_
      | refine LeO.bind ?_ (fun _ => ?_)
set_option maxHeartbeats 8000000 in
set_option maxRecDepth 100000 in
theorem doubletakeref20_Alike.calls (k : Nat) (A0 : Option Addr) (c0 : Nat) (l0 : List (S36)) (A1 : Option Addr) (c1 : Nat) (l1 : List (S36)) (r : Bool) (w : World) (hr0 : Kd.C k36 w A0 l0.length l0) (hc0 : l0.length ≤ c0) (hr1 : Kd.C k36 w A1 l1.length l1) (hc1 : l1.length ≤ c1) (h : doubletakeref20_Alike.f k l0 l1 = some r) :
    Calls Try.prog 27 #[.slice A0 l0.length c0, .slice A1 l1.length c1] w fun e w' => e = .returned (.bool r) ∧ Drawn0 w w' := by
  have hu34 := Try.underlying34
  have HR0 := Aside0.mk hr0
  have HC0 := Aside0.mk hc0
  clear hr0 hc0
  have HR1 := Aside0.mk hr1
  have HC1 := Aside0.mk hc1
  clear hr1 hc1
  have H : (if (l0.length : Int) = (l1.length : Int) then (doubletakeref20_Alike.l0 k l0 l1 0) else (some false)) = some r := h
  clear h
  by_cases c3 : (l0.length : Int) = (l1.length : Int)
  · rw [if_pos c3] at H
    have c3b0 : ((l0.length : Int) == (l1.length : Int)) = true := beq_iff_eq.mpr c3
    have c3b1 : ((l0.length : Int) != (l1.length : Int)) = false := bne_eq_false_iff_eq.mpr c3
    have c3b2 : (l0.length == l1.length) = true := by first | simpa using c3 | (simp at c3 ⊢; omega)
    clear c3
    have H' := Aside0.mk H
    clear H
    go_enter Try.func27, Try.ntmps27
    go_wp2
    repeat (go_quiet (fail); try go_wp2)
    go_loopg [5] k (fun kq v5 w' => ∃ (x5_1 : Int), v5 = .int .i64 x5_1 ∧ Aside0 (doubletakeref20_Alike.l0 kq l0 l1 x5_1 = some r) ∧ Aside0 (kq ≤ k) ∧ Drawn0 w w')
    case atStart => exact ⟨(0), (by first | rfl | (simp; done) | (simp [*]; done)), H', ⟨Nat.le_refl _⟩, by repeat (first | exact Drawn0.refl _ | apply Drawn0.step)⟩
    case round =>
      clear H'
      try clear c1
      try clear c2
      try clear p2
      try clear c3
      try clear c3b0
      try clear c3b1
      try clear c3b2
      obtain ⟨x5_1, rfl, HA, HK1, ⟨m1, rfl⟩⟩ := hrel
      cases gk with
      | zero => exact absurd HA.out (by simp [doubletakeref20_Alike.l0])
      | succ k1 =>
        have H := HA.out
        clear HA
        simp only [doubletakeref20_Alike.l0] at H
        by_cases c4 : x5_1 < (l0.length : Int)
        · rw [if_pos c4] at H
          have c4b0 : decide (x5_1 < (l0.length : Int)) = true := decide_eq_true c4
          clear c4
          by_cases c5 : 0 ≤ x5_1
          · rw [if_pos c5] at H
            have c5b0 : decide (0 ≤ x5_1) = true := decide_eq_true c5
            clear c5
            by_cases c6 : x5_1 < (l1.length : Int)
            · rw [if_pos c6] at H
              have c6b0 : decide (x5_1 < (l1.length : Int)) = true := decide_eq_true c6
              clear c6
              by_cases c7 : (!(((rd_T36 l0 x5_1).f1.f0) == ((rd_T36 l1 x5_1).f1.f0)) || (!(((rd_T36 l0 x5_1).f1.f1) == ((rd_T36 l1 x5_1).f1.f1)) || (!(((rd_T36 l0 x5_1).f1.f2) == ((rd_T36 l1 x5_1).f1.f2))))) = true
              · rw [if_pos c7] at H
                have c7b0 : (!(((rd_T36 l0 x5_1).f1.f0) == ((rd_T36 l1 x5_1).f1.f0)) || (!(((rd_T36 l0 x5_1).f1.f1) == ((rd_T36 l1 x5_1).f1.f1)) || (!(((rd_T36 l0 x5_1).f1.f2) == ((rd_T36 l1 x5_1).f1.f2))))) = true := c7
                clear c7
                obtain rfl := Option.some.inj H
                have p125 : 0 ≤ (x5_1 : Int) := of_decide_eq_true (by first | (with_reducible assumption) | assumption)
                have q125 : x5_1 < (l0.length : Int) := of_decide_eq_true (by first | (with_reducible assumption) | assumption)
                obtain ⟨ad125, e125, hx125_0, hx125_1, hx125_2, hx125_3⟩ := at_T36 HR0.out x5_1 p125 q125
                cases e125
                replace p125 := eq_true p125
                replace q125 := eq_true q125
                have p126 : 0 ≤ (x5_1 : Int) := of_decide_eq_true (by first | (with_reducible assumption) | assumption)
                have q126 : x5_1 < (l1.length : Int) := of_decide_eq_true (by first | (with_reducible assumption) | assumption)
                obtain ⟨ad126, e126, hx126_0, hx126_1, hx126_2, hx126_3⟩ := at_T36 HR1.out x5_1 p126 q126
                cases e126
                replace p126 := eq_true p126
                replace q126 := eq_true q126
                go_wp2
                repeat (go_quiet (fail); try go_wp2)
                go_ret
                exact ⟨by first | rfl | (simp; done) | (simp [*]; done), by repeat (first | exact Drawn0.refl _ | apply Drawn0.step)⟩
              · rw [if_neg c7] at H
                have c7b0 : (!(((rd_T36 l0 x5_1).f1.f0) == ((rd_T36 l1 x5_1).f1.f0)) || (!(((rd_T36 l0 x5_1).f1.f1) == ((rd_T36 l1 x5_1).f1.f1)) || (!(((rd_T36 l0 x5_1).f1.f2) == ((rd_T36 l1 x5_1).f1.f2))))) = false := by simpa using c7
                clear c7
                have H' := Aside0.mk H
                clear H
                have p125 : 0 ≤ (x5_1 : Int) := of_decide_eq_true (by first | (with_reducible assumption) | assumption)
                have q125 : x5_1 < (l0.length : Int) := of_decide_eq_true (by first | (with_reducible assumption) | assumption)
                obtain ⟨ad125, e125, hx125_0, hx125_1, hx125_2, hx125_3⟩ := at_T36 HR0.out x5_1 p125 q125
                cases e125
                replace p125 := eq_true p125
                replace q125 := eq_true q125
                have p126 : 0 ≤ (x5_1 : Int) := of_decide_eq_true (by first | (with_reducible assumption) | assumption)
                have q126 : x5_1 < (l1.length : Int) := of_decide_eq_true (by first | (with_reducible assumption) | assumption)
                obtain ⟨ad126, e126, hx126_0, hx126_1, hx126_2, hx126_3⟩ := at_T36 HR1.out x5_1 p126 q126
                cases e126
                replace p126 := eq_true p126
                replace q126 := eq_true q126
                go_wp2
                repeat (go_quiet (fail); try go_wp2)
                go_roundg k1
                case measure => have := HK1.out; omega
                case rel => exact ⟨(wrap64 (x5_1 + 1)), (by first | rfl | (simp; done) | (simp [*]; done)), H', ⟨by have := HK1.out; omega⟩, by repeat (first | exact Drawn0.refl _ | apply Drawn0.step)⟩
            · rw [if_neg c6] at H
              exact absurd H (by simp)
          · rw [if_neg c5] at H
            exact absurd H (by simp)
        · rw [if_neg c4] at H
          have c4b0 : decide (x5_1 < (l0.length : Int)) = false := decide_eq_false c4
          clear c4
          obtain rfl := Option.some.inj H
          go_wp2
          repeat (go_quiet (fail); try go_wp2)
          go_ret
          exact ⟨by first | rfl | (simp; done) | (simp [*]; done), by repeat (first | exact Drawn0.refl _ | apply Drawn0.step)⟩
  · rw [if_neg c3] at H
    have c3b0 : ((l0.length : Int) == (l1.length : Int)) = false := beq_eq_false_iff_ne.mpr c3
    have c3b1 : ((l0.length : Int) != (l1.length : Int)) = true := bne_iff_ne.mpr c3
    have c3b2 : (l0.length == l1.length) = false := by first | simpa using c3 | (simp at c3 ⊢; omega)
    obtain rfl := Option.some.inj H
    go_enter Try.func27, Try.ntmps27
    go_wp2
    repeat (go_quiet (fail); try go_wp2)
    go_ret
    exact ⟨by first | rfl | (simp; done) | (simp [*]; done), by repeat (first | exact Drawn0.refl _ | apply Drawn0.step)⟩


end Go.Proofs.Ytodidkjajkjlaaa.PGuessTells
