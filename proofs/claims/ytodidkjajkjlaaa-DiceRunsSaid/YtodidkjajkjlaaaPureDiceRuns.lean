/- For every two states and list of numbers a run of rolls stays below its numbers and is the same run again, and a step is one to one. -/
import Derived.Test.YtodidkjajkjlaaaPDiceRunsx1
import Derived.KernelRfl
namespace Go.Proofs.Ytodidkjajkjlaaa.Pure
open Go.RowKit Go.Proofs.Ytodidkjajkjlaaa.PDiceRuns Go.Proofs.YtodidkjajkjlaaaW.PrintWords Go.Proofs.YtodidkjajkjlaaaW.PrintLast

theorem known_true : doubletakelaw10_known.f = some true := by kernel_rfl

theorem pick_some (a m : Int) (ha : 0 < m) (hm : m ≤ 4294967296) : ∃ r, doubletakehand_Pick.f a m = some r ∧ 0 ≤ r ∧ r < m := by
  unfold doubletakehand_Pick.f
  rw [if_neg (by omega)]
  have h1 := Int.lt_tmod_of_pos a ha
  have h2 := Int.tmod_lt_of_pos a ha
  by_cases h : Int.tmod a m < 0
  · rw [if_pos h]; exact ⟨_, rfl, by unfold wrap64; omega, by unfold wrap64; omega⟩
  · rw [if_neg h]; exact ⟨_, rfl, by omega, by omega⟩

theorem next_some (s : Int) : ∃ x k, dice_Next.f s = some (x, k) ∧ 0 ≤ x ∧ x < 18446744073709551616 ∧ 0 ≤ k ∧ k < 2147483648 ∧
    x = (s * 6364136223846793005 + 1442695040888963407) % 18446744073709551616 := by
  have u (n : Int) : IntKind.u64.wrap n = n % 18446744073709551616 := rfl
  have e : IntKind.u64.wrap ((IntKind.u64.wrap (s * 6364136223846793005)) + 1442695040888963407) = (s * 6364136223846793005 + 1442695040888963407) % 18446744073709551616 := by
    rw [u, u, Int.emod_add_emod]
  obtain ⟨m, hm⟩ : ∃ m, (s * 6364136223846793005 + 1442695040888963407) % 18446744073709551616 = m := ⟨_, rfl⟩
  have h0 : 0 ≤ m := by rw [← hm]; exact Int.emod_nonneg _ (by decide)
  have h1 : m < 18446744073709551616 := by rw [← hm]; exact Int.emod_lt_of_pos _ (by decide)
  rw [hm] at e
  have hw : wrap64 (m / 8589934592) = m / 8589934592 := by unfold wrap64; omega
  refine ⟨m, m / 8589934592, ?_, h0, h1, by omega, by omega, hm.symm⟩
  unfold dice_Next.f
  rw [e, hw]

theorem roll_some (s n : Int) (hn : 1 ≤ n) : ∃ x k, dice_Next.f s = some (x, k) ∧ dice_Roll.f s n = some (x, Int.tmod k n) ∧ 0 ≤ Int.tmod k n ∧ Int.tmod k n < n := by
  obtain ⟨x, k, h, _, _, h0, _⟩ := next_some s
  refine ⟨x, k, h, ?_, Int.tmod_nonneg _ h0, Int.tmod_lt_of_pos _ (by omega)⟩
  unfold dice_Roll.f
  rw [if_neg (by omega), h]
  simp only [Option.bind_some]
  rw [if_neg (by omega)]

theorem inj_any (M C N V s t : Int) (e : M * V % N = 1) (h0 : 0 ≤ s) (h1 : s < N) (g0 : 0 ≤ t) (g1 : t < N) (h : (s * M + C) % N = (t * M + C) % N) : s = t := by
  have e1 : (s - t) * M = (s * M + C) - (t * M + C) := by rw [Int.sub_mul]; omega
  have d : ((s - t) * M) % N = 0 := by rw [e1, Int.sub_emod, h, Int.sub_self, Int.zero_emod]
  have d2 : ((s - t) * M * V) % N = 0 := by rw [Int.mul_emod, d, Int.zero_mul, Int.zero_emod]
  rw [Int.mul_assoc, Int.mul_emod, e, Int.mul_one, Int.emod_emod] at d2
  have h3 := Int.emod_eq_emod_iff_emod_sub_eq_zero.mpr d2
  rw [Int.emod_eq_of_lt h0 h1, Int.emod_eq_of_lt g0 g1] at h3
  exact h3

theorem inj (s t : Int) (h0 : 0 ≤ s) (h1 : s < 18446744073709551616) (g0 : 0 ≤ t) (g1 : t < 18446744073709551616)
    (h : (s * 6364136223846793005 + 1442695040888963407) % 18446744073709551616 = (t * 6364136223846793005 + 1442695040888963407) % 18446744073709551616) : s = t :=
  inj_any 6364136223846793005 1442695040888963407 18446744073709551616 13877824140714322085 s t (by decide) h0 h1 g0 g1 h

theorem last (s t : Int) (h0 : 0 ≤ s) (h1 : s < 18446744073709551616) (g0 : 0 ≤ t) (g1 : t < 18446744073709551616) :
    ((dice_Next.f s).bind fun bt112 => ((dice_Next.f t).bind fun bt114 => ((doubletakelaw10_known.f).bind fun t116 => (if t116 = true then (if ((bt112.1 == bt114.1) == (s == t)) = true then ((dice_Seed.f (wrap64 (s / 2))).bind fun t117 => (some ((Int.tmod t117 2) == 1))) else (some false)) else (some false))))) = some true := by
  obtain ⟨x, k, hx, _, _, _, _, ex⟩ := next_some s
  obtain ⟨y, j, hy, _, _, _, _, ey⟩ := next_some t
  rw [hx, hy, known_true]
  simp only [Option.bind_some]
  have he : ((x == y) == (s == t)) = true := by
    by_cases hst : s = t
    · subst hst
      have : x = y := by rw [ex, ey]
      simp [this]
    · have hxy : x ≠ y := fun hxy => hst (inj s t h0 h1 g0 g1 (by rw [← ex, ← ey]; exact hxy))
      rw [beq_eq_false_iff_ne.mpr hxy, beq_eq_false_iff_ne.mpr hst]; rfl
  rw [if_pos True.intro, if_pos he]
  unfold dice_Seed.f
  simp only [Option.bind_some, Option.some.injEq, beq_iff_eq]
  simp only [IntKind.wrap]
  simp [IntKind.bits, IntKind.signed]
  rw [Int.tmod_eq_emod_of_nonneg (by omega)]
  omega

theorem runs (a0 a1 : Int) (l : List Int) (h0 : 0 ≤ a0) (h1 : a0 < 18446744073709551616) (g0 : 0 ≤ a1) (g1 : a1 < 18446744073709551616) (d : Nat) :
    ∀ (s i : Int) (k : Nat), 0 ≤ i → 40 - i ≤ d → i ≤ 40 → 2 * d + 4 < k → doubletakelaw10_DiceRuns.l0 k a0 a1 l s s i = some true := by
  induction d with
  | zero =>
    intro s i k hi hd h40 hk
    obtain ⟨k, rfl⟩ : ∃ m, k = m + 2 := ⟨k - 2, by omega⟩
    have e : doubletakelaw10_DiceRuns.j1 (k + 1) a0 a1 l s s i false = some true := by
      simp only [doubletakelaw10_DiceRuns.j1]
      rw [if_neg (by simp)]
      exact last a0 a1 h0 h1 g0 g1
    simp only [doubletakelaw10_DiceRuns.l0]
    have hd40 : decide (i < 40) = false := by simp; omega
    split
    · rw [hd40]; exact e
    · exact e
  | succ d ih =>
    intro s i k hi hd h40 hk
    obtain ⟨k, rfl⟩ : ∃ m, k = m + 2 := ⟨k - 2, by omega⟩
    have e : doubletakelaw10_DiceRuns.j1 (k + 1) a0 a1 l s s i false = some true := by
      simp only [doubletakelaw10_DiceRuns.j1]
      rw [if_neg (by simp)]
      exact last a0 a1 h0 h1 g0 g1
    simp only [doubletakelaw10_DiceRuns.l0]
    by_cases hlt : i < (l.length : Int)
    · rw [if_pos hlt]
      by_cases h4 : i < 40
      · rw [decide_eq_true h4]
        simp only [doubletakelaw10_DiceRuns.j1]
        rw [if_pos True.intro, if_pos hi, if_pos hlt]
        obtain ⟨n, hn, hn0, hn1⟩ := pick_some (rd l i) 1000 (by omega) (by omega)
        have en : wrap64 (1 + n) = 1 + n := by unfold wrap64; omega
        obtain ⟨x, j, _, hr, hr0, hr1⟩ := roll_some s (1 + n) (by omega)
        rw [hn]
        simp only [Option.bind_some, en, hr]
        rw [if_neg (by omega), if_neg (by omega), if_pos True.intro, if_pos True.intro]
        have ei : wrap64 (i + 1) = i + 1 := by unfold wrap64; omega
        rw [ei]
        exact ih x (i + 1) k (by omega) (by omega) (by omega) (by omega)
      · rw [decide_eq_false h4]; exact e
    · rw [if_neg hlt]; exact e

theorem DiceRuns : doubletakelaw10_DiceRuns.Pure := by
  intro a0 a1 l h0 h1 _ _ _
  have cb0 : 0 ≤ a0 ∧ a0 ≤ 18446744073709551615 := by simpa [Lit.wf, IntKind.bits, IntKind.signed, IntKind.min, IntKind.max] using h0
  have b0 : 0 ≤ a0 ∧ a0 < 18446744073709551616 := ⟨cb0.1, by have := cb0.2; omega⟩
  have cb1 : 0 ≤ a1 ∧ a1 ≤ 18446744073709551615 := by simpa [Lit.wf, IntKind.bits, IntKind.signed, IntKind.min, IntKind.max] using h1
  have b1 : 0 ≤ a1 ∧ a1 < 18446744073709551616 := ⟨cb1.1, by have := cb1.2; omega⟩
  refine ⟨2 * 40 + 10, ?_⟩
  unfold doubletakelaw10_DiceRuns.f
  exact runs a0 a1 l b0.1 b0.2 b1.1 b1.2 40 a0 0 (2 * 40 + 10) (by omega) (by omega) (by omega) (by omega)

end Go.Proofs.Ytodidkjajkjlaaa.Pure
