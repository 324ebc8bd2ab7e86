/- For every state and two numbers a roll is the next number modulo its own, and leaves the same state. -/
import Derived.Test.YtodidkjajkjlaaaPDiceRollsx1
import Derived.KernelRfl
namespace Go.Proofs.Ytodidkjajkjlaaa.Pure
open Go.RowKit Go.Proofs.Ytodidkjajkjlaaa.PDiceRolls Go.Proofs.YtodidkjajkjlaaaW.PrintWords Go.Proofs.YtodidkjajkjlaaaW.PrintLast

theorem known_true : doubletakelaw10_known.f = some true := by kernel_rfl

theorem pick_some (a m : Int) (ha : 0 < m) (hm : m ≤ 4294967296) : ∃ r, doubletakehand_Pick.f a m = some r ∧ 0 ≤ r ∧ r < m := by
  unfold doubletakehand_Pick.f
  rw [if_neg (by omega)]
  have h1 := Int.lt_tmod_of_pos a ha
  have h2 := Int.tmod_lt_of_pos a ha
  by_cases h : Int.tmod a m < 0
  · rw [if_pos h]; exact ⟨_, rfl, by unfold wrap64; omega, by unfold wrap64; omega⟩
  · rw [if_neg h]; exact ⟨_, rfl, by omega, by omega⟩

theorem next_some (s : Int) : ∃ x k, dice_Next.f s = some (x, k) ∧ 0 ≤ x ∧ x < 18446744073709551616 ∧ 0 ≤ k ∧ k < 2147483648 ∧
    x = (s * 6364136223846793005 + 1442695040888963407) % 18446744073709551616 := by
  have u (n : Int) : IntKind.u64.wrap n = n % 18446744073709551616 := rfl
  have e : IntKind.u64.wrap ((IntKind.u64.wrap (s * 6364136223846793005)) + 1442695040888963407) = (s * 6364136223846793005 + 1442695040888963407) % 18446744073709551616 := by
    rw [u, u, Int.emod_add_emod]
  obtain ⟨m, hm⟩ : ∃ m, (s * 6364136223846793005 + 1442695040888963407) % 18446744073709551616 = m := ⟨_, rfl⟩
  have h0 : 0 ≤ m := by rw [← hm]; exact Int.emod_nonneg _ (by decide)
  have h1 : m < 18446744073709551616 := by rw [← hm]; exact Int.emod_lt_of_pos _ (by decide)
  rw [hm] at e
  have hw : wrap64 (m / 8589934592) = m / 8589934592 := by unfold wrap64; omega
  refine ⟨m, m / 8589934592, ?_, h0, h1, by omega, by omega, hm.symm⟩
  unfold dice_Next.f
  rw [e, hw]

theorem roll_some (s n : Int) (hn : 1 ≤ n) : ∃ x k, dice_Next.f s = some (x, k) ∧ dice_Roll.f s n = some (x, Int.tmod k n) ∧ 0 ≤ Int.tmod k n ∧ Int.tmod k n < n := by
  obtain ⟨x, k, h, _, _, h0, _⟩ := next_some s
  refine ⟨x, k, h, ?_, Int.tmod_nonneg _ h0, Int.tmod_lt_of_pos _ (by omega)⟩
  unfold dice_Roll.f
  rw [if_neg (by omega), h]
  simp only [Option.bind_some]
  rw [if_neg (by omega)]

theorem DiceRolls : doubletakelaw10_DiceRolls.Pure := by
  intro a0 a1 a2 _ _ _
  obtain ⟨n, hn, hn0, hn1⟩ := pick_some a1 2147483648 (by omega) (by omega)
  obtain ⟨m, hm, hm0, hm1⟩ := pick_some a2 2147483648 (by omega) (by omega)
  have en : wrap64 (1 + n) = 1 + n := by unfold wrap64; omega
  have em : wrap64 (1 + m) = 1 + m := by unfold wrap64; omega
  obtain ⟨x, k, h, _, _, hk0, hk1, _⟩ := next_some a0
  obtain ⟨x1, k1, h1, r1, _, _⟩ := roll_some a0 (1 + n) (by omega)
  obtain ⟨x2, k2, h2, r2, _, _⟩ := roll_some a0 (1 + m) (by omega)
  rw [h] at h1 h2
  cases h1
  cases h2
  unfold doubletakelaw10_DiceRolls.f
  rw [hn, hm]
  simp only [Option.bind_some, en, em, h, r1, r2, known_true]
  have a1 : ¬ (1 + n = 0) := by omega
  have a2 : ¬ (1 + m = 0) := by omega
  simp [a1, a2, hk0, hk1]

end Go.Proofs.Ytodidkjajkjlaaa.Pure
