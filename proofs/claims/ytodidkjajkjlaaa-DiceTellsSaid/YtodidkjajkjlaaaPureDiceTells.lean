/- For every state, number and seed the next state and number, the roll and the seed are as the reference says. -/
import Derived.Test.YtodidkjajkjlaaaPDiceTellsx1
import Derived.KernelRfl
namespace Go.Proofs.Ytodidkjajkjlaaa.Pure
open Go.RowKit Go.Proofs.Ytodidkjajkjlaaa.PDiceTells Go.Proofs.YtodidkjajkjlaaaW.PrintWords Go.Proofs.YtodidkjajkjlaaaW.PrintLast

theorem known_true : doubletakelaw10_known.f = some true := by kernel_rfl

theorem DiceTells : doubletakelaw10_DiceTells.Pure := by
  intro a0 a1 a2 _ _ _
  unfold doubletakelaw10_DiceTells.f
  have e1 : doubletakeref1_Next.f = dice_Next.f := rfl
  have e2 : doubletakeref1_Roll.f = dice_Roll.f := rfl
  have e3 : doubletakeref1_Seed.f = dice_Seed.f := rfl
  rw [e1, e2, e3]
  have h1 : ∃ p, dice_Next.f a0 = some p := ⟨_, rfl⟩
  have h2 : ∃ p, dice_Roll.f a0 a1 = some p := by
    unfold dice_Roll.f
    split
    · exact ⟨_, rfl⟩
    · obtain ⟨p, hp⟩ := h1
      rw [hp]; simp only [Option.bind_some]; rw [if_neg (by omega)]; exact ⟨_, rfl⟩
  have h3 : ∃ p, dice_Seed.f a2 = some p := ⟨_, rfl⟩
  obtain ⟨p, hp⟩ := h1
  obtain ⟨q, hq⟩ := h2
  obtain ⟨r, hr⟩ := h3
  rw [hp, hq, hr, known_true]
  simp

end Go.Proofs.Ytodidkjajkjlaaa.Pure
