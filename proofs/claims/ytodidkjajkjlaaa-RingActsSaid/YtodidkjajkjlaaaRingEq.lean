/- Two states of the same cells are equal (plain lemmas on the comparison of structs and arrays). -/
import Derived.Test.YtodidkjajkjlaaaRingKnL
namespace Go.Proofs.Ytodidkjajkjlaaa.RingRep
open Go.RowKit Go.Proofs.YtodidkjajkjlaaaW.PrintWords Go.Proofs.YtodidkjajkjlaaaW.PrintLast
set_option linter.unusedVariables false
set_option linter.unusedSimpArgs false

section
variable {P : Program}

theorem run_sizeOf_of {t : TypeId} {n : Nat} (h : (P.info? t).map (·.size) = some n) (w : World) : (sizeOf t).run P w = .ok n w := by
  cases hq : P.info? t with
  | none => simp [hq] at h
  | some i => simp [hq] at h; simp [sizeOf, typeInfo, hq, h]

theorem loop_self (w : World) (d e sz : Nat) (xs : Array Value) : ∀ (l : List Nat), (∀ i ∈ l, ∃ v, (part e xs (i * sz)).run P w = .ok v w ∧ (Op.equalIn d e v v).run P w = .ok true w) →
    (forIn l ((none : Option Bool), ()) (fun i _ => do
      let a ← part e xs (i * sz)
      let b ← part e xs (i * sz)
      let c ← Op.equalIn d e a b
      if (!c) = true then pure (ForInStep.done (some false, ())) else
        pure (ForInStep.yield (none, ()))) : Sem (Option Bool × Unit)).run P w = .ok (none, ()) w := by
  intro l
  induction l with
  | nil => intro _; simp
  | cons i l ih =>
    intro h
    obtain ⟨v, hv, he⟩ := h i (by simp)
    simp only [List.forIn_cons, Sem.run_bind, hv, he, Result.andThen_ok, Bool.not_true, Bool.false_eq_true, if_false, Sem.run_pure]
    exact ih fun j hj => h j (by simp [hj])

theorem array_self {w : World} {d t e n sz : Nat} {xs : Array Value} (ht : P.underlying t = some (.array n e)) (hs : (P.info? e).map (·.size) = some sz)
    (h : ∀ i, i < n → ∃ v, (part e xs (i * sz)).run P w = .ok v w ∧ (Op.equalIn d e v v).run P w = .ok true w) : (Op.equalIn (d + 1) t (.agg xs) (.agg xs)).run P w = .ok true w := by
  have key := loop_self (P := P) w d e sz xs (List.range' 0 n) (fun i hi => h i (by simpa using hi))
  simp only [Op.equalIn, Sem.run_bind, run_underlying ht, Result.andThen_ok, run_sizeOf_of hs]
  simp only [Std.Legacy.Range.forIn_eq_forIn_range', Std.Legacy.Range.size, Nat.sub_zero, Nat.add_sub_cancel, Nat.div_one]
  rw [key]
  simp

theorem int_self {w : World} {d t : Nat} {k k' : IntKind} {m : Int} (ht : P.underlying t = some (.int k')) : (Op.equalIn (d + 1) t (.int k m) (.int k m)).run P w = .ok true w := by
  rw [run_equalIn_int w d t k k' m m ht]; simp

theorem part_int {w : World} {t off : Nat} {k k' : IntKind} {m : Int} {xs : Array Value} (ht : P.underlying t = some (.int k')) (h : xs[off]? = some (.int k m)) : (part t xs off).run P w = .ok (.int k m) w := by
  have ha : (isAgg t).run P w = .ok false w := by unfold isAgg; rw [Sem.run_bind, run_underlying ht w]; rfl
  simp [part, Sem.run_bind, ha, h]
theorem part_agg {w : World} {t off n : Nat} {xs : Array Value} {d : TypeDesc} (ht : P.underlying t = some d) (hd : d.isRow = true) (hs : (P.info? t).map (·.size) = some n) : (part t xs off).run P w = .ok (.agg (xs.extract off (off + n))) w := by
  have ha : (isAgg t).run P w = .ok true w := by
    unfold isAgg
    rw [Sem.run_bind, run_underlying ht w]
    cases d <;> simp_all
  simp [part, Sem.run_bind, ha, run_sizeOf_of hs]
end

/-- All cells are whole numbers. -/
def ints (xs : Array Value) : Prop := ∀ i, i < xs.size → ∃ k m, xs[i]? = some (.int k m)
theorem ints.part {xs : Array Value} (h : ints xs) (a b : Nat) (hb : b ≤ xs.size) : ints (xs.extract a b) := fun i hi => by
  have hi' : a + i < b := by simp at hi; omega
  obtain ⟨k, m, e⟩ := h (a + i) (by omega)
  exact ⟨k, m, by rw [Array.getElem?_extract]; rw [if_pos (by omega)]; exact e⟩

theorem ints_self (w : World) (d n t : Nat) (xs : Array Value) (ht : Try.prog.underlying t = some (.array n 3)) (hx : ints xs) (hs : xs.size = n) : (Op.equalIn (d + 2) t (.agg xs) (.agg xs)).run Try.prog w = .ok true w :=
  array_self ht (sz := 1) (by kernel_rfl) fun i hi => by
    obtain ⟨k, m, e⟩ := hx i (by omega)
    exact ⟨_, part_int Try.underlying3 (by rw [Nat.mul_one]; exact e), int_self Try.underlying3⟩

theorem body_self (w : World) (d : Nat) (xs : Array Value) (hx : ints xs) (hs : xs.size = 12) : (Op.equalIn (d + 3) 47 (.agg xs) (.agg xs)).run Try.prog w = .ok true w := by
  have one : ∀ off, off < 12 → ∃ v, (part 3 xs off).run Try.prog w = .ok v w ∧ (Op.equalIn (d + 2) 3 v v).run Try.prog w = .ok true w := fun off h => by
    obtain ⟨k, m, e⟩ := hx off (by omega)
    exact ⟨_, part_int Try.underlying3 e, int_self Try.underlying3⟩
  obtain ⟨v0, p0, e0⟩ := one 0 (by omega)
  obtain ⟨v1, p1, e1⟩ := one 1 (by omega)
  obtain ⟨v2, p2, e2⟩ := one 2 (by omega)
  obtain ⟨v3, p3, e3⟩ := one 3 (by omega)
  obtain ⟨v4, p4, e4⟩ := one 4 (by omega)
  obtain ⟨v5, p5, e5⟩ := one 5 (by omega)
  obtain ⟨v6, p6, e6⟩ := one 6 (by omega)
  obtain ⟨v11, p11, e11⟩ := one 11 (by omega)
  have pm := part_agg (w := w) (off := 7) (xs := xs) (n := 4) Try.underlying45 rfl (by kernel_rfl)
  have em := ints_self w d 4 45 (xs.extract 7 11) Try.underlying45 (hx.part 7 11 (by omega)) (by simp; omega)
  refine eqA_of Try.underlying47 (by kernel_rfl) ?_
  refine eqf_cons (r := true) (s := true) (by rfl) p0 p0 e0 ?_
  refine eqf_cons (r := true) (s := true) (by rfl) p1 p1 e1 ?_
  refine eqf_cons (r := true) (s := true) (by rfl) p2 p2 e2 ?_
  refine eqf_cons (r := true) (s := true) (by rfl) p3 p3 e3 ?_
  refine eqf_cons (r := true) (s := true) (by rfl) p4 p4 e4 ?_
  refine eqf_cons (r := true) (s := true) (by rfl) p5 p5 e5 ?_
  refine eqf_cons (r := true) (s := true) (by rfl) p6 p6 e6 ?_
  refine eqf_cons (r := true) (s := true) (by rfl) pm pm em ?_
  exact eqf_last (by rfl) p11 p11 e11

theorem state_self (w : World) (d : Nat) (xs : Array Value) (hx : ints xs) (hs : xs.size = 202) : (Op.equalIn (d + 5) 51 (.agg xs) (.agg xs)).run Try.prog w = .ok true w := by
  obtain ⟨k0, m0, e0⟩ := hx 0 (by omega)
  obtain ⟨k1, m1, e1⟩ := hx 1 (by omega)
  have p0 := part_int (P := Try.prog) (w := w) Try.underlying3 e0
  have p1 := part_int (P := Try.prog) (w := w) Try.underlying22 e1
  have s0 := int_self (P := Try.prog) (w := w) (d := d + 3) (t := 3) (k := k0) (m := m0) Try.underlying3
  have s1 := int_self (P := Try.prog) (w := w) (d := d + 3) (t := 22) (k := k1) (m := m1) Try.underlying22
  have pb := part_agg (P := Try.prog) (w := w) (off := 2) (xs := xs) (n := 192) Try.underlying48 rfl (by kernel_rfl)
  have ps := part_agg (P := Try.prog) (w := w) (off := 194) (xs := xs) (n := 8) Try.underlying49 rfl (by kernel_rfl)
  have es := ints_self w (d + 2) 8 49 (xs.extract 194 202) Try.underlying49 (hx.part 194 202 (by omega)) (by simp; omega)
  have hsz : (xs.extract 2 194).size = 192 := by simp; omega
  have eb : (Op.equalIn (d + 4) 48 (.agg (xs.extract 2 194)) (.agg (xs.extract 2 194))).run Try.prog w = .ok true w := by
    refine array_self Try.underlying48 (sz := 12) (by kernel_rfl) fun i hi => ?_
    refine ⟨_, part_agg (n := 12) Try.underlying47 rfl (by kernel_rfl), body_self w d _ ?_ ?_⟩
    · exact (hx.part 2 194 (by omega)).part _ _ (by omega)
    · simp; omega
  refine eqA_of Try.underlying51 (by kernel_rfl) ?_
  refine eqf_cons (r := true) (s := true) (by rfl) p0 p0 s0 ?_
  refine eqf_cons (r := true) (s := true) (by rfl) p1 p1 s1 ?_
  refine eqf_cons (r := true) (s := true) (by rfl) pb pb eb ?_
  exact eqf_last (by rfl) ps ps es

theorem okS.ints {s : List Value} (h : okS s) : ints s.toArray := fun i hi => by
  have hl : i < s.length := by simpa using hi
  obtain ⟨k, m, e⟩ := h.2 s[i] (List.getElem_mem hl)
  exact ⟨k, m, by rw [List.getElem?_toArray, List.getElem?_eq_getElem hl, e]⟩

/-- Two states of the same cells: '!=' says no. -/
theorem run_neq_self (s : List Value) (h : okS s) (w : World) : (binOp .neq 51 (.agg s.toArray) (.agg s.toArray)).run Try.prog w = .ok (.bool false) w := by
  rw [run_neq_struct, state_self w 9995 s.toArray h.ints (by rw [List.size_toArray]; exact h.1)]
  rfl
end Go.Proofs.Ytodidkjajkjlaaa.RingRep
