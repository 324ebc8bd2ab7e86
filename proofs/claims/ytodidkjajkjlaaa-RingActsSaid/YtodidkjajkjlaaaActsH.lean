/- RingActs: what its walk leans on (plain lemmas, and arms for whole states). -/
import Derived.Test.YtodidkjajkjlaaaActsPure
import Derived.Test.YtodidkjajkjlaaaBuild
import Derived.Deep.DeepCutAuto
import Derived.Deep.CutBlock
namespace Go.Proofs.Ytodidkjajkjlaaa.RingRep
open Go.RowKit Go.Proofs.YtodidkjajkjlaaaW.PrintWords Go.Proofs.YtodidkjajkjlaaaW.PrintLast Go.Proofs.YtodidkjajkjlaaaW.PrintMore
open Go.Proofs.Ytodidkjajkjlaaa.PGuessTells
open Go.Proofs.Ytodidkjajkjlaaa.Alike (pick_some pick_calls)
attribute [local go_sem] max2_int min2_int
set_option linter.unusedVariables false
set_option linter.unusedSimpArgs false

/-- Where a run of acts stands: the ring, the list that it should be, and the slice that has it. -/
structure Inv (w0 w : World) (g : Nat) (v : Value) (S : List (List Value)) (f low : Int) (ns : List Int) (T : Int) : Prop where
  ring : RingAt w g S f ns.length
  fits : Fits S f low ns
  have_ : HaveAt w w0.heap.size v (rows low ns)
  below : Below w0.heap.size w0 w
  g0 : w0.heap.size ≤ g
  bd : low + ns.length ≤ T
  f1 : f ≤ T

section
variable {w0 w w' : World} {g : Nat} {v : Value} {S : List (List Value)} {f low T : Int} {ns : List Int}
theorem Inv.step (h : Inv w0 w g v S f low ns T) (hb : Below w.heap.size w w') : Inv w0 w' g v S f low ns T :=
  ⟨h.ring.below hb h.ring.lt, h.fits, h.have_.below hb, h.below.trans (hb.mono h.below.size), h.g0, h.bd, h.f1⟩
theorem Inv.only (h : Inv w0 w g v S f low ns T) (hr : RingAt w' g S f ns.length) (hb : Only g w w') : Inv w0 w' g v S f low ns T :=
  ⟨hr, h.fits, h.have_.only h.ring hb, h.below.trans (hb.below h.g0 h.below.size), h.g0, h.bd, h.f1⟩
theorem Inv.len17 (h : Inv w0 w g v S f low ns T) : ns.length ≤ 17 := h.fits.len
theorem Inv.slice (h : Inv w0 w g v S f low ns T) : ∃ A c, v = .slice A ns.length c ∧ ns.length ≤ c := by
  have := h.have_.slice
  rwa [rows_len] at this
end

/-- The newest frame, and the oldest, as the law reckons them. -/
def newestOf (low : Int) (ns : List Int) : Int := if ns.length = 0 then -1 else low + ns.length - 1
def lowOf (low : Int) (ns : List Int) : Int := if ns.length = 0 then 0 else low

/-- The cells of a state in the slice. -/
theorem HaveAt.cell {w : World} {B : Nat} {A : Option Addr} {c : Nat} {low : Int} {ns : List Int} (h : HaveAt w B (.slice A ns.length c) (rows low ns)) (i : Nat) (hi : i < ns.length) :
    ∃ b o, A = some ⟨b, o * 202, none⟩ ∧ w.cell? ⟨b, (o + i) * 202, none⟩ = some (.int .i64 (low + i)) ∧ w.rangeAt b ((o + i) * 202) (atS (low + i) (ns.getD i 0)) := by
  have hg := rows_get low ns i hi
  rcases h.2 with ⟨hv, hx⟩ | ⟨b, o, c', C, hv, h3, h4, h5, h6, h7, h8⟩
  · rw [hx] at hg; cases hg
  · injection hv with e1 e2 e3
    subst e1
    have hr : w.rangeAt b ((o + i) * 202) (atS (low + i) (ns.getD i 0)) := fun j u hj => by
      rw [cell_of_row w b _ _ 51 (0, 0) h6]
      have hjl : j < 202 := by
        have := (List.getElem?_eq_some_iff.1 hj).1
        rw [(atS_ok _ _).1] at this; exact this
      have := h8 (i * 202 + j) u (by
        rw [flat_get h.1 i j (by rw [rows_len]; exact hi) hjl, List.getD, hg]
        exact hj)
      rw [List.getElem?_toArray, ← this]
      congr 1
      omega
    exact ⟨b, o, rfl, hr 0 _ rfl, hr⟩

theorem ptr_add (b o k : Nat) : (⟨b, o * 202, none⟩ : Addr).add (k * 202) = ⟨b, (o + k) * 202, none⟩ := by
  rw [Addr.add_mid, Nat.add_mul]

theorem HaveAt.at_ {w : World} {B b o c : Nat} {low : Int} {ns : List Int} {n : Nat} (h : HaveAt w B (.slice (some ⟨b, o * 202, none⟩) n c) (rows low ns)) (i : Nat) (hi : i < ns.length) :
    w.cell? ⟨b, o * 202 + i * 202, none⟩ = some (.int .i64 (low + i)) ∧ w.rangeAt b (o * 202 + i * 202) (atS (low + i) (ns.getD i 0)) := by
  have hn : n = ns.length := by
    obtain ⟨A, c', hv, _⟩ := h.slice
    injection hv with _ h2 _
    rw [rows_len] at h2; exact h2
  subst hn
  obtain ⟨b', o', hA, h1, h2⟩ := h.cell i hi
  injection hA with hA
  injection hA with e1 e2
  subst e1
  have : o' = o := by omega
  subst this
  rw [Nat.add_mul] at h1 h2
  exact ⟨h1, h2⟩

theorem rangeAt_below {w w' : World} {b o : Nat} {cs : List Value} (h : w.rangeAt b o cs) (hb : Below w.heap.size w w') : w'.rangeAt b o cs := fun j v hv => by
  have h1 := h j v hv
  exact (hb.cell (World.block_lt_of_cell? w _ h1)).trans h1
theorem rangeAt_box {w : World} {b : Nat} {s : List Value} (h : w.heap[b]? = some (.cells s.toArray 51 (0, 0))) : w.rangeAt b 0 s := fun j v hv => by
  rw [cell_of_row w b (0 + j) _ 51 (0, 0) h]
  simpa using hv

section
variable {ops : Array Oper} {Q : Act → Prop} {a : Act} {o : Oper} {rest : List Oper} {w : World}
theorem wpQuiet_load51 (hw : Region.wanted o (yielded ops a.tmps) = true) (x : Operand) (ho : o.op = .load 51 x) (b off : Nat) (hx : a.eval x = .pointer (some ⟨b, off, none⟩)) (s : List Value) (hs : okS s) (hr : w.rangeAt b off s)
    (h : wpQuiet Try.prog ops (fun w' => ∃ n, w' = w.drewN n) Q rest (a.put o.dst (.agg s.toArray))) : wpQuiet Try.prog ops (fun w' => ∃ n, w' = w.drewN n) Q (o :: rest) a := by
  refine BigFrame.wpQuiet_want hw fun K hK => ⟨_, fun w' hw' => ?_, hK _ h⟩
  obtain ⟨n, rfl⟩ := hw'
  have hl := run_loadVar_mid (P := Try.prog) (w.drewN n) b off 51 s _ (rangeAt_below hr (below_drewN (Below.refl _ _) n)) Try.underlying51 rfl (by rw [hs.1]; kernel_rfl)
  unfold Oper.quietAt execOp
  simp only [ho, hx, Instr.loadAt, Instr.sureAddr, Sem.run_bind, Sem.run_pure, Result.andThen_ok, hl]
  exact ⟨rfl, rfl⟩
theorem wpQuiet_build51 (hw : Region.wanted o (yielded ops a.tmps) = true) (ho : o.op = .build 51 #[])
    (h : wpQuiet Try.prog ops (fun w' => ∃ n, w' = w.drewN n) Q rest (a.put o.dst (.agg (atS 0 0).toArray))) : wpQuiet Try.prog ops (fun w' => ∃ n, w' = w.drewN n) Q (o :: rest) a := by
  refine BigFrame.wpQuiet_want hw fun K hK => ⟨_, fun w' _ => ?_, hK _ h⟩
  have hb := run_build (P := Try.prog) w' 51 #[] (atS 0 0).toArray built51z
  unfold Oper.quietAt execOp
  simp only [ho, Sem.run_bind, Sem.run_pure, Array.map_empty, List.map_toArray, List.map_nil, hb, Result.andThen_ok]
  exact ⟨rfl, rfl⟩
theorem wpQuiet_neq51 (hw : Region.wanted o (yielded ops a.tmps) = true) (x y : Operand) (ho : o.op = .binOp .neq 51 x y 51) (s : List Value) (hx : a.eval x = .agg s.toArray) (hy : a.eval y = .agg s.toArray) (hs : okS s)
    (h : wpQuiet Try.prog ops (fun w' => ∃ n, w' = w.drewN n) Q rest (a.put o.dst (.bool false))) : wpQuiet Try.prog ops (fun w' => ∃ n, w' = w.drewN n) Q (o :: rest) a := by
  refine BigFrame.wpQuiet_want hw fun K hK => ⟨_, fun w' _ => ?_, hK _ h⟩
  unfold Oper.quietAt execOp
  simp only [ho, hx, hy, Sem.run_bind, run_eqGuard_agg (P := Try.prog) w' .neq 51 x y s.toArray s.toArray (by kernel_rfl), Result.andThen_ok, run_neq_self s hs w']
  exact ⟨rfl, rfl⟩
end

section
variable {ops : Array Oper} {Q : Exit → Act → World → Prop} {K : Act → World → Prop} {a : Act} {o : Oper} {rest : List Oper} {w : World} {B : Nat} {v : Value} {xs : List (List Value)}
theorem wp_append_have (s x : Operand) (ho : o.op = .call { callee := .builtin .append, args := #[s, x], argTypes := #[63, 63] }) (hs : a.eval s = v) (h : HaveAt w B v xs) (A : Option Addr) (m c : Nat) (hx : a.eval x = .slice A m c) (ys : List (List Value)) (hm : ys.length = m) (hy : ∀ s ∈ ys, okS s)
    (hsrc : 0 < m → ∃ ad, A = some ad ∧ ∀ j u, ys.flatten[j]? = some u → w.cell? (ad.add j) = some u) (hxl : xs.length ≤ 1000) (hm2 : m ≤ 1000) (hB : B ≤ w.heap.size)
    (hK : ∀ v' w', HaveAt w' B v' (xs ++ ys) → w.grownBy w' v.ownBlock → (∀ b, v'.ownBlock = some b → v.ownBlock = some b ∨ w.heap.size ≤ b) → K (a.put o.dst v') w') : o.wp Try.prog a w K Q := by
  obtain ⟨v', w', hr, h2, h3, h4⟩ := run_append_have h o.type A m c ys hm hy hsrc hxl hm2 hB
  unfold Oper.wp execOp
  simp only [ho, resolve, invoke, builtin, Sem.run_bind, Sem.run_pure, Result.andThen_ok, List.map_toArray, List.map_cons, List.map_nil, hs, hx, hr]
  exact hK v' w' h2 h3 h4
theorem wpList_append_have (hgd : o.guard = none) (s x : Operand) (ho : o.op = .call { callee := .builtin .append, args := #[s, x], argTypes := #[63, 63] }) (hs : a.eval s = v) (h : HaveAt w B v xs) (A : Option Addr) (m c : Nat) (hx : a.eval x = .slice A m c) (ys : List (List Value)) (hm : ys.length = m) (hy : ∀ s ∈ ys, okS s)
    (hsrc : 0 < m → ∃ ad, A = some ad ∧ ∀ j u, ys.flatten[j]? = some u → w.cell? (ad.add j) = some u) (hxl : xs.length ≤ 1000) (hm2 : m ≤ 1000) (hB : B ≤ w.heap.size)
    (hK : ∀ v' w', HaveAt w' B v' (xs ++ ys) → w.grownBy w' v.ownBlock → (∀ b, v'.ownBlock = some b → v.ownBlock = some b ∨ w.heap.size ≤ b) → wpList Try.prog ops Q rest (a.put o.dst v') w') : wpList Try.prog ops Q (o :: rest) a w :=
  wpList_plain hgd fun _ hK' => wp_append_have s x ho hs h A m c hx ys hm hy hsrc hxl hm2 hB fun v' w' h1 h2 h3 => hK' _ _ (hK v' w' h1 h2 h3)
end

/-- Midway through a round: the ring is ahead of the list. -/
structure Mid (w0 w : World) (g : Nat) (v : Value) (S : List (List Value)) (f n : Int) (xs : List (List Value)) : Prop where
  ring : RingAt w g S f n
  have_ : HaveAt w w0.heap.size v xs
  below : Below w0.heap.size w0 w
  g0 : w0.heap.size ≤ g
theorem Mid.step {w0 w w' : World} {g : Nat} {v : Value} {S : List (List Value)} {f n : Int} {xs : List (List Value)} (h : Mid w0 w g v S f n xs) (hb : Below w.heap.size w w') : Mid w0 w' g v S f n xs :=
  ⟨h.ring.below hb h.ring.lt, h.have_.below hb, h.below.trans (hb.mono h.below.size), h.g0⟩
theorem Mid.alloc {w0 w : World} {g : Nat} {v : Value} {S : List (List Value)} {f n : Int} {xs : List (List Value)} (h : Mid w0 w g v S f n xs) (o : Obj) : Mid w0 (w.alloc o) g v S f n xs :=
  h.step ((Below.refl _ _).alloc (Nat.le_refl _) o)
theorem Mid.grown {w0 w w' : World} {g : Nat} {v v' : Value} {S : List (List Value)} {f n : Int} {xs xs' : List (List Value)} (h : Mid w0 w g v S f n xs) (hv : HaveAt w' w0.heap.size v' xs') (hg : w.grownBy w' v.ownBlock) : Mid w0 w' g v' S f n xs' := by
  have hlt := h.have_.lt
  refine ⟨{ h.ring with blk := ?_ }, hv, h.below.grown hg h.below.size fun k hk => (hlt k hk).2.1, h.g0⟩
  have hne : some g ≠ v.ownBlock := by
    intro e
    obtain ⟨_, _, C, hC⟩ := hlt g e.symm
    have := h.ring.blk
    rw [hC] at this
    injection this with this
    injection this with _ h2
    exact absurd h2 (by decide)
  exact (hg.block g h.ring.lt hne).trans h.ring.blk
theorem one_ok (y D : Int) : ∀ s ∈ [atS y D], okS s := fun s hs => by
  obtain rfl : s = atS y D := by simpa using hs
  exact atS_ok _ _
theorem rows_one (y D : Int) : rows y [D] = [atS y D] := by simp [rows]
theorem HaveAt.sliceN {w : World} {B : Nat} {v : Value} {xs : List (List Value)} (h : HaveAt w B v xs) {n : Nat} (hn : xs.length = n) : ∃ A c, v = .slice A n c ∧ n ≤ c := hn ▸ h.slice
theorem flat_one (s : List Value) (j : Nat) (u : Value) (h : [s].flatten[j]? = some u) : s[j]? = some u := by simpa using h
theorem src_one {w : World} {b : Nat} {s : List Value} (h : w.heap[b]? = some (.cells s.toArray 51 (0, 0))) : 0 < 1 → ∃ ad, (some ⟨b, 0, none⟩ : Option Addr) = some ad ∧ ∀ j u, [s].flatten[j]? = some u → w.cell? (ad.add j) = some u := fun _ => by
  refine ⟨_, rfl, fun j u hj => ?_⟩
  have h1 := rangeAt_box h j u (flat_one s j u hj)
  rw [Addr.add_mid]
  exact h1

theorem pick_any (a m : Int) (w : World) (hm : 0 < m) (hm2 : m ≤ 1099511627776) : Calls Try.prog 21 #[.int .i64 a, .int .i64 m] w fun e w' => ∃ r : Int, e = .returned (.int .i64 r) ∧ (0 ≤ r ∧ r < m) ∧ Aside0 (Below w.heap.size w w') := by
  have h1 := Int.lt_tmod_of_pos a hm
  have h2 := Int.tmod_lt_of_pos a hm
  obtain ⟨r, hr, h0, hlt⟩ : ∃ r, doubletakehand_Pick.f a m = some r ∧ 0 ≤ r ∧ r < m := by
    unfold doubletakehand_Pick.f
    rw [if_neg (by omega)]
    by_cases h : Int.tmod a m < 0
    · rw [if_pos h]; exact ⟨_, rfl, by unfold wrap64; omega, by unfold wrap64; omega⟩
    · rw [if_neg h]; exact ⟨_, rfl, by omega, by omega⟩
  exact (pick_calls a m r w hr).mono fun e w' ⟨he, hb⟩ => ⟨r, he, ⟨h0, hlt⟩, hb⟩

end Go.Proofs.Ytodidkjajkjlaaa.RingRep
