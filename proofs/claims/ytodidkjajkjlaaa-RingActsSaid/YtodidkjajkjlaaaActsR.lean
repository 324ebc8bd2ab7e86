/- RingActs: the region in which a state is put in an old one's place, in whatever order it draws (a walk of that one region). -/
import Derived.Test.YtodidkjajkjlaaaActsH
import Derived.Deep.RegionHeld3
import Derived.Great.Frames
namespace Go.Proofs.Ytodidkjajkjlaaa.RingRep
open Go.RowKit Go.Proofs.YtodidkjajkjlaaaW.PrintWords Go.Proofs.YtodidkjajkjlaaaW.PrintLast Go.Proofs.YtodidkjajkjlaaaW.PrintMore
set_option linter.unusedVariables false
set_option linter.unusedSimpArgs false

/-- The region of a number, out of a function's code. -/
def regionOf (n : Nat) : Code → Option Code
  | .region i o d => if i = n then some (.region i o d) else none
  | .seq a b => match regionOf n a with
    | some c => some c
    | none => regionOf n b
  | .cond _ a b => match regionOf n a with
    | some c => some c
    | none => regionOf n b
  | .block _ c => regionOf n c
  | .loop c => regionOf n c
  | .scope c => regionOf n c
  | _ => none
noncomputable def ops41 : Array Oper := match Try.f13.body.bind (regionOf 41) with
  | some (.region _ o _) => o
  | _ => #[]

section
variable {S : World → Prop} {Q : Exit → Act → World → Prop} {fuel : Nat} {listed : Array Bool} {a : Act} {w : World}
theorem take41 (i d : Nat) (p : Op) (v : Value) (hi : (ops41[i]?).map (fun o => (o.dst, o.op, o.guard)) = some (some d, p, none))
    (hs : Region.noSelect ops41 = true) (hf : Region.free .any ops41 listed i = true) (hr : (Region.ready .any ops41 listed).contains i = true)
    (hQ : ∀ c a d v w, Q (.panic c) (Act.put a d v) w → Q (.panic c) a w)
    (hy : ∀ (o : Oper), o.op = p → ∀ w, S w → (execOp a.eval o).run Try.prog w = .ok (.value v) w) (hS : S w)
    (h : wpAnyH Try.prog .any ops41 Q S fuel (listed.setIfInBounds i true) (a.put (some d) v) w) : wpAnyH Try.prog .any ops41 Q S (fuel + 1) listed a w := by
  cases ho : ops41[i]? with
  | none => rw [ho] at hi; cases hi
  | some o =>
    rw [ho] at hi
    simp only [Option.map_some, Option.some.injEq, Prod.mk.injEq] at hi
    obtain ⟨h1, h2, h3⟩ := hi
    refine wpAnyH_take ho hs hf hr (fun c a w h => hQ c a _ v w h) (.inl ⟨by simp [Region.wanted, h3], hy o h2⟩) hS ?_
    rw [h1]
    exact h
theorem step41 (i d : Nat) (p : Op) (hi : (ops41[i]?).map (fun o => (o.dst, o.op, o.guard)) = some (some d, p, none)) {K : Act → World → Prop}
    (h : ∀ o : Oper, o.op = p → o.dst = some d → o.wp Try.prog a w K Q) : wpOp Try.prog ops41 Q i K a w := by
  cases ho : ops41[i]? with
  | none => rw [ho] at hi; cases hi
  | some o =>
    rw [ho] at hi
    simp only [Option.map_some, Option.some.injEq, Prod.mk.injEq] at hi
    obtain ⟨h1, h2, h3⟩ := hi
    unfold wpOp
    rw [ho]
    show if _ then _ else _
    rw [if_pos (by simp [Region.wanted, h3])]
    exact .inl (h o h2 h1)
theorem one41 (i : Nat) (hr : Region.ready .any ops41 listed = [i])
    (h : wpOp Try.prog ops41 Q i (fun a' w' => S w' ∧ wpAnyH Try.prog .any ops41 Q S fuel (listed.setIfInBounds i true) a' w') a w) : wpAnyH Try.prog .any ops41 Q S (fuel + 1) listed a w :=
  wpAnyH_all hr (by simp) fun j hj => by
    obtain rfl : j = i := by simpa using hj
    exact h
theorem two41 (i j : Nat) (hr : Region.ready .any ops41 listed = [i, j])
    (h1 : wpOp Try.prog ops41 Q i (fun a' w' => S w' ∧ wpAnyH Try.prog .any ops41 Q S fuel (listed.setIfInBounds i true) a' w') a w)
    (h2 : wpOp Try.prog ops41 Q j (fun a' w' => S w' ∧ wpAnyH Try.prog .any ops41 Q S fuel (listed.setIfInBounds j true) a' w') a w) : wpAnyH Try.prog .any ops41 Q S (fuel + 1) listed a w :=
  wpAnyH_all hr (by simp) fun k hk => by
    rcases (by simpa using hk : k = i ∨ k = j) with rfl | rfl
    · exact h1
    · exact h2

variable {o : Oper} {K : Act → World → Prop}
theorem wp_build0 (ho : o.op = .buildSlice 63 0 #[]) (h : K (a.put o.dst (.slice (some ⟨w.heap.size, 0, none⟩) 0 0)) (w.alloc (.cells (List.toArray []) 51))) : o.wp Try.prog a w K Q := by
  obtain ⟨ie, hie, hz, hsz⟩ := info51z
  have hr : (Instr.buildSlice 63 0 #[]).run Try.prog w = .ok (.slice (some ⟨w.heap.size, 0, none⟩) 0 0) (w.alloc (.cells (List.toArray []) 51)) := by
    simp [Instr.buildSlice, run_underlying Try.underlying63, sizeOf, typeInfo, hie, hsz, Instr.fill, newRow]
    congr 2
    exact Array.eq_empty_of_size_eq_zero (by simp)
  unfold Oper.wp execOp
  simp only [ho, Sem.run_bind, List.map_toArray, List.map_nil, hr, Result.andThen_ok]
  exact h
theorem wp_build1 (x : Operand) (ho : o.op = .buildSlice 63 1 #[(0, x)]) (s : List Value) (hx : a.eval x = .agg s.toArray) (hs : okS s)
    (h : K (a.put o.dst (.slice (some ⟨w.heap.size, 0, none⟩) 1 1)) (w.alloc (.cells s.toArray 51))) : o.wp Try.prog a w K Q := by
  obtain ⟨ie, hie, hz, hsz⟩ := info51z
  refine wp_buildSlice 63 51 1 #[(0, x)] ho s.toArray ie _ Try.underlying63 hie hz (by rw [hsz]; omega) (by rw [hsz]; omega) ?_ h
  rw [hsz]
  simp only [List.map_toArray, List.map_cons, List.map_nil, hx]
  exact fill_one _ (by simp) s hs
end

section
variable {w : World} {a : Act} {o : Oper}
theorem run_sub3 (x y : Operand) (ho : o.op = .binOp .sub 3 x y 3) (p q : Int) (hx : a.eval x = .int .i64 p) (hy : a.eval y = .int .i64 q) (h1 : -9223372036854775808 ≤ p - q) (h2 : p - q < 9223372036854775808) :
    (execOp a.eval o).run Try.prog w = .ok (.value (.int .i64 (p - q))) w := by
  unfold execOp
  simp only [ho, hx, hy]
  go_simp
  simp only [IntKind.wrap, IntKind.bits, IntKind.signed]
  simp
  omega
theorem run_add3 (x y : Operand) (ho : o.op = .binOp .add 3 x y 3) (p q : Int) (hx : a.eval x = .int .i64 p) (hy : a.eval y = .int .i64 q) (h1 : -9223372036854775808 ≤ p + q) (h2 : p + q < 9223372036854775808) :
    (execOp a.eval o).run Try.prog w = .ok (.value (.int .i64 (p + q))) w := by
  unfold execOp
  simp only [ho, hx, hy]
  go_simp
  simp only [IntKind.wrap, IntKind.bits, IntKind.signed]
  simp
  omega
theorem elem63 : Try.prog.underlying 63 = some (.slice (Try.prog.elem 63)) := by kernel_rfl
theorem size63 (w : World) : (sizeOf (Try.prog.elem 63)).run Try.prog w = .ok 202 w := by kernel_rfl
theorem run_upto (x y : Operand) (ho : o.op = .slice 63 x none (some y) none) (A : Option Addr) (n c : Nat) (q : Int) (k : Nat) (hx : a.eval x = .slice A n c) (hy : a.eval y = .int .i64 q) (hq : q = k) (hk : k ≤ c) :
    (execOp a.eval o).run Try.prog w = .ok (.value (.slice A k c)) w := by
  subst hq
  have h1 := run_slice_h (P := Try.prog) w 63 A n c elem63 .i64 (k : Int) (by omega) (by omega)
  rw [size63] at h1
  unfold execOp
  simp only [ho, hx, hy, Option.map_none, Option.map_some, Sem.run_bind, Sem.run_pure, run_sliceAt_slice (P := Try.prog) w 63 _ _ _ _ elem63, h1, Result.andThen_ok]
  simp [sliced]
  intro _
  cases A <;> simp [Addr.add]
theorem run_from (x y : Operand) (ho : o.op = .slice 63 x (some y) none none) (A : Option Addr) (n c : Nat) (q : Int) (k : Nat) (hx : a.eval x = .slice A n c) (hy : a.eval y = .int .i64 q) (hq : q = k) (hk : k ≤ n) :
    (execOp a.eval o).run Try.prog w = .ok (.value (.slice (if c = k then A else A.map (·.add (k * 202))) (n - k) (c - k))) w := by
  subst hq
  have h1 := run_slice_l (P := Try.prog) w 63 A n c elem63 .i64 (k : Int) (by omega) (by omega)
  rw [size63] at h1
  unfold execOp
  simp only [ho, hx, hy, Option.map_none, Option.map_some, Sem.run_bind, Sem.run_pure, run_sliceAt_slice (P := Try.prog) w 63 _ _ _ _ elem63, h1, Result.andThen_ok]
  simp [sliced]
theorem run_load51 (x : Operand) (ho : o.op = .load 51 x) (b : Nat) (hx : a.eval x = .pointer (some ⟨b, 0, none⟩)) (s : List Value) (hs : okS s) (hr : w.heap[b]? = some (.cells s.toArray 51 (0, 0))) :
    (execOp a.eval o).run Try.prog w = .ok (.value (.agg s.toArray)) w := by
  have hl := run_loadVar_mid (P := Try.prog) w b 0 51 s _ (rangeAt_box hr) Try.underlying51 rfl (by rw [hs.1]; kernel_rfl)
  unfold execOp
  simp only [ho, hx, Instr.loadAt, Instr.sureAddr, Sem.run_bind, Sem.run_pure, Result.andThen_ok, hl]
end

/-- Two slices side by side: the old one, read alone, and the new one, which grows; and rows that nobody touches. -/
structure Mid2 (w0 w : World) (g : Nat) (v : Value) (S : List (List Value)) (f n : Int) (xs : List (List Value)) (ks : List (Nat × List Value)) (v' : Value) (xs' : List (List Value)) : Prop where
  mid : Mid w0 w g v S f n xs
  new : HaveAt w w0.heap.size v' xs'
  ne : ∀ b, v'.ownBlock = some b → v.ownBlock ≠ some b
  kept : ∀ p ∈ ks, w.heap[p.1]? = some (.cells p.2.toArray 51 (0, 0)) ∧ v'.ownBlock ≠ some p.1
section
variable {w0 w w1 : World} {g : Nat} {v v' v'' : Value} {S : List (List Value)} {f n : Int} {xs xs' xs'' : List (List Value)} {ks : List (Nat × List Value)}
theorem Mid2.start (h : Mid w0 w g v S f n xs) (hk : ∀ p ∈ ks, w.heap[p.1]? = some (.cells p.2.toArray 51 (0, 0))) :
    Mid2 w0 (w.alloc (.cells (List.toArray []) 51)) g v S f n xs ks (.slice (some ⟨w.heap.size, 0, none⟩) 0 0) [] := by
  refine ⟨h.alloc _, ⟨by simp, .inr ⟨w.heap.size, 0, 0, [], by simp, by simp, by unfold maxLen; omega, h.below.size, heap_alloc_new w _, by simp, by simp⟩⟩, fun b hb e => ?_, fun p hp => ⟨?_, fun e => ?_⟩⟩
  · have hb' : w.heap.size = b := by simpa [Value.ownBlock] using hb
    have := (h.have_.lt b e).1
    omega
  · exact (((Below.refl w.heap.size w).alloc (Nat.le_refl _) _).block _ (blk_lt (hk p hp))).trans (hk p hp)
  · have hb' : w.heap.size = p.1 := by simpa [Value.ownBlock] using e
    have := blk_lt (hk p hp)
    omega
theorem Mid2.alloc (h : Mid2 w0 w g v S f n xs ks v' xs') (s : List Value) : Mid2 w0 (w.alloc (.cells s.toArray 51)) g v S f n xs ((w.heap.size, s) :: ks) v' xs' := by
  have hb : Below w.heap.size w (w.alloc (.cells s.toArray 51)) := (Below.refl _ _).alloc (Nat.le_refl _) _
  refine ⟨h.mid.alloc _, h.new.below hb, h.ne, fun p hp => ?_⟩
  rcases List.mem_cons.1 hp with rfl | hp
  · refine ⟨heap_alloc_new w _, fun e => ?_⟩
    have := (h.new.lt _ e).1
    exact absurd this (Nat.lt_irrefl _)
  · exact ⟨(hb.block _ (blk_lt (h.kept p hp).1)).trans (h.kept p hp).1, (h.kept p hp).2⟩
theorem Mid2.grow (h : Mid2 w0 w g v S f n xs ks v' xs') (hv : HaveAt w1 w0.heap.size v'' xs'') (hg : w.grownBy w1 v'.ownBlock) (hf : ∀ b, v''.ownBlock = some b → v'.ownBlock = some b ∨ w.heap.size ≤ b) : Mid2 w0 w1 g v S f n xs ks v'' xs'' := by
  have hlt := h.new.lt
  refine ⟨⟨{ h.mid.ring with blk := ?_ }, ?_, h.mid.below.grown hg h.mid.below.size fun k hk => (hlt k hk).2.1, h.mid.g0⟩, hv, fun b hb e => ?_, fun p hp => ⟨?_, fun e => ?_⟩⟩
  · have hne : some g ≠ v'.ownBlock := by
      intro e
      obtain ⟨_, _, C, hC⟩ := hlt g e.symm
      have := h.mid.ring.blk
      rw [hC] at this
      injection this with this
      injection this with _ h2
      exact absurd h2 (by decide)
    exact (hg.block g h.mid.ring.lt hne).trans h.mid.ring.blk
  · exact h.mid.have_.keep fun b C e _ => hg.block b (h.mid.have_.lt b e).1 fun e2 => h.ne b e2.symm e
  · rcases hf b hb with h1 | h1
    · exact h.ne b h1 e
    · have := (h.mid.have_.lt b e).1
      omega
  · exact (hg.block _ (blk_lt (h.kept p hp).1) fun e => (h.kept p hp).2 e.symm).trans (h.kept p hp).1
  · rcases hf p.1 e with h1 | h1
    · exact (h.kept p hp).2 h1
    · have := blk_lt (h.kept p hp).1
      omega
theorem Mid2.done (h : Mid2 w0 w g v S f n xs ks v' xs') : Mid w0 w g v' S f n xs' := ⟨h.mid.ring, h.new, h.mid.below, h.mid.g0⟩

/-- Where the cells of such a slice lie. -/
theorem HaveAt.src {B : Nat} {A : Option Addr} {m c : Nat} {ys : List (List Value)} (h : HaveAt w B (.slice A m c) ys) : 0 < m → ∃ ad, A = some ad ∧ ∀ j u, ys.flatten[j]? = some u → w.cell? (ad.add j) = some u := fun hm => by
  rcases h.2 with ⟨hv, hx⟩ | ⟨b, o, c', C, hv, h3, h4, h5, h6, h7, h8⟩
  · injection hv with _ e2 _
    omega
  · injection hv with e1 e2 e3
    subst e1
    refine ⟨_, rfl, fun j u hj => ?_⟩
    rw [Addr.add_mid, cell_of_row w b _ _ 51 (0, 0) h6]
    simpa using h8 j u hj
end

section
variable {w0 w : World} {g : Nat} {v : Value} {S : List (List Value)} {f n : Int} {xs : List (List Value)} {Q : Exit → Act → World → Prop} {fuel : Nat} {listed : Array Bool} {a : Act}
/-- The end of it: the new one between the two parts. -/
theorem tail41 {bx bs k m c2 : Nat} {A : Option Addr} {v3 : Value} {s : List Value} {ks : List (Nat × List Value)}
    (hr1 : Region.ready .any ops41 listed = [9]) (hr2 : Region.ready .any ops41 (listed.setIfInBounds 9 true) = [16]) (hr3 : Region.ready .any ops41 ((listed.setIfInBounds 9 true).setIfInBounds 16 true) = [17])
    (hr4 : Region.ready .any ops41 (((listed.setIfInBounds 9 true).setIfInBounds 16 true).setIfInBounds 17 true) = [])
    (hsz : a.tmps.size = 248) (e163 : a.eval (.tmp 163) = v3) (e165 : a.eval (.tmp 165) = .slice (some ⟨bs, 0, none⟩) 1 1) (e172 : a.eval (.tmp 172) = .slice A m c2)
    (h : Mid2 w0 w g v S f n xs ks v3 (xs.take k)) (hbs : (bs, s) ∈ ks) (hbx : (bx, s) ∈ ks) (hs : okS s) (hxl : xs.length ≤ 900)
    (h72 : ∀ w, HaveAt w w0.heap.size v xs → HaveAt w w0.heap.size (.slice A m c2) (xs.drop (k + 1)))
    (hK : ∀ v6 v4 w', Mid w0 w' g v4 S f n (xs.take k ++ [s] ++ xs.drop (k + 1)) → Q .normal (((a.put (some 166) v6).put (some 173) v4).put (some 4) v4) w') :
    wpAnyH Try.prog .any ops41 Q (fun u => u.heap[bx]? = some (.cells s.toArray 51 (0, 0))) (fuel + 3) listed a w := by
  refine one41 9 hr1 (step41 9 166 (.call { callee := .builtin .append, args := #[.tmp 163, .tmp 165], argTypes := #[63, 63] }) (by kernel_rfl) fun o ho hd => ?_)
  refine wp_append_have _ _ ho e163 h.new _ 1 1 e165 [s] rfl (fun t ht => by obtain rfl : t = s := by simpa using ht
                                                                             exact hs) (fun h0 => ?_) (by rw [List.length_take]; omega) (by omega) h.mid.below.size fun v6 w1 hv6 hg6 hf6 => ?_
  · refine ⟨_, rfl, fun j u hj => ?_⟩
    have h1 := rangeAt_box (h.kept _ hbs).1 j u (flat_one s j u hj)
    rw [Addr.add_mid]
    exact h1
  have h1 := h.grow hv6 hg6 hf6
  rw [hd]
  refine ⟨(h1.kept _ hbx).1, ?_⟩
  refine one41 16 hr2 (step41 16 173 (.call { callee := .builtin .append, args := #[.tmp 166, .tmp 172], argTypes := #[63, 63] }) (by kernel_rfl) fun o ho hd => ?_)
  have hd1 := h72 _ h1.mid.have_
  have hml : (xs.drop (k + 1)).length = m := by
    obtain ⟨A', c', hv, _⟩ := hd1.slice
    injection hv with _ e2 _
    exact e2.symm
  refine wp_append_have _ _ ho (Act.eval_put_same _ _ _ (by rw [hsz]; omega)) h1.new _ m c2 ((Act.eval_put_ne _ _ _ _ (by omega)).trans e172) (xs.drop (k + 1)) hml hd1.1 hd1.src (by rw [List.length_append, List.length_take]; simp; omega) (by rw [← hml, List.length_drop]; omega) h1.mid.below.size fun v4 w2 hv4 hg4 hf4 => ?_
  have h2 := h1.grow hv4 hg4 hf4
  rw [hd]
  refine ⟨(h2.kept _ hbx).1, ?_⟩
  refine one41 17 hr3 (step41 17 4 (.assign (.tmp 173)) (by kernel_rfl) fun o ho hd => ?_)
  unfold Oper.wp
  rw [BigFrame.run_assign _ ho]
  simp only [Oper.upon, hd]
  refine ⟨(h2.kept _ hbx).1, wpAnyH_done hr4 ?_ _⟩
  rw [Act.eval_put_same _ _ _ (by rw [Act.size_put, hsz]; omega)]
  exact hK _ _ _ h2.done

/-- The three orders of the two new rows and the first append. -/
theorem mid41 {bx k m c c2 : Nat} {A A2 : Option Addr} {s : List Value}
    (hl : listed = (((((((((((((Array.replicate 18 false).setIfInBounds 1 true).setIfInBounds 2 true).setIfInBounds 3 true).setIfInBounds 4 true).setIfInBounds 5 true).setIfInBounds 7 true).setIfInBounds 10 true).setIfInBounds 11 true).setIfInBounds 12 true).setIfInBounds 13 true).setIfInBounds 14 true).setIfInBounds 15 true))
    (hsz : a.tmps.size = 248) (e162 : a.eval (.tmp 162) = .slice A k c) (e164 : a.eval (.tmp 164) = .agg s.toArray) (e172 : a.eval (.tmp 172) = .slice A2 m c2)
    (h : Mid w0 w g v S f n xs) (hbx : w.heap[bx]? = some (.cells s.toArray 51 (0, 0))) (hs : okS s) (hxl : xs.length ≤ 900) (hkl : (xs.take k).length = k)
    (h62 : ∀ w, HaveAt w w0.heap.size v xs → HaveAt w w0.heap.size (.slice A k c) (xs.take k))
    (h72 : ∀ w, HaveAt w w0.heap.size v xs → HaveAt w w0.heap.size (.slice A2 m c2) (xs.drop (k + 1)))
    (hK : ∀ v0 v3 v5 v6 v4 w', Mid w0 w' g v4 S f n (xs.take k ++ [s] ++ xs.drop (k + 1)) → Q .normal ((((((a.put (some 157) v0).put (some 163) v3).put (some 165) v5).put (some 166) v6).put (some 173) v4).put (some 4) v4) w') :
    wpAnyH Try.prog .any ops41 Q (fun u => u.heap[bx]? = some (.cells s.toArray 51 (0, 0))) 6 listed a w := by
  subst hl
  refine two41 0 8 (by kernel_rfl) (step41 0 157 (.buildSlice 63 0 #[]) (by kernel_rfl) fun o ho hd => ?_) (step41 8 165 (.buildSlice 63 1 #[(0, .tmp 164)]) (by kernel_rfl) fun o ho hd => ?_)
  · refine wp_build0 ho ?_
    rw [hd]
    have h1 : Mid2 w0 _ g v S f n xs [(bx, s)] _ [] := Mid2.start h (fun p hp => by obtain rfl : p = (bx, s) := by simpa using hp
                                                                                    exact hbx)
    refine ⟨(h1.kept (bx, s) (by simp)).1, ?_⟩
    refine two41 6 8 (by kernel_rfl) (step41 6 163 (.call { callee := .builtin .append, args := #[.tmp 157, .tmp 162], argTypes := #[63, 63] }) (by kernel_rfl) fun o ho hd => ?_) (step41 8 165 (.buildSlice 63 1 #[(0, .tmp 164)]) (by kernel_rfl) fun o ho hd => ?_)
    · have hd1 := h62 _ h1.mid.have_
      refine wp_append_have _ _ ho (Act.eval_put_same _ _ _ (by rw [hsz]; omega)) h1.new _ k c ((Act.eval_put_ne _ _ _ _ (by omega)).trans e162) (xs.take k) hkl hd1.1 hd1.src (by simp) (by rw [← hkl, List.length_take]; omega) h1.mid.below.size fun v3 w1 hv3 hg3 hf3 => ?_
      have h2 := h1.grow hv3 hg3 hf3
      rw [hd]
      rw [List.nil_append] at h2
      refine ⟨(h2.kept (bx, s) (by simp)).1, ?_⟩
      refine one41 8 (by kernel_rfl) (step41 8 165 (.buildSlice 63 1 #[(0, .tmp 164)]) (by kernel_rfl) fun o ho hd => ?_)
      refine wp_build1 (.tmp 164) ho s (by rw [Act.eval_put_ne _ _ _ _ (by omega), Act.eval_put_ne _ _ _ _ (by omega)]; exact e164) hs ?_
      rw [hd]
      have h3 := h2.alloc s
      refine ⟨(h3.kept (bx, s) (by simp)).1, ?_⟩
      exact tail41 (by kernel_rfl) (by kernel_rfl) (by kernel_rfl) (by kernel_rfl) (by simp only [Act.size_put]; exact hsz)
        (by rw [Act.eval_put_ne _ _ _ _ (by omega), Act.eval_put_same _ _ _ (by simp only [Act.size_put]; omega)])
        (by rw [Act.eval_put_same _ _ _ (by simp only [Act.size_put]; omega)])
        (by rw [Act.eval_put_ne _ _ _ _ (by omega), Act.eval_put_ne _ _ _ _ (by omega), Act.eval_put_ne _ _ _ _ (by omega)]; exact e172)
        h3 (List.mem_cons_self ..) (by simp) hs hxl h72 fun v6 v4 w' hm => hK _ _ _ v6 v4 w' hm
    · refine wp_build1 (.tmp 164) ho s (by rw [Act.eval_put_ne _ _ _ _ (by omega)]; exact e164) hs ?_
      rw [hd]
      have h2 := h1.alloc s
      refine ⟨(h2.kept (bx, s) (by simp)).1, ?_⟩
      refine one41 6 (by kernel_rfl) (step41 6 163 (.call { callee := .builtin .append, args := #[.tmp 157, .tmp 162], argTypes := #[63, 63] }) (by kernel_rfl) fun o ho hd => ?_)
      have hd1 := h62 _ h2.mid.have_
      refine wp_append_have _ _ ho (by rw [Act.eval_put_ne _ _ _ _ (by omega), Act.eval_put_same _ _ _ (by rw [hsz]; omega)]) h2.new _ k c (by rw [Act.eval_put_ne _ _ _ _ (by omega), Act.eval_put_ne _ _ _ _ (by omega)]; exact e162) (xs.take k) hkl hd1.1 hd1.src (by simp) (by rw [← hkl, List.length_take]; omega) h2.mid.below.size fun v3 w1 hv3 hg3 hf3 => ?_
      have h3 := h2.grow hv3 hg3 hf3
      rw [hd]
      rw [List.nil_append] at h3
      refine ⟨(h3.kept (bx, s) (by simp)).1, ?_⟩
      rw [Act.put_comm (a.put (some 157) _) _ _ (x := some 165) (y := some 163) (by simp)]
      exact tail41 (by kernel_rfl) (by kernel_rfl) (by kernel_rfl) (by kernel_rfl) (by simp only [Act.size_put]; exact hsz)
        (by rw [Act.eval_put_ne _ _ _ _ (by omega), Act.eval_put_same _ _ _ (by simp only [Act.size_put]; omega)])
        (by rw [Act.eval_put_same _ _ _ (by simp only [Act.size_put]; omega)])
        (by rw [Act.eval_put_ne _ _ _ _ (by omega), Act.eval_put_ne _ _ _ _ (by omega), Act.eval_put_ne _ _ _ _ (by omega)]; exact e172)
        h3 (List.mem_cons_self ..) (by simp) hs hxl h72 fun v6 v4 w' hm => hK _ _ _ v6 v4 w' hm
  · refine wp_build1 (.tmp 164) ho s e164 hs ?_
    rw [hd]
    have hb : Below w.heap.size w (w.alloc (.cells s.toArray 51)) := (Below.refl _ _).alloc (Nat.le_refl _) _
    have hbx1 := (hb.block _ (blk_lt hbx)).trans hbx
    refine ⟨hbx1, ?_⟩
    refine one41 0 (by kernel_rfl) (step41 0 157 (.buildSlice 63 0 #[]) (by kernel_rfl) fun o ho hd => ?_)
    refine wp_build0 ho ?_
    rw [hd]
    have h1 : Mid2 w0 _ g v S f n xs [(w.heap.size, s), (bx, s)] _ [] := Mid2.start (h.alloc (.cells s.toArray 51)) (fun p hp => by
      rcases (by simpa using hp : p = (w.heap.size, s) ∨ p = (bx, s)) with rfl | rfl
      · exact heap_alloc_new w _
      · exact hbx1)
    refine ⟨(h1.kept (bx, s) (by simp)).1, ?_⟩
    refine one41 6 (by kernel_rfl) (step41 6 163 (.call { callee := .builtin .append, args := #[.tmp 157, .tmp 162], argTypes := #[63, 63] }) (by kernel_rfl) fun o ho hd => ?_)
    have hd1 := h62 _ h1.mid.have_
    refine wp_append_have _ _ ho (Act.eval_put_same _ _ _ (by rw [Act.size_put, hsz]; omega)) h1.new _ k c (by rw [Act.eval_put_ne _ _ _ _ (by omega), Act.eval_put_ne _ _ _ _ (by omega)]; exact e162) (xs.take k) hkl hd1.1 hd1.src (by simp) (by rw [← hkl, List.length_take]; omega) h1.mid.below.size fun v3 w1 hv3 hg3 hf3 => ?_
    have h3 := h1.grow hv3 hg3 hf3
    rw [hd]
    rw [List.nil_append] at h3
    refine ⟨(h3.kept (bx, s) (by simp)).1, ?_⟩
    rw [Act.put_comm a _ _ (x := some 165) (y := some 157) (by simp), Act.put_comm (a.put (some 157) _) _ _ (x := some 165) (y := some 163) (by simp)]
    exact tail41 (by kernel_rfl) (by kernel_rfl) (by kernel_rfl) (by kernel_rfl) (by simp only [Act.size_put]; exact hsz)
      (by rw [Act.eval_put_ne _ _ _ _ (by omega), Act.eval_put_same _ _ _ (by simp only [Act.size_put]; omega)])
      (by rw [Act.eval_put_same _ _ _ (by simp only [Act.size_put]; omega)])
      (by rw [Act.eval_put_ne _ _ _ _ (by omega), Act.eval_put_ne _ _ _ _ (by omega), Act.eval_put_ne _ _ _ _ (by omega)]; exact e172)
      h3 (List.mem_cons_self ..) (by simp) hs hxl h72 fun v6 v4 w' hm => hK _ _ _ v6 v4 w' hm

/-- The whole region. -/
theorem region41 {bx c : Nat} {A : Option Addr} {low y D : Int} {ns : List Int} (hsz : a.tmps.size = 248)
    (e4 : a.eval (.tmp 4) = .slice A ns.length c) (e8 : a.eval (.tmp 8) = .int .i64 low) (e10 : a.eval (.tmp 10) = .int .i64 y) (e11 : a.eval (.tmp 11) = .pointer (some ⟨bx, 0, none⟩))
    (h : Mid w0 w g (.slice A ns.length c) S f n (rows low ns)) (hc : ns.length ≤ c) (hbx : w.heap[bx]? = some (.cells (atS y D).toArray 51 (0, 0)))
    (h17 : ns.length ≤ 17) (h0 : 0 ≤ low) (hy : y ≤ 2000000000000) (h1 : low ≤ y) (h2 : y < low + ns.length)
    (hK : ∀ u1 u2 u3 u4 u5 u6 u7 u8 u9 u10 u11 u12 v0 v3 v5 v6 v4 w', Mid w0 w' g v4 S f n (rows low (ns.set (y - low).toNat D)) →
      Q .normal ((((((((((((((((((a.put (some 158) u1).put (some 159) u2).put (some 160) u3).put (some 161) u4).put (some 162) u5).put (some 164) u6).put (some 167) u7).put (some 168) u8).put (some 169) u9).put (some 170) u10).put (some 171) u11).put (some 172) u12).put (some 157) v0).put (some 163) v3).put (some 165) v5).put (some 166) v6).put (some 173) v4).put (some 4) v4) w') :
    (Code.region 41 ops41 true).wp Try.prog Q a w := by
  obtain ⟨k, hk⟩ : ∃ k : Nat, (y - low).toNat = k := ⟨_, rfl⟩
  have hky : y - low = (k : Int) := by omega
  have hkn : k < ns.length := by omega
  have hset := rows_set low ns k hkn D
  rw [show low + (k : Int) = y by omega] at hset
  rw [hk, hset] at hK
  have hb : Below w.heap.size w w.drew := below_drewN (Below.refl _ _) 1
  refine wp_region_noPanic ?_
  have hQ : ∀ c a d v w, NoPanic Q (.panic c) (Act.put a d v) w → NoPanic Q (.panic c) a w := fun _ _ _ _ _ h => h
  refine wp_region_held_drew (S := fun u => u.heap[bx]? = some (.cells (atS y D).toArray 51 (0, 0))) (by kernel_rfl) ((hb.block _ (blk_lt hbx)).trans hbx) (fun hS => ?_)
  show wpAnyH _ _ _ _ _ 18 _ _ _
  refine take41 1 158 (.move (.tmp 4)) (.slice A ns.length c) (by kernel_rfl) (by kernel_rfl) (by kernel_rfl) (by kernel_rfl) hQ (fun o ho w _ => (BigFrame.run_move _ ho w).trans (congrArg (fun v => Result.ok (Next.value v) w) (by exact e4))) hS ?_
  refine take41 2 159 (.move (.tmp 10)) (.int .i64 y) (by kernel_rfl) (by kernel_rfl) (by kernel_rfl) (by kernel_rfl) hQ (fun o ho w _ => (BigFrame.run_move _ ho w).trans (congrArg (fun v => Result.ok (Next.value v) w) (by rw [Act.eval_put_ne _ _ _ _ (by omega)]; exact e10))) hS ?_
  refine take41 3 160 (.move (.tmp 8)) (.int .i64 low) (by kernel_rfl) (by kernel_rfl) (by kernel_rfl) (by kernel_rfl) hQ (fun o ho w _ => (BigFrame.run_move _ ho w).trans (congrArg (fun v => Result.ok (Next.value v) w) (by rw [Act.eval_put_ne _ _ _ _ (by omega)]; rw [Act.eval_put_ne _ _ _ _ (by omega)]; exact e8))) hS ?_
  refine take41 4 161 (.binOp .sub 3 (.tmp 159) (.tmp 160) 3) (.int .i64 (y - low)) (by kernel_rfl) (by kernel_rfl) (by kernel_rfl) (by kernel_rfl) hQ (fun o ho w _ => run_sub3 _ _ ho _ _ (by rw [Act.eval_put_ne _ _ _ _ (by omega)]; exact Act.eval_put_same _ _ _ (by first | omega | (simp only [Act.size_put]; omega))) (by exact Act.eval_put_same _ _ _ (by first | omega | (simp only [Act.size_put]; omega))) (by omega) (by omega)) hS ?_
  refine take41 5 162 (.slice 63 (.tmp 158) none (some (.tmp 161)) none) (.slice A k c) (by kernel_rfl) (by kernel_rfl) (by kernel_rfl) (by kernel_rfl) hQ (fun o ho w _ => run_upto _ _ ho A ns.length c (y - low) k (by rw [Act.eval_put_ne _ _ _ _ (by omega)]; rw [Act.eval_put_ne _ _ _ _ (by omega)]; rw [Act.eval_put_ne _ _ _ _ (by omega)]; exact Act.eval_put_same _ _ _ (by first | omega | (simp only [Act.size_put]; omega))) (by exact Act.eval_put_same _ _ _ (by first | omega | (simp only [Act.size_put]; omega))) hky (by omega)) hS ?_
  refine take41 7 164 (.load 51 (.tmp 11)) (.agg (atS y D).toArray) (by kernel_rfl) (by kernel_rfl) (by kernel_rfl) (by kernel_rfl) hQ (fun o ho w hw => run_load51 _ ho bx (by rw [Act.eval_put_ne _ _ _ _ (by omega)]; rw [Act.eval_put_ne _ _ _ _ (by omega)]; rw [Act.eval_put_ne _ _ _ _ (by omega)]; rw [Act.eval_put_ne _ _ _ _ (by omega)]; rw [Act.eval_put_ne _ _ _ _ (by omega)]; exact e11) (atS y D) (atS_ok _ _) hw) hS ?_
  refine take41 10 167 (.move (.tmp 4)) (.slice A ns.length c) (by kernel_rfl) (by kernel_rfl) (by kernel_rfl) (by kernel_rfl) hQ (fun o ho w _ => (BigFrame.run_move _ ho w).trans (congrArg (fun v => Result.ok (Next.value v) w) (by rw [Act.eval_put_ne _ _ _ _ (by omega)]; rw [Act.eval_put_ne _ _ _ _ (by omega)]; rw [Act.eval_put_ne _ _ _ _ (by omega)]; rw [Act.eval_put_ne _ _ _ _ (by omega)]; rw [Act.eval_put_ne _ _ _ _ (by omega)]; rw [Act.eval_put_ne _ _ _ _ (by omega)]; exact e4))) hS ?_
  refine take41 11 168 (.move (.tmp 10)) (.int .i64 y) (by kernel_rfl) (by kernel_rfl) (by kernel_rfl) (by kernel_rfl) hQ (fun o ho w _ => (BigFrame.run_move _ ho w).trans (congrArg (fun v => Result.ok (Next.value v) w) (by rw [Act.eval_put_ne _ _ _ _ (by omega)]; rw [Act.eval_put_ne _ _ _ _ (by omega)]; rw [Act.eval_put_ne _ _ _ _ (by omega)]; rw [Act.eval_put_ne _ _ _ _ (by omega)]; rw [Act.eval_put_ne _ _ _ _ (by omega)]; rw [Act.eval_put_ne _ _ _ _ (by omega)]; rw [Act.eval_put_ne _ _ _ _ (by omega)]; exact e10))) hS ?_
  refine take41 12 169 (.move (.tmp 8)) (.int .i64 low) (by kernel_rfl) (by kernel_rfl) (by kernel_rfl) (by kernel_rfl) hQ (fun o ho w _ => (BigFrame.run_move _ ho w).trans (congrArg (fun v => Result.ok (Next.value v) w) (by rw [Act.eval_put_ne _ _ _ _ (by omega)]; rw [Act.eval_put_ne _ _ _ _ (by omega)]; rw [Act.eval_put_ne _ _ _ _ (by omega)]; rw [Act.eval_put_ne _ _ _ _ (by omega)]; rw [Act.eval_put_ne _ _ _ _ (by omega)]; rw [Act.eval_put_ne _ _ _ _ (by omega)]; rw [Act.eval_put_ne _ _ _ _ (by omega)]; rw [Act.eval_put_ne _ _ _ _ (by omega)]; exact e8))) hS ?_
  refine take41 13 170 (.binOp .sub 3 (.tmp 168) (.tmp 169) 3) (.int .i64 (y - low)) (by kernel_rfl) (by kernel_rfl) (by kernel_rfl) (by kernel_rfl) hQ (fun o ho w _ => run_sub3 _ _ ho _ _ (by rw [Act.eval_put_ne _ _ _ _ (by omega)]; exact Act.eval_put_same _ _ _ (by first | omega | (simp only [Act.size_put]; omega))) (by exact Act.eval_put_same _ _ _ (by first | omega | (simp only [Act.size_put]; omega))) (by omega) (by omega)) hS ?_
  refine take41 14 171 (.binOp .add 3 (.tmp 170) (.const (.int .i64 1)) 3) (.int .i64 (y - low + 1)) (by kernel_rfl) (by kernel_rfl) (by kernel_rfl) (by kernel_rfl) hQ (fun o ho w _ => run_add3 _ _ ho _ _ (by exact Act.eval_put_same _ _ _ (by first | omega | (simp only [Act.size_put]; omega))) rfl (by omega) (by omega)) hS ?_
  refine take41 15 172 (.slice 63 (.tmp 167) (some (.tmp 171)) none none) (.slice (if c = k + 1 then A else A.map (·.add ((k + 1) * 202))) (ns.length - (k + 1)) (c - (k + 1))) (by kernel_rfl) (by kernel_rfl) (by kernel_rfl) (by kernel_rfl) hQ (fun o ho w _ => run_from _ _ ho A ns.length c (y - low + 1) (k + 1) (by rw [Act.eval_put_ne _ _ _ _ (by omega)]; rw [Act.eval_put_ne _ _ _ _ (by omega)]; rw [Act.eval_put_ne _ _ _ _ (by omega)]; rw [Act.eval_put_ne _ _ _ _ (by omega)]; exact Act.eval_put_same _ _ _ (by first | omega | (simp only [Act.size_put]; omega))) (by exact Act.eval_put_same _ _ _ (by first | omega | (simp only [Act.size_put]; omega))) (by omega) (by omega)) hS ?_
  refine mid41 rfl (by simp only [Act.size_put]; exact hsz) (by rw [Act.eval_put_ne _ _ _ _ (by omega)]; rw [Act.eval_put_ne _ _ _ _ (by omega)]; rw [Act.eval_put_ne _ _ _ _ (by omega)]; rw [Act.eval_put_ne _ _ _ _ (by omega)]; rw [Act.eval_put_ne _ _ _ _ (by omega)]; rw [Act.eval_put_ne _ _ _ _ (by omega)]; rw [Act.eval_put_ne _ _ _ _ (by omega)]; exact Act.eval_put_same _ _ _ (by first | omega | (simp only [Act.size_put]; omega))) (by rw [Act.eval_put_ne _ _ _ _ (by omega)]; rw [Act.eval_put_ne _ _ _ _ (by omega)]; rw [Act.eval_put_ne _ _ _ _ (by omega)]; rw [Act.eval_put_ne _ _ _ _ (by omega)]; rw [Act.eval_put_ne _ _ _ _ (by omega)]; rw [Act.eval_put_ne _ _ _ _ (by omega)]; exact Act.eval_put_same _ _ _ (by first | omega | (simp only [Act.size_put]; omega))) (by exact Act.eval_put_same _ _ _ (by first | omega | (simp only [Act.size_put]; omega))) (h.step hb) hS (atS_ok _ _) (by rw [rows_len]; omega) (by rw [List.length_take, rows_len]; omega)
    (fun w h => h.take k (by omega)) (fun w h => h.drop (k + 1) (by omega) hc) fun v0 v3 v5 v6 v4 w' hm => ?_
  exact hK _ _ _ _ _ _ _ _ _ _ _ _ v0 v3 v5 v6 v4 w' hm
end
end Go.Proofs.Ytodidkjajkjlaaa.RingRep
