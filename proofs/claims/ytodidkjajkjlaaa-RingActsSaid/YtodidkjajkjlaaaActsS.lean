/- RingActs: the region in which a round looks at a frame that is not there, in whatever order it draws (a walk of that one region). -/
import Derived.Test.YtodidkjajkjlaaaActsR
namespace Go.Proofs.Ytodidkjajkjlaaa.RingRep
open Go.RowKit Go.Proofs.YtodidkjajkjlaaaW.PrintWords Go.Proofs.YtodidkjajkjlaaaW.PrintLast Go.Proofs.YtodidkjajkjlaaaW.PrintMore
set_option linter.unusedVariables false
set_option linter.unusedSimpArgs false

noncomputable def ops54 : Array Oper := match Try.f13.body.bind (regionOf 54) with
  | some (.region _ o _) => o
  | _ => #[]

section
variable {w : World} {a : Act} {o : Oper}
theorem yielded_of {ops : Array Oper} {g d : Nat} {b : Bool} (hd : (ops[g]?).bind (·.dst) = some d) (he : a.eval (.tmp d) = .bool b) (hl : d < a.tmps.size) : yielded ops a.tmps g = some b := by
  unfold yielded
  rw [hd]
  simp only [Act.eval, Array.getD_eq_getD_getElem?] at he
  rw [Array.getElem?_eq_getElem hl] at he
  simp only [Option.bind_some, Array.getElem?_eq_getElem hl]
  simp only [Option.getD_some] at he
  rw [he]
theorem run_neqB (x y : Operand) (ho : o.op = .binOp .neq 4 x y 4) (p q : Bool) (hx : a.eval x = .bool p) (hy : a.eval y = .bool q) :
    (execOp a.eval o).run Try.prog w = .ok (.value (.bool (p != q))) w := by
  unfold execOp
  simp only [ho, hx, hy]
  go_simp
  cases p <;> cases q <;> rfl
theorem run_notB (x : Operand) (ho : o.op = .unOp .not 4 x) (p : Bool) (hx : a.eval x = .bool p) :
    (execOp a.eval o).run Try.prog w = .ok (.value (.bool (!p))) w := by
  unfold execOp
  simp only [ho, hx]
  go_simp
theorem run_pickT (c x y : Operand) (ho : o.op = .pick c x y) (hc : a.eval c = .bool true) (v : Value) (hv : a.eval x = v) :
    (execOp a.eval o).run Try.prog w = .ok (.value v) w := by
  subst hv
  unfold execOp
  simp only [ho, hc]
  go_simp
theorem run_pickF (c x y : Operand) (ho : o.op = .pick c x y) (hc : a.eval c = .bool false) (v : Value) (hv : a.eval y = v) :
    (execOp a.eval o).run Try.prog w = .ok (.value v) w := by
  subst hv
  unfold execOp
  simp only [ho, hc]
  go_simp
theorem run_build51 (ho : o.op = .build 51 #[]) : (execOp a.eval o).run Try.prog w = .ok (.value (.agg (atS 0 0).toArray)) w := by
  have hb := run_build (P := Try.prog) w 51 #[] (atS 0 0).toArray built51z
  unfold execOp
  simp only [ho, Sem.run_bind, Sem.run_pure, List.map_toArray, List.map_nil, hb, Result.andThen_ok]
theorem run_neq51 (x y : Operand) (ho : o.op = .binOp .neq 51 x y 51) (s : List Value) (hs : okS s) (hx : a.eval x = .agg s.toArray) (hy : a.eval y = .agg s.toArray) :
    (execOp a.eval o).run Try.prog w = .ok (.value (.bool false)) w := by
  unfold execOp
  simp only [ho, hx, hy, Sem.run_bind, Sem.run_pure, run_eqGuard_agg (P := Try.prog) w .neq 51 x y s.toArray s.toArray (by kernel_rfl), Result.andThen_ok, run_neq_self s hs w]
end

section
variable {S : World → Prop} {Q : Exit → Act → World → Prop} {fuel : Nat} {listed : Array Bool} {a : Act} {w : World}
theorem takeG (i d : Nat) (p : Op) (gd : Option (Nat × Bool)) (v : Value) (hi : (ops54[i]?).map (fun o => (o.dst, o.op, o.guard)) = some (some d, p, gd))
    (hs : Region.noSelect ops54 = true) (hf : Region.free .any ops54 listed i = true) (hr : (Region.ready .any ops54 listed).contains i = true)
    (hQ : ∀ c a d v w, Q (.panic c) (Act.put a d v) w → Q (.panic c) a w)
    (hg : ∀ g b, gd = some (g, b) → yielded ops54 a.tmps g = some b)
    (hy : ∀ (o : Oper), o.op = p → ∀ w, S w → (execOp a.eval o).run Try.prog w = .ok (.value v) w) (hS : S w)
    (h : wpAnyH Try.prog .any ops54 Q S fuel (listed.setIfInBounds i true) (a.put (some d) v) w) : wpAnyH Try.prog .any ops54 Q S (fuel + 1) listed a w := by
  cases ho : ops54[i]? with
  | none => rw [ho] at hi; cases hi
  | some o =>
    rw [ho] at hi
    simp only [Option.map_some, Option.some.injEq, Prod.mk.injEq] at hi
    obtain ⟨h1, h2, h3⟩ := hi
    refine wpAnyH_take ho hs hf hr (fun c a w h => hQ c a _ v w h) (.inl ⟨?_, hy o h2⟩) hS ?_
    · unfold Region.wanted
      rw [h3]
      cases gd with
      | none => rfl
      | some gb =>
        obtain ⟨g, b⟩ := gb
        simp only
        rw [hg g b rfl]
        simp
    · rw [h1]
      exact h
theorem skipG (i d : Nat) (p : Op) (g : Nat) (b b' : Bool) (hi : (ops54[i]?).map (fun o => (o.dst, o.op, o.guard)) = some (some d, p, some (g, b)))
    (hs : Region.noSelect ops54 = true) (hf : Region.free .any ops54 listed i = true) (hr : (Region.ready .any ops54 listed).contains i = true)
    (hQ : ∀ c a d v w, Q (.panic c) (Act.put a d v) w → Q (.panic c) a w)
    (hg : yielded ops54 a.tmps g = some b') (hb : (b' == b) = false) (hS : S w)
    (h : wpAnyH Try.prog .any ops54 Q S fuel (listed.setIfInBounds i true) (a.put (some d) undef) w) : wpAnyH Try.prog .any ops54 Q S (fuel + 1) listed a w := by
  cases ho : ops54[i]? with
  | none => rw [ho] at hi; cases hi
  | some o =>
    rw [ho] at hi
    simp only [Option.map_some, Option.some.injEq, Prod.mk.injEq] at hi
    obtain ⟨h1, h2, h3⟩ := hi
    refine wpAnyH_take ho hs hf hr (fun c a w h => hQ c a _ undef w h) (.inr ⟨?_, rfl⟩) hS ?_
    · unfold Region.wanted
      rw [h3]
      simp only
      rw [hg]
      simpa using hb
    · rw [h1]
      exact h
set_option maxHeartbeats 8000000 in
/-- The look at a frame that is not there, in whatever order it draws. -/
theorem region54_out {bx : Nat} (hsz : a.tmps.size = 248) (e17 : a.eval (.tmp 17) = .pointer (some ⟨bx, 0, none⟩)) (e18 : a.eval (.tmp 18) = .bool false) (e19 : a.eval (.tmp 19) = .bool false)
    (hbx : w.heap[bx]? = some (.cells (atS 0 0).toArray 51 (0, 0)))
    (hK : ∀ u0 u1 u2 u3 u4 u5 u6 u7 u8 u9 u10 u11 u12 u13 u14 u15 u16 u17 u18 u19 u20 u21 u22 u23 u24 u25 u26, Q .normal ((((((((((((((((((((((((((((a.put (some 220) u0).put (some 221) u1).put (some 222) u2).put (some 223) u3).put (some 224) u4).put (some 225) u5).put (some 226) u6).put (some 227) u7).put (some 228) u8).put (some 229) u9).put (some 230) u10).put (some 231) u11).put (some 232) u12).put (some 233) u13).put (some 234) u14).put (some 235) u15).put (some 236) u16).put (some 237) u17).put (some 238) u18).put (some 239) u19).put (some 240) u20).put (some 241) u21).put (some 242) u22).put (some 243) u23).put (some 244) u24).put (some 245) u25).put (some 246) u26).put (some 247) (.bool false)) w.drew) :
    (Code.region 54 ops54 true).wp Try.prog Q a w := by
  have hb : Below w.heap.size w w.drew := below_drewN (Below.refl _ _) 1
  refine wp_region_noPanic ?_
  have hQ : ∀ c a d v w, NoPanic Q (.panic c) (Act.put a d v) w → NoPanic Q (.panic c) a w := fun _ _ _ _ _ h => h
  refine wp_region_held_drew (S := fun u => u.heap[bx]? = some (.cells (atS 0 0).toArray 51 (0, 0))) (by kernel_rfl) ((hb.block _ (blk_lt hbx)).trans hbx) (fun hS => ?_)
  show wpAnyH _ _ _ _ _ 28 _ _ _
  refine takeG 0 220 (.move (.tmp 18)) none (.bool false) (by kernel_rfl) (by kernel_rfl) (by kernel_rfl) (by kernel_rfl) hQ (fun g b h => by cases h) (fun o ho w _ => (BigFrame.run_move _ ho w).trans (congrArg (fun v => Result.ok (Next.value v) w) (by exact e18))) hS ?_
  refine takeG 1 221 (.move (.tmp 19)) none (.bool false) (by kernel_rfl) (by kernel_rfl) (by kernel_rfl) (by kernel_rfl) hQ (fun g b h => by cases h) (fun o ho w _ => (BigFrame.run_move _ ho w).trans (congrArg (fun v => Result.ok (Next.value v) w) (by rw [Act.eval_put_ne _ _ _ _ (by omega)]; exact e19))) hS ?_
  refine takeG 2 222 (.binOp .neq 4 (.tmp 220) (.tmp 221) 4) none (.bool false) (by kernel_rfl) (by kernel_rfl) (by kernel_rfl) (by kernel_rfl) hQ (fun g b h => by cases h) (fun o ho w _ => run_neqB _ _ ho false false (by rw [Act.eval_put_ne _ _ _ _ (by omega)]; exact Act.eval_put_same _ _ _ (by first | omega | (simp only [Act.size_put]; omega))) (by exact Act.eval_put_same _ _ _ (by first | omega | (simp only [Act.size_put]; omega)))) hS ?_
  refine takeG 3 223 (.move (.tmp 222)) none (.bool false) (by kernel_rfl) (by kernel_rfl) (by kernel_rfl) (by kernel_rfl) hQ (fun g b h => by cases h) (fun o ho w _ => (BigFrame.run_move _ ho w).trans (congrArg (fun v => Result.ok (Next.value v) w) (by exact Act.eval_put_same _ _ _ (by first | omega | (simp only [Act.size_put]; omega))))) hS ?_
  refine takeG 4 224 (.move (.tmp 19)) (some (3, false)) (.bool false) (by kernel_rfl) (by kernel_rfl) (by kernel_rfl) (by kernel_rfl) hQ (fun g b h => by injection h with h; injection h with h1 h2; subst h1 h2; exact yielded_of (d := 223) (b := false) (by kernel_rfl) (by exact Act.eval_put_same _ _ _ (by first | omega | (simp only [Act.size_put]; omega))) (by first | omega | (simp only [Act.size_put]; omega))) (fun o ho w _ => (BigFrame.run_move _ ho w).trans (congrArg (fun v => Result.ok (Next.value v) w) (by rw [Act.eval_put_ne _ _ _ _ (by omega)]; rw [Act.eval_put_ne _ _ _ _ (by omega)]; rw [Act.eval_put_ne _ _ _ _ (by omega)]; rw [Act.eval_put_ne _ _ _ _ (by omega)]; exact e19))) hS ?_
  refine takeG 5 225 (.move (.tmp 224)) (some (3, false)) (.bool false) (by kernel_rfl) (by kernel_rfl) (by kernel_rfl) (by kernel_rfl) hQ (fun g b h => by injection h with h; injection h with h1 h2; subst h1 h2; exact yielded_of (d := 223) (b := false) (by kernel_rfl) (by rw [Act.eval_put_ne _ _ _ _ (by omega)]; exact Act.eval_put_same _ _ _ (by first | omega | (simp only [Act.size_put]; omega))) (by first | omega | (simp only [Act.size_put]; omega))) (fun o ho w _ => (BigFrame.run_move _ ho w).trans (congrArg (fun v => Result.ok (Next.value v) w) (by exact Act.eval_put_same _ _ _ (by first | omega | (simp only [Act.size_put]; omega))))) hS ?_
  refine skipG 6 226 (.load 51 (.tmp 17)) 5 true false (by kernel_rfl) (by kernel_rfl) (by kernel_rfl) (by kernel_rfl) hQ (yielded_of (d := 225) (b := false) (by kernel_rfl) (by exact Act.eval_put_same _ _ _ (by first | omega | (simp only [Act.size_put]; omega))) (by first | omega | (simp only [Act.size_put]; omega))) rfl hS ?_
  refine skipG 7 227 (.move (.tmp 4)) 5 true false (by kernel_rfl) (by kernel_rfl) (by kernel_rfl) (by kernel_rfl) hQ (yielded_of (d := 225) (b := false) (by kernel_rfl) (by rw [Act.eval_put_ne _ _ _ _ (by omega)]; exact Act.eval_put_same _ _ _ (by first | omega | (simp only [Act.size_put]; omega))) (by first | omega | (simp only [Act.size_put]; omega))) rfl hS ?_
  refine skipG 8 228 (.move (.tmp 16)) 5 true false (by kernel_rfl) (by kernel_rfl) (by kernel_rfl) (by kernel_rfl) hQ (yielded_of (d := 225) (b := false) (by kernel_rfl) (by rw [Act.eval_put_ne _ _ _ _ (by omega)]; rw [Act.eval_put_ne _ _ _ _ (by omega)]; exact Act.eval_put_same _ _ _ (by first | omega | (simp only [Act.size_put]; omega))) (by first | omega | (simp only [Act.size_put]; omega))) rfl hS ?_
  refine skipG 9 229 (.move (.tmp 4)) 5 true false (by kernel_rfl) (by kernel_rfl) (by kernel_rfl) (by kernel_rfl) hQ (yielded_of (d := 225) (b := false) (by kernel_rfl) (by rw [Act.eval_put_ne _ _ _ _ (by omega)]; rw [Act.eval_put_ne _ _ _ _ (by omega)]; rw [Act.eval_put_ne _ _ _ _ (by omega)]; exact Act.eval_put_same _ _ _ (by first | omega | (simp only [Act.size_put]; omega))) (by first | omega | (simp only [Act.size_put]; omega))) rfl hS ?_
  refine skipG 10 230 (.indexAddr 63 (.tmp 229) (.const (.int .i64 0))) 5 true false (by kernel_rfl) (by kernel_rfl) (by kernel_rfl) (by kernel_rfl) hQ (yielded_of (d := 225) (b := false) (by kernel_rfl) (by rw [Act.eval_put_ne _ _ _ _ (by omega)]; rw [Act.eval_put_ne _ _ _ _ (by omega)]; rw [Act.eval_put_ne _ _ _ _ (by omega)]; rw [Act.eval_put_ne _ _ _ _ (by omega)]; exact Act.eval_put_same _ _ _ (by first | omega | (simp only [Act.size_put]; omega))) (by first | omega | (simp only [Act.size_put]; omega))) rfl hS ?_
  refine skipG 11 231 (.fieldAddr 51 (.tmp 230) 0) 5 true false (by kernel_rfl) (by kernel_rfl) (by kernel_rfl) (by kernel_rfl) hQ (yielded_of (d := 225) (b := false) (by kernel_rfl) (by rw [Act.eval_put_ne _ _ _ _ (by omega)]; rw [Act.eval_put_ne _ _ _ _ (by omega)]; rw [Act.eval_put_ne _ _ _ _ (by omega)]; rw [Act.eval_put_ne _ _ _ _ (by omega)]; rw [Act.eval_put_ne _ _ _ _ (by omega)]; exact Act.eval_put_same _ _ _ (by first | omega | (simp only [Act.size_put]; omega))) (by first | omega | (simp only [Act.size_put]; omega))) rfl hS ?_
  refine skipG 12 232 (.load 3 (.tmp 231)) 5 true false (by kernel_rfl) (by kernel_rfl) (by kernel_rfl) (by kernel_rfl) hQ (yielded_of (d := 225) (b := false) (by kernel_rfl) (by rw [Act.eval_put_ne _ _ _ _ (by omega)]; rw [Act.eval_put_ne _ _ _ _ (by omega)]; rw [Act.eval_put_ne _ _ _ _ (by omega)]; rw [Act.eval_put_ne _ _ _ _ (by omega)]; rw [Act.eval_put_ne _ _ _ _ (by omega)]; rw [Act.eval_put_ne _ _ _ _ (by omega)]; exact Act.eval_put_same _ _ _ (by first | omega | (simp only [Act.size_put]; omega))) (by first | omega | (simp only [Act.size_put]; omega))) rfl hS ?_
  refine skipG 13 233 (.binOp .sub 3 (.tmp 228) (.tmp 232) 3) 5 true false (by kernel_rfl) (by kernel_rfl) (by kernel_rfl) (by kernel_rfl) hQ (yielded_of (d := 225) (b := false) (by kernel_rfl) (by rw [Act.eval_put_ne _ _ _ _ (by omega)]; rw [Act.eval_put_ne _ _ _ _ (by omega)]; rw [Act.eval_put_ne _ _ _ _ (by omega)]; rw [Act.eval_put_ne _ _ _ _ (by omega)]; rw [Act.eval_put_ne _ _ _ _ (by omega)]; rw [Act.eval_put_ne _ _ _ _ (by omega)]; rw [Act.eval_put_ne _ _ _ _ (by omega)]; exact Act.eval_put_same _ _ _ (by first | omega | (simp only [Act.size_put]; omega))) (by first | omega | (simp only [Act.size_put]; omega))) rfl hS ?_
  refine skipG 14 234 (.indexAddr 63 (.tmp 227) (.tmp 233)) 5 true false (by kernel_rfl) (by kernel_rfl) (by kernel_rfl) (by kernel_rfl) hQ (yielded_of (d := 225) (b := false) (by kernel_rfl) (by rw [Act.eval_put_ne _ _ _ _ (by omega)]; rw [Act.eval_put_ne _ _ _ _ (by omega)]; rw [Act.eval_put_ne _ _ _ _ (by omega)]; rw [Act.eval_put_ne _ _ _ _ (by omega)]; rw [Act.eval_put_ne _ _ _ _ (by omega)]; rw [Act.eval_put_ne _ _ _ _ (by omega)]; rw [Act.eval_put_ne _ _ _ _ (by omega)]; rw [Act.eval_put_ne _ _ _ _ (by omega)]; exact Act.eval_put_same _ _ _ (by first | omega | (simp only [Act.size_put]; omega))) (by first | omega | (simp only [Act.size_put]; omega))) rfl hS ?_
  refine skipG 15 235 (.load 51 (.tmp 234)) 5 true false (by kernel_rfl) (by kernel_rfl) (by kernel_rfl) (by kernel_rfl) hQ (yielded_of (d := 225) (b := false) (by kernel_rfl) (by rw [Act.eval_put_ne _ _ _ _ (by omega)]; rw [Act.eval_put_ne _ _ _ _ (by omega)]; rw [Act.eval_put_ne _ _ _ _ (by omega)]; rw [Act.eval_put_ne _ _ _ _ (by omega)]; rw [Act.eval_put_ne _ _ _ _ (by omega)]; rw [Act.eval_put_ne _ _ _ _ (by omega)]; rw [Act.eval_put_ne _ _ _ _ (by omega)]; rw [Act.eval_put_ne _ _ _ _ (by omega)]; rw [Act.eval_put_ne _ _ _ _ (by omega)]; exact Act.eval_put_same _ _ _ (by first | omega | (simp only [Act.size_put]; omega))) (by first | omega | (simp only [Act.size_put]; omega))) rfl hS ?_
  refine skipG 16 236 (.binOp .neq 51 (.tmp 226) (.tmp 235) 51) 5 true false (by kernel_rfl) (by kernel_rfl) (by kernel_rfl) (by kernel_rfl) hQ (yielded_of (d := 225) (b := false) (by kernel_rfl) (by rw [Act.eval_put_ne _ _ _ _ (by omega)]; rw [Act.eval_put_ne _ _ _ _ (by omega)]; rw [Act.eval_put_ne _ _ _ _ (by omega)]; rw [Act.eval_put_ne _ _ _ _ (by omega)]; rw [Act.eval_put_ne _ _ _ _ (by omega)]; rw [Act.eval_put_ne _ _ _ _ (by omega)]; rw [Act.eval_put_ne _ _ _ _ (by omega)]; rw [Act.eval_put_ne _ _ _ _ (by omega)]; rw [Act.eval_put_ne _ _ _ _ (by omega)]; rw [Act.eval_put_ne _ _ _ _ (by omega)]; exact Act.eval_put_same _ _ _ (by first | omega | (simp only [Act.size_put]; omega))) (by first | omega | (simp only [Act.size_put]; omega))) rfl hS ?_
  refine takeG 17 237 (.pick (.tmp 225) (.tmp 236) (.const (.bool false))) (some (3, false)) (.bool false) (by kernel_rfl) (by kernel_rfl) (by kernel_rfl) (by kernel_rfl) hQ (fun g b h => by injection h with h; injection h with h1 h2; subst h1 h2; exact yielded_of (d := 223) (b := false) (by kernel_rfl) (by rw [Act.eval_put_ne _ _ _ _ (by omega)]; rw [Act.eval_put_ne _ _ _ _ (by omega)]; rw [Act.eval_put_ne _ _ _ _ (by omega)]; rw [Act.eval_put_ne _ _ _ _ (by omega)]; rw [Act.eval_put_ne _ _ _ _ (by omega)]; rw [Act.eval_put_ne _ _ _ _ (by omega)]; rw [Act.eval_put_ne _ _ _ _ (by omega)]; rw [Act.eval_put_ne _ _ _ _ (by omega)]; rw [Act.eval_put_ne _ _ _ _ (by omega)]; rw [Act.eval_put_ne _ _ _ _ (by omega)]; rw [Act.eval_put_ne _ _ _ _ (by omega)]; rw [Act.eval_put_ne _ _ _ _ (by omega)]; rw [Act.eval_put_ne _ _ _ _ (by omega)]; exact Act.eval_put_same _ _ _ (by first | omega | (simp only [Act.size_put]; omega))) (by first | omega | (simp only [Act.size_put]; omega))) (fun o ho w _ => run_pickF _ _ _ ho (by rw [Act.eval_put_ne _ _ _ _ (by omega)]; rw [Act.eval_put_ne _ _ _ _ (by omega)]; rw [Act.eval_put_ne _ _ _ _ (by omega)]; rw [Act.eval_put_ne _ _ _ _ (by omega)]; rw [Act.eval_put_ne _ _ _ _ (by omega)]; rw [Act.eval_put_ne _ _ _ _ (by omega)]; rw [Act.eval_put_ne _ _ _ _ (by omega)]; rw [Act.eval_put_ne _ _ _ _ (by omega)]; rw [Act.eval_put_ne _ _ _ _ (by omega)]; rw [Act.eval_put_ne _ _ _ _ (by omega)]; rw [Act.eval_put_ne _ _ _ _ (by omega)]; exact Act.eval_put_same _ _ _ (by first | omega | (simp only [Act.size_put]; omega))) _ rfl) hS ?_
  refine takeG 18 238 (.pick (.tmp 223) (.const (.bool true)) (.tmp 237)) none (.bool false) (by kernel_rfl) (by kernel_rfl) (by kernel_rfl) (by kernel_rfl) hQ (fun g b h => by cases h) (fun o ho w _ => run_pickF _ _ _ ho (by rw [Act.eval_put_ne _ _ _ _ (by omega)]; rw [Act.eval_put_ne _ _ _ _ (by omega)]; rw [Act.eval_put_ne _ _ _ _ (by omega)]; rw [Act.eval_put_ne _ _ _ _ (by omega)]; rw [Act.eval_put_ne _ _ _ _ (by omega)]; rw [Act.eval_put_ne _ _ _ _ (by omega)]; rw [Act.eval_put_ne _ _ _ _ (by omega)]; rw [Act.eval_put_ne _ _ _ _ (by omega)]; rw [Act.eval_put_ne _ _ _ _ (by omega)]; rw [Act.eval_put_ne _ _ _ _ (by omega)]; rw [Act.eval_put_ne _ _ _ _ (by omega)]; rw [Act.eval_put_ne _ _ _ _ (by omega)]; rw [Act.eval_put_ne _ _ _ _ (by omega)]; rw [Act.eval_put_ne _ _ _ _ (by omega)]; exact Act.eval_put_same _ _ _ (by first | omega | (simp only [Act.size_put]; omega))) _ (by exact Act.eval_put_same _ _ _ (by first | omega | (simp only [Act.size_put]; omega)))) hS ?_
  refine takeG 19 239 (.move (.tmp 238)) none (.bool false) (by kernel_rfl) (by kernel_rfl) (by kernel_rfl) (by kernel_rfl) hQ (fun g b h => by cases h) (fun o ho w _ => (BigFrame.run_move _ ho w).trans (congrArg (fun v => Result.ok (Next.value v) w) (by exact Act.eval_put_same _ _ _ (by first | omega | (simp only [Act.size_put]; omega))))) hS ?_
  refine takeG 20 240 (.move (.tmp 19)) (some (19, false)) (.bool false) (by kernel_rfl) (by kernel_rfl) (by kernel_rfl) (by kernel_rfl) hQ (fun g b h => by injection h with h; injection h with h1 h2; subst h1 h2; exact yielded_of (d := 239) (b := false) (by kernel_rfl) (by exact Act.eval_put_same _ _ _ (by first | omega | (simp only [Act.size_put]; omega))) (by first | omega | (simp only [Act.size_put]; omega))) (fun o ho w _ => (BigFrame.run_move _ ho w).trans (congrArg (fun v => Result.ok (Next.value v) w) (by rw [Act.eval_put_ne _ _ _ _ (by omega)]; rw [Act.eval_put_ne _ _ _ _ (by omega)]; rw [Act.eval_put_ne _ _ _ _ (by omega)]; rw [Act.eval_put_ne _ _ _ _ (by omega)]; rw [Act.eval_put_ne _ _ _ _ (by omega)]; rw [Act.eval_put_ne _ _ _ _ (by omega)]; rw [Act.eval_put_ne _ _ _ _ (by omega)]; rw [Act.eval_put_ne _ _ _ _ (by omega)]; rw [Act.eval_put_ne _ _ _ _ (by omega)]; rw [Act.eval_put_ne _ _ _ _ (by omega)]; rw [Act.eval_put_ne _ _ _ _ (by omega)]; rw [Act.eval_put_ne _ _ _ _ (by omega)]; rw [Act.eval_put_ne _ _ _ _ (by omega)]; rw [Act.eval_put_ne _ _ _ _ (by omega)]; rw [Act.eval_put_ne _ _ _ _ (by omega)]; rw [Act.eval_put_ne _ _ _ _ (by omega)]; rw [Act.eval_put_ne _ _ _ _ (by omega)]; rw [Act.eval_put_ne _ _ _ _ (by omega)]; rw [Act.eval_put_ne _ _ _ _ (by omega)]; rw [Act.eval_put_ne _ _ _ _ (by omega)]; exact e19))) hS ?_
  refine takeG 21 241 (.unOp .not 4 (.tmp 240)) (some (19, false)) (.bool true) (by kernel_rfl) (by kernel_rfl) (by kernel_rfl) (by kernel_rfl) hQ (fun g b h => by injection h with h; injection h with h1 h2; subst h1 h2; exact yielded_of (d := 239) (b := false) (by kernel_rfl) (by rw [Act.eval_put_ne _ _ _ _ (by omega)]; exact Act.eval_put_same _ _ _ (by first | omega | (simp only [Act.size_put]; omega))) (by first | omega | (simp only [Act.size_put]; omega))) (fun o ho w _ => run_notB _ ho false (by exact Act.eval_put_same _ _ _ (by first | omega | (simp only [Act.size_put]; omega)))) hS ?_
  refine takeG 22 242 (.move (.tmp 241)) (some (19, false)) (.bool true) (by kernel_rfl) (by kernel_rfl) (by kernel_rfl) (by kernel_rfl) hQ (fun g b h => by injection h with h; injection h with h1 h2; subst h1 h2; exact yielded_of (d := 239) (b := false) (by kernel_rfl) (by rw [Act.eval_put_ne _ _ _ _ (by omega)]; rw [Act.eval_put_ne _ _ _ _ (by omega)]; exact Act.eval_put_same _ _ _ (by first | omega | (simp only [Act.size_put]; omega))) (by first | omega | (simp only [Act.size_put]; omega))) (fun o ho w _ => (BigFrame.run_move _ ho w).trans (congrArg (fun v => Result.ok (Next.value v) w) (by exact Act.eval_put_same _ _ _ (by first | omega | (simp only [Act.size_put]; omega))))) hS ?_
  refine takeG 23 243 (.load 51 (.tmp 17)) (some (22, true)) (.agg (atS 0 0).toArray) (by kernel_rfl) (by kernel_rfl) (by kernel_rfl) (by kernel_rfl) hQ (fun g b h => by injection h with h; injection h with h1 h2; subst h1 h2; exact yielded_of (d := 242) (b := true) (by kernel_rfl) (by exact Act.eval_put_same _ _ _ (by first | omega | (simp only [Act.size_put]; omega))) (by first | omega | (simp only [Act.size_put]; omega))) (fun o ho w hw => run_load51 _ ho bx (by rw [Act.eval_put_ne _ _ _ _ (by omega)]; rw [Act.eval_put_ne _ _ _ _ (by omega)]; rw [Act.eval_put_ne _ _ _ _ (by omega)]; rw [Act.eval_put_ne _ _ _ _ (by omega)]; rw [Act.eval_put_ne _ _ _ _ (by omega)]; rw [Act.eval_put_ne _ _ _ _ (by omega)]; rw [Act.eval_put_ne _ _ _ _ (by omega)]; rw [Act.eval_put_ne _ _ _ _ (by omega)]; rw [Act.eval_put_ne _ _ _ _ (by omega)]; rw [Act.eval_put_ne _ _ _ _ (by omega)]; rw [Act.eval_put_ne _ _ _ _ (by omega)]; rw [Act.eval_put_ne _ _ _ _ (by omega)]; rw [Act.eval_put_ne _ _ _ _ (by omega)]; rw [Act.eval_put_ne _ _ _ _ (by omega)]; rw [Act.eval_put_ne _ _ _ _ (by omega)]; rw [Act.eval_put_ne _ _ _ _ (by omega)]; rw [Act.eval_put_ne _ _ _ _ (by omega)]; rw [Act.eval_put_ne _ _ _ _ (by omega)]; rw [Act.eval_put_ne _ _ _ _ (by omega)]; rw [Act.eval_put_ne _ _ _ _ (by omega)]; rw [Act.eval_put_ne _ _ _ _ (by omega)]; rw [Act.eval_put_ne _ _ _ _ (by omega)]; rw [Act.eval_put_ne _ _ _ _ (by omega)]; exact e17) (atS 0 0) (atS_ok _ _) hw) hS ?_
  refine takeG 24 244 (.build 51 #[]) (some (22, true)) (.agg (atS 0 0).toArray) (by kernel_rfl) (by kernel_rfl) (by kernel_rfl) (by kernel_rfl) hQ (fun g b h => by injection h with h; injection h with h1 h2; subst h1 h2; exact yielded_of (d := 242) (b := true) (by kernel_rfl) (by rw [Act.eval_put_ne _ _ _ _ (by omega)]; exact Act.eval_put_same _ _ _ (by first | omega | (simp only [Act.size_put]; omega))) (by first | omega | (simp only [Act.size_put]; omega))) (fun o ho w _ => run_build51 ho) hS ?_
  refine takeG 25 245 (.binOp .neq 51 (.tmp 243) (.tmp 244) 51) (some (22, true)) (.bool false) (by kernel_rfl) (by kernel_rfl) (by kernel_rfl) (by kernel_rfl) hQ (fun g b h => by injection h with h; injection h with h1 h2; subst h1 h2; exact yielded_of (d := 242) (b := true) (by kernel_rfl) (by rw [Act.eval_put_ne _ _ _ _ (by omega)]; rw [Act.eval_put_ne _ _ _ _ (by omega)]; exact Act.eval_put_same _ _ _ (by first | omega | (simp only [Act.size_put]; omega))) (by first | omega | (simp only [Act.size_put]; omega))) (fun o ho w _ => run_neq51 _ _ ho (atS 0 0) (atS_ok _ _) (by rw [Act.eval_put_ne _ _ _ _ (by omega)]; exact Act.eval_put_same _ _ _ (by first | omega | (simp only [Act.size_put]; omega))) (by exact Act.eval_put_same _ _ _ (by first | omega | (simp only [Act.size_put]; omega)))) hS ?_
  refine takeG 26 246 (.pick (.tmp 242) (.tmp 245) (.const (.bool false))) (some (19, false)) (.bool false) (by kernel_rfl) (by kernel_rfl) (by kernel_rfl) (by kernel_rfl) hQ (fun g b h => by injection h with h; injection h with h1 h2; subst h1 h2; exact yielded_of (d := 239) (b := false) (by kernel_rfl) (by rw [Act.eval_put_ne _ _ _ _ (by omega)]; rw [Act.eval_put_ne _ _ _ _ (by omega)]; rw [Act.eval_put_ne _ _ _ _ (by omega)]; rw [Act.eval_put_ne _ _ _ _ (by omega)]; rw [Act.eval_put_ne _ _ _ _ (by omega)]; rw [Act.eval_put_ne _ _ _ _ (by omega)]; exact Act.eval_put_same _ _ _ (by first | omega | (simp only [Act.size_put]; omega))) (by first | omega | (simp only [Act.size_put]; omega))) (fun o ho w _ => run_pickT _ _ _ ho (by rw [Act.eval_put_ne _ _ _ _ (by omega)]; rw [Act.eval_put_ne _ _ _ _ (by omega)]; rw [Act.eval_put_ne _ _ _ _ (by omega)]; exact Act.eval_put_same _ _ _ (by first | omega | (simp only [Act.size_put]; omega))) _ (by exact Act.eval_put_same _ _ _ (by first | omega | (simp only [Act.size_put]; omega)))) hS ?_
  refine takeG 27 247 (.pick (.tmp 239) (.const (.bool true)) (.tmp 246)) none (.bool false) (by kernel_rfl) (by kernel_rfl) (by kernel_rfl) (by kernel_rfl) hQ (fun g b h => by cases h) (fun o ho w _ => run_pickF _ _ _ ho (by rw [Act.eval_put_ne _ _ _ _ (by omega)]; rw [Act.eval_put_ne _ _ _ _ (by omega)]; rw [Act.eval_put_ne _ _ _ _ (by omega)]; rw [Act.eval_put_ne _ _ _ _ (by omega)]; rw [Act.eval_put_ne _ _ _ _ (by omega)]; rw [Act.eval_put_ne _ _ _ _ (by omega)]; rw [Act.eval_put_ne _ _ _ _ (by omega)]; exact Act.eval_put_same _ _ _ (by first | omega | (simp only [Act.size_put]; omega))) _ (by exact Act.eval_put_same _ _ _ (by first | omega | (simp only [Act.size_put]; omega)))) hS ?_
  exact wpAnyH_done (by kernel_rfl) (NoPanic.normal (hK _ _ _ _ _ _ _ _ _ _ _ _ _ _ _ _ _ _ _ _ _ _ _ _ _ _ _)) _
end
end Go.Proofs.Ytodidkjajkjlaaa.RingRep
