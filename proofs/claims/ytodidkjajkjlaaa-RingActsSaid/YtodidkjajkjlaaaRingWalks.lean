/- What the ring's methods do to a ring that lies in memory (contracts; a ring that can be read). -/
import Derived.Test.YtodidkjajkjlaaaRingRep
namespace Go.Proofs.Ytodidkjajkjlaaa.RingRep
open Go.RowKit Go.Proofs.YtodidkjajkjlaaaW.PrintWords Go.Proofs.YtodidkjajkjlaaaW.PrintLast
set_option linter.unusedVariables false
set_option linter.unusedSimpArgs false

theorem below_drewN {B : Nat} {w w' : World} (h : Below B w w') (n : Nat) : Below B w (w'.drewN n) := pw_below_drewN h n

set_option maxHeartbeats 4000000 in
set_option maxRecDepth 100000 in
theorem count_calls (g : Nat) (S : List (List Value)) (f n : Int) (w : World) (hr : RingAt w g S f n) :
    Calls Try.prog 34 #[.pointer (some ⟨g, 0, none⟩)] w fun e w' => e = .returned (.int .i64 n) ∧ Aside0 (Below w.heap.size w w') := by
  have h1 := hr.count
  clear hr
  go_enter Try.func34, Try.ntmps34
  go_wp2
  go_ret
  exact ⟨rfl, ⟨Below.refl _ _⟩⟩

def newest (f n : Int) : Int := if n = 0 then -1 else f + n - 1

set_option maxHeartbeats 4000000 in
set_option maxRecDepth 100000 in
theorem newest_calls (g : Nat) (S : List (List Value)) (f n : Int) (w : World) (hr : RingAt w g S f n) (hb : 0 ≤ f ∧ f ≤ 1000000000000000 ∧ 0 ≤ n ∧ n ≤ 17) :
    Calls Try.prog 33 #[.pointer (some ⟨g, 0, none⟩)] w fun e w' => e = .returned (.int .i64 (newest f n)) ∧ Aside0 (Below w.heap.size w w') := by
  have h1 := hr.count
  have h2 := hr.first
  clear hr
  obtain ⟨b1, b2, b3, b4⟩ := hb
  by_cases h0 : n = 0
  · subst h0
    go_enter Try.func33, Try.ntmps33
    go_wp2
    go_ret
    exact ⟨rfl, ⟨Below.refl _ _⟩⟩
  · have hz : (n == 0) = false := by simp [h0]
    have hres : newest f n = f + n - 1 := by unfold newest; rw [if_neg h0]
    have HRES := Aside0.mk hres
    clear hres
    go_enter Try.func33, Try.ntmps33
    go_wp2
    go_quiet (fail)
    go_wp2
    go_ret
    exact ⟨by rw [HRES.out]; rfl, ⟨below_drewN (Below.refl _ _) _⟩⟩

end Go.Proofs.Ytodidkjajkjlaaa.RingRep
namespace Go.Proofs.Ytodidkjajkjlaaa.RingRep
open Go.RowKit Go.Proofs.YtodidkjajkjlaaaW.PrintWords Go.Proofs.YtodidkjajkjlaaaW.PrintLast

/-- The state of a frame and a number: all else is nothing. -/
def atS (f n : Int) : List Value := .int .i64 f :: .int .u64 n :: List.replicate 200 (.int .i64 0)
theorem atS_ok (f n : Int) : okS (atS f n) := by
  refine ⟨by rw [atS, List.length_cons, List.length_cons, List.length_replicate], fun v hv => ?_⟩
  simp only [atS, List.mem_cons, List.mem_replicate] at hv
  rcases hv with rfl | rfl | ⟨_, rfl⟩
  · exact ⟨_, _, rfl⟩
  · exact ⟨_, _, rfl⟩
  · exact ⟨_, _, rfl⟩
theorem built51 (f n : Int) : Try.prog.built 51 [(0, .int .i64 f), (1, .int .u64 n)] = some (atS f n).toArray := by kernel_rfl
theorem built51z : Try.prog.built 51 [] = some (atS 0 0).toArray := by kernel_rfl

theorem zv51 (w : World) : (zeroValue 51).run Try.prog w = .ok (.agg (atS 0 0).toArray) w := by kernel_rfl

theorem wpList_build51 {ops : Array Oper} {rest : List Oper} {o : Oper} {a : Act} {w : World} {Q : Exit → Act → World → Prop} (hg : o.guard = none) (parts : Array (Nat × Operand)) (ho : o.op = .build 51 parts) (l : List (Nat × Value))
    (hp : (parts.map fun (i, x) => (i, a.eval x)).toList = l) (s : List Value) (hb : Try.prog.built 51 l = some s.toArray)
    (h : wpList Try.prog ops Q rest (a.put o.dst (.agg s.toArray)) w) : wpList Try.prog ops Q (o :: rest) a w := by
  refine wpList_build hg 51 parts ho (by rw [hp, hb]; rfl) ?_
  rw [hp, hb]
  exact h

theorem size51 {s : List Value} (h : okS s) : (Try.prog.info? 51).map (·.size) = some s.toArray.size := by
  rw [List.size_toArray, h.1]; kernel_rfl

/-- A whole state stored into a block of its own. -/
theorem wpList_store51 {ops : Array Oper} {rest : List Oper} {op : Oper} {a : Act} {w : World} {Q : Exit → Act → World → Prop} (hgd : op.guard = none) (x y : Operand) (ho : op.op = .store 51 x y)
    (g : Nat) (s : List Value) (hx : a.eval x = .pointer (some ⟨g, 0, none⟩)) (hy : a.eval y = .agg s.toArray) (old : List Value) (hg : w.heap[g]? = some (.cells old.toArray 51 (0, 0))) (hold : okS old) (hs : okS s)
    (h : (w.setRow g s.toArray).heap[g]? = some (.cells s.toArray 51 (0, 0)) → wpList Try.prog ops Q rest (a.put op.dst undef) (w.setRow g s.toArray)) : wpList Try.prog ops Q (op :: rest) a w :=
  wpList_store_row hgd 51 x y ho g s.toArray hx hy 51 old.toArray hg (size51 hs) (by rw [List.size_toArray, List.size_toArray, hold.1, hs.1]) hs.one (h (setRow_heap w g _ _ 51 _ hg))

theorem below_setRow {B : Nat} {w w1 : World} (h : Below B w w1) {g : Nat} (hg : B ≤ g) (cs : Array Value) : Below B w (w1.setRow g cs) :=
  ⟨by rw [setRow_os]; exact h.os, by rw [setRow_tape]; exact h.tape, by rw [setRow_output]; exact h.output, by rw [setRow_size]; exact h.size, fun k hk => by rw [setRow_other w1 g k cs (by omega)]; exact h.block k hk⟩

set_option maxHeartbeats 4000000 in
set_option maxRecDepth 100000 in
theorem at_calls (f n : Int) (w : World) :
    Calls Try.prog 32 #[.int .i64 f, .int .i64 n] w fun e w' => e = .returned (.agg (atS f (IntKind.u64.wrap n)).toArray) ∧ Aside0 (Below w.heap.size w w') := by
  have hz := zv51
  have HG := Aside0.mk (heap_alloc_new w (.cells (atS 0 0).toArray 51))
  go_enter Try.func32, Try.ntmps32
  go_wp2_with (refine wpList_store51 rfl _ _ rfl w.heap.size (atS f (IntKind.u64.wrap n)) rfl rfl (atS 0 0) HG.out (atS_ok _ _) (atS_ok _ _) ?_; intro hg; have HS := Aside0.mk hg; clear hg)
  exact bodyPost_ret (results_cell_row rfl _ _ w.heap.size 51 _ (0, 0) _ rfl HS.out Try.underlying51 rfl (size51 (atS_ok _ _))) rfl ⟨rfl, ⟨below_setRow ((Below.refl _ _).alloc (Nat.le_refl _) _) (Nat.le_refl _) _⟩⟩

/-- Two results: a struct in a cell, and a slot. -/
theorem results_cell_tmp {P : Program} {fn : Func} {p t : Tmp} {ty : TypeId} (h : fn.results = #[.cell p ty, .tmp t]) (tmps : Array Value) (w : World) (g : Nat) (e : TypeId) (cs : Array Value) (fr : Nat × Nat) (d : TypeDesc)
    (hp : tmps.getD p undef = .pointer (some ⟨g, 0, none⟩)) (hg : w.heap[g]? = some (.cells cs e fr))
    (hu : P.underlying ty = some d) (hd : (match d with | .struct _ | .array _ _ => true | _ => false) = true) (hi : (P.info? ty).map (·.size) = some cs.size) :
    (results fn tmps).run P w = .ok (.tuple #[.agg cs, tmps.getD t undef]) w := by
  have hp' : tmps[p]?.getD undef = .pointer (some ⟨g, 0, none⟩) := by simpa using hp
  simp [results, h, hp', asAddr, run_loadVar_row w g e ty cs fr d hg hu hd hi]

/-- What Get answers. -/
def getS (S : List (List Value)) (f n x : Int) : List Value := if x < f ∨ f + n ≤ x then atS 0 0 else S.getD (x % 17).toNat []
def getB (f n x : Int) : Bool := !(decide (x < f) || decide (f + n ≤ x))

set_option maxHeartbeats 4000000 in
set_option maxRecDepth 100000 in
theorem get_no (g : Nat) (S : List (List Value)) (f n x : Int) (w : World) (hr : RingAt w g S f n) (hb : 0 ≤ f ∧ f ≤ 1000000000000000 ∧ 0 ≤ n ∧ n ≤ 17) (hx : x < f ∨ f + n ≤ x) :
    Calls Try.prog 35 #[.pointer (some ⟨g, 0, none⟩), .int .i64 x] w fun e w' => e = .returned (.tuple #[.agg (atS 0 0).toArray, .bool false]) ∧ Aside0 (Below w.heap.size w w') := by
  have hz := zv51
  have h1 := hr.count
  have h2 := hr.first
  have h1' := (hr.alloc (.cells (atS 0 0).toArray 51)).count
  have h2' := (hr.alloc (.cells (atS 0 0).toArray 51)).first
  have hlt := hr.lt
  clear hr
  obtain ⟨b1, b2, b3, b4⟩ := hb
  have HG := Aside0.mk (fun k => blk_drewN (heap_alloc_new w (.cells (atS 0 0).toArray 51)) k)
  by_cases c : x < f
  · have cb : decide (x < f) = true := decide_eq_true c
    clear hx c
    go_enter Try.func35, Try.ntmps35
    go_wp2
    go_quiet (fail)
    go_wp2_with (refine wpList_store51 rfl _ _ rfl w.heap.size (atS 0 0) rfl rfl (atS 0 0) (HG.out _) (atS_ok _ _) (atS_ok _ _) ?_; intro hg; have HS := Aside0.mk hg; clear hg)
    exact bodyPost_ret (results_cell_tmp rfl _ _ w.heap.size 51 _ (0, 0) _ rfl HS.out Try.underlying51 rfl (size51 (atS_ok _ _))) rfl ⟨rfl, ⟨below_setRow (below_drewN ((Below.refl _ _).alloc (Nat.le_refl _) _) _) (Nat.le_refl _) _⟩⟩
  · have cb : decide (x < f) = false := decide_eq_false c
    have c2 : f + n ≤ x := by omega
    have cb2 : decide (f + n ≤ x) = true := decide_eq_true c2
    clear hx c c2
    go_enter Try.func35, Try.ntmps35
    go_wp2
    go_quiet (fail)
    go_wp2_with (refine wpList_store51 rfl _ _ rfl w.heap.size (atS 0 0) rfl rfl (atS 0 0) (HG.out _) (atS_ok _ _) (atS_ok _ _) ?_; intro hg; have HS := Aside0.mk hg; clear hg)
    exact bodyPost_ret (results_cell_tmp rfl _ _ w.heap.size 51 _ (0, 0) _ rfl HS.out Try.underlying51 rfl (size51 (atS_ok _ _))) rfl ⟨rfl, ⟨below_setRow (below_drewN ((Below.refl _ _).alloc (Nat.le_refl _) _) _) (Nat.le_refl _) _⟩⟩

set_option maxHeartbeats 4000000 in
set_option maxRecDepth 100000 in
theorem get_yes (g : Nat) (S : List (List Value)) (f n x : Int) (w : World) (hr : RingAt w g S f n) (hb : 0 ≤ f ∧ f ≤ 1000000000000000 ∧ 0 ≤ n ∧ n ≤ 17) (hx : f ≤ x) (hx2 : x < f + n) :
    Calls Try.prog 35 #[.pointer (some ⟨g, 0, none⟩), .int .i64 x] w fun e w' => e = .returned (.tuple #[.agg (S.getD (x % 17).toNat []).toArray, .bool true]) ∧ Aside0 (Below w.heap.size w w') := by
  have hz := zv51
  have h1' := (hr.alloc (.cells (atS 0 0).toArray 51)).count
  have h2' := (hr.alloc (.cells (atS 0 0).toArray 51)).first
  have HR := Aside0.mk hr
  have hlt := hr.lt
  clear hr
  obtain ⟨b1, b2, b3, b4⟩ := hb
  have HG := Aside0.mk (fun k => blk_drewN (heap_alloc_new w (.cells (atS 0 0).toArray 51)) k)
  have hx0 : 0 ≤ x := by omega
  have hi : (x % 17).toNat < 17 := by omega
  have HI := Aside0.mk hi
  have cb : decide (x < f) = false := decide_eq_false (by omega)
  have cb2 : decide (f + n ≤ x) = false := decide_eq_false (by omega)
  have hm0 : 0 ≤ x % 17 := by omega
  have hm1 : x % 17 < 17 := by omega
  clear hi
  go_enter Try.func35, Try.ntmps35
  go_wp2
  go_quiet (fail)
  have HRG := Aside0.mk (((HR.out.alloc (.cells (atS 0 0).toArray 51)).drewN nq).range HI.out)
  have HOK := Aside0.mk (HR.out.get_ok HI.out)
  have HSZ : Aside0 ((Try.prog.info? 51).map (·.size) = some (S.getD (x % 17).toNat []).length) := ⟨by rw [HOK.out.1]; kernel_rfl⟩
  go_wp2_with (first
    | (refine wpList_load_mid rfl 51 _ rfl g ((x % 17).toNat * 202) rfl (S.getD (x % 17).toNat []) _ HRG.out Try.underlying51 rfl HSZ.out ?_)
    | (refine wpList_store51 rfl _ _ rfl w.heap.size (S.getD (x % 17).toNat []) rfl rfl (atS 0 0) (HG.out _) (atS_ok _ _) HOK.out ?_; intro hg; have HS := Aside0.mk hg; clear hg))
  exact bodyPost_ret (results_cell_tmp rfl _ _ w.heap.size 51 _ (0, 0) _ rfl HS.out Try.underlying51 rfl (size51 HOK.out)) rfl ⟨rfl, ⟨below_setRow (below_drewN ((Below.refl _ _).alloc (Nat.le_refl _) _) _) (Nat.le_refl _) _⟩⟩

/-! Get, in one form. -/
theorem get_calls (g : Nat) (S : List (List Value)) (f n x : Int) (w : World) (hr : RingAt w g S f n) (hb : 0 ≤ f ∧ f ≤ 1000000000000000 ∧ 0 ≤ n ∧ n ≤ 17) (s : List Value) (b : Bool) (hs : getS S f n x = s) (hbb : getB f n x = b) :
    Calls Try.prog 35 #[.pointer (some ⟨g, 0, none⟩), .int .i64 x] w fun e w' => e = .returned (.tuple #[.agg s.toArray, .bool b]) ∧ Aside0 (Below w.heap.size w w') := by
  subst hs hbb
  by_cases hx : x < f ∨ f + n ≤ x
  · have e1 : getS S f n x = atS 0 0 := if_pos hx
    have e2 : getB f n x = false := by unfold getB; rcases hx with h | h <;> simp [h]
    rw [e1, e2]
    exact get_no g S f n x w hr hb hx
  · have e1 : getS S f n x = S.getD (x % 17).toNat [] := if_neg hx
    have e2 : getB f n x = true := by
      unfold getB
      rw [decide_eq_false (show ¬ x < f by omega), decide_eq_false (show ¬ f + n ≤ x by omega)]; rfl
    rw [e1, e2]
    exact get_yes g S f n x w hr hb (by omega) (by omega)
end Go.Proofs.Ytodidkjajkjlaaa.RingRep
