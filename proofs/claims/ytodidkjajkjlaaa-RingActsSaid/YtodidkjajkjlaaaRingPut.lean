/- What Put and Cut do to a ring that lies in memory (contracts; a ring that can be read). -/
import Derived.Test.YtodidkjajkjlaaaRingWalks
namespace Go.Proofs.Ytodidkjajkjlaaa.RingRep
open Go.RowKit Go.Proofs.YtodidkjajkjlaaaW.PrintWords Go.Proofs.YtodidkjajkjlaaaW.PrintLast
set_option linter.unusedVariables false
set_option linter.unusedSimpArgs false

/-- Nothing but block g (and what is new) has changed. -/
structure Only (g : Nat) (w w' : World) : Prop where
  os : w'.os = w.os
  tape : w'.tape = w.tape
  output : w'.output = w.output
  size : w.heap.size ≤ w'.heap.size
  block : ∀ k, k < w.heap.size → k ≠ g → w'.heap[k]? = w.heap[k]?

theorem Only.of_below {g : Nat} {w w' : World} (h : Below w.heap.size w w') : Only g w w' := ⟨h.os, h.tape, h.output, h.size, fun k hk _ => h.block k hk⟩
theorem Only.below {g B : Nat} {w w' : World} (h : Only g w w') (hg : B ≤ g) (hB : B ≤ w.heap.size) : Below B w w' := ⟨h.os, h.tape, h.output, h.size, fun k hk => h.block k (by omega) (by omega)⟩
theorem Only.drewN {g : Nat} {w w' : World} (h : Only g w w') (n : Nat) : Only g w (w'.drewN n) := by
  have hb := below_drewN (Below.refl w'.heap.size w') n
  exact ⟨hb.os.trans h.os, hb.tape.trans h.tape, hb.output.trans h.output, Nat.le_trans h.size hb.size, fun k hk hne => (hb.block k (Nat.lt_of_lt_of_le hk h.size)).trans (h.block k hk hne)⟩
theorem Only.drew {g : Nat} {w w' : World} (h : Only g w w') : Only g w w'.drew := ⟨h.os, h.tape, h.output, h.size, h.block⟩
theorem Only.alloc {g : Nat} {w w' : World} (h : Only g w w') (o : Obj) : Only g w (w'.alloc o) := by
  have hb := (Below.refl w'.heap.size w').alloc (Nat.le_refl _) o
  exact ⟨hb.os.trans h.os, hb.tape.trans h.tape, hb.output.trans h.output, Nat.le_trans h.size hb.size, fun k hk hne => (hb.block k (Nat.lt_of_lt_of_le hk h.size)).trans (h.block k hk hne)⟩
theorem Only.set_ {g : Nat} {w w' : World} (h : Only g w w') (j : Nat) (v : Value) : Only g w (w'.setCell ⟨g, j, none⟩ v) :=
  ⟨h.os, h.tape, h.output, by simpa [World.setCell] using h.size, fun k hk hne => (Below.heap_setCell w' ⟨g, j, none⟩ v k hne).trans (h.block k hk hne)⟩
theorem setCells_os : ∀ (vs : List Value) (w : World) (g o : Nat), (w.setCells g o vs).os = w.os ∧ (w.setCells g o vs).tape = w.tape ∧ (w.setCells g o vs).output = w.output
  | [], w, g, o => ⟨rfl, rfl, rfl⟩
  | v :: vs, w, g, o => by
    rw [World.setCells]
    exact setCells_os vs _ g (o + 1)
theorem Only.sets {g : Nat} {w w' : World} (h : Only g w w') (o : Nat) (vs : List Value) : Only g w (w'.setCells g o vs) :=
  ⟨(setCells_os vs w' g o).1.trans h.os, (setCells_os vs w' g o).2.1.trans h.tape, (setCells_os vs w' g o).2.2.trans h.output, by rw [size_setCells]; exact h.size,
   fun k hk hne => (other_setCells vs w' g o k hne).trans (h.block k hk hne)⟩

def cutN (f n x : Int) : Int := if x < f then 0 else if x < newest f n then x - f + 1 else n

set_option maxHeartbeats 4000000 in
set_option maxRecDepth 100000 in
theorem cut_calls (g : Nat) (S : List (List Value)) (f n x : Int) (w : World) (hr : RingAt w g S f n) (hb : 0 ≤ f ∧ f ≤ 1000000000000000 ∧ 0 ≤ n ∧ n ≤ 17) :
    Calls Try.prog 36 #[.pointer (some ⟨g, 0, none⟩), .int .i64 x] w fun e w' => e = .returned (.tuple #[]) ∧ Aside0 (RingAt w' g S f (cutN f n x)) ∧ Aside0 (Only g w w') := by
  have h1 := hr.count
  have h2 := hr.first
  have f1 := hr.frozen 3434
  have f2 := hr.frozen 3435
  have HR := Aside0.mk hr
  have HNB := Aside0.mk hb
  clear hr
  obtain ⟨b1, b2, b3, b4⟩ := hb
  by_cases c : x < f
  · have cb : decide (x < f) = true := decide_eq_true c
    have hres : cutN f n x = 0 := by unfold cutN; rw [if_pos c]
    have HRES := Aside0.mk hres
    clear c hres
    go_enter Try.func36, Try.ntmps36
    go_wp2
    go_end0
    exact ⟨rfl, ⟨by rw [HRES.out]; exact HR.out.setCount 0⟩, ⟨(Only.of_below (Below.refl _ _)).set_ _ _⟩⟩
  · have cb : decide (x < f) = false := decide_eq_false c
    have hcx : f ≤ x := by omega
    have hnb : -1 ≤ newest f n ∧ newest f n ≤ 1000000000000100 := by unfold newest; split <;> omega
    by_cases c2 : x < newest f n
    · have cb2 : decide (x < newest f n) = true := decide_eq_true c2
      have hres : cutN f n x = x - f + 1 := by unfold cutN; rw [if_neg c, if_pos c2]
      have HRES := Aside0.mk hres
      clear c hres
      go_enter Try.func36, Try.ntmps36
      go_wp2_with (go_at_call 33; (with_reducible refine (newest_calls g S f n _ HR.out HNB.out).mono ?_); rintro e w1 ⟨rfl, HB⟩; have HR1 := Aside0.mk (HR.out.below HB.out HR.out.lt); have k1 := HR1.out.count; have k2 := HR1.out.first; have k3 := HR1.out.frozen 3435)
      go_end0
      exact ⟨rfl, ⟨by rw [HRES.out]; exact HR1.out.setCount _⟩, ⟨(Only.of_below HB.out).set_ _ _⟩⟩
    · have cb2 : decide (x < newest f n) = false := decide_eq_false c2
      have hres : cutN f n x = n := by unfold cutN; rw [if_neg c, if_neg c2]
      have HRES := Aside0.mk hres
      clear c hres
      go_enter Try.func36, Try.ntmps36
      go_wp2_with (go_at_call 33; (with_reducible refine (newest_calls g S f n _ HR.out HNB.out).mono ?_); rintro e w1 ⟨rfl, HB⟩; have HR1 := Aside0.mk (HR.out.below HB.out HR.out.lt))
      go_end0
      exact ⟨rfl, ⟨by rw [HRES.out]; exact HR1.out⟩, ⟨Only.of_below HB.out⟩⟩

theorem load_struck {w : World} {b : Nat} {s : List Value} (h : w.heap[b]? = some (.cells s.toArray 51 (0, 0))) (hs : s.length = 202) :
    (loadVar 51 ⟨b, 0, none⟩).run Try.prog { heap := w.heap, tape := w.tape, drawn := w.drawn + 1, os := w.os, output := w.output } = .ok (.agg s.toArray) { heap := w.heap, tape := w.tape, drawn := w.drawn + 1, os := w.os, output := w.output } := by
  have hl : w.drew.rangeAt b 0 s := fun j v hv => by
    rw [cell_of_row w.drew b (0 + j) s.toArray 51 (0, 0) h]
    simpa using hv
  exact run_loadVar_mid w.drew b 0 51 s _ hl Try.underlying51 rfl (by rw [hs]; kernel_rfl)

/-- A whole state is loaded, in a region that draws its order. -/
theorem wpStill_load {P : Program} {ops : Array Oper} {w : World} {Q : Act → Prop} {a : Act} {o : Oper} {rest : List Oper} (hw : Region.wanted o (yielded ops a.tmps) = true) (ty : TypeId) (x : Operand) (ho : o.op = .load ty x) (b : Nat) (hx : a.eval x = .pointer (some ⟨b, 0, none⟩)) (s : Array Value)
    (hl : (loadVar ty ⟨b, 0, none⟩).run P w = .ok (.agg s) w) (h : wpStill P ops w Q rest (a.put o.dst (.agg s))) : wpStill P ops w Q (o :: rest) a := by
  refine wpStill_step fun K hK => ?_
  rw [if_pos hw]
  unfold Oper.still execOp
  simp only [ho, hx, Instr.loadAt, Instr.sureAddr, Sem.run_bind, Sem.run_pure, Result.andThen_ok, hl]
  exact ⟨rfl, hK _ h⟩

theorem blk_far1 {w : World} {b g : Nat} {o : Obj} (h : w.heap[b]? = some o) (hg : b ≠ g) (j : Nat) (v : Value) : (w.setCell ⟨g, j, none⟩ v).heap[b]? = some o := (Below.heap_setCell w ⟨g, j, none⟩ v b hg).trans h
theorem blk_far2 {w : World} {g : Nat} (hg : g < w.heap.size) (o : Obj) (j k : Nat) (u v : Value) : (((w.alloc o).setCell ⟨g, j, none⟩ u).setCell ⟨g, k, none⟩ v).heap[w.heap.size]? = some o :=
  blk_far1 (blk_far1 (heap_alloc_new w o) (by omega) j u) (by omega) k v

set_option maxHeartbeats 4000000 in
set_option maxRecDepth 100000 in
theorem put_over (g : Nat) (S : List (List Value)) (f n x : Int) (st : List Value) (w : World) (hr : RingAt w g S f n) (hst : okS st) (hb : 0 ≤ f ∧ f ≤ 1000000000000000 ∧ 1 ≤ n ∧ n ≤ 17) (hx : f ≤ x) (hx2 : x < f + n) :
    Calls Try.prog 31 #[.pointer (some ⟨g, 0, none⟩), .int .i64 x, .agg st.toArray] w fun e w' => e = .returned (.bool true) ∧ Aside0 (RingAt w' g (S.set (x % 17).toNat st) f n) ∧ Aside0 (Only g w w') := by
  have h1' := (hr.alloc (.cells st.toArray 51)).count
  have h2' := (hr.alloc (.cells st.toArray 51)).first
  have h3' := (hr.alloc (.cells st.toArray 51)).frozen 3434
  have h4' := (hr.alloc (.cells st.toArray 51)).frozen 3435
  have HR := Aside0.mk hr
  have HST := Aside0.mk hst
  clear hr hst
  obtain ⟨b1, b2, b3, b4⟩ := hb
  have hx0 : 0 ≤ x := by omega
  have het : x.tmod 17 = x % 17 := Int.tmod_eq_emod_of_nonneg hx0
  have HET := Aside0.mk het
  have hi : (x.tmod 17).toNat < 17 := by rw [het]; omega
  have hm0 : 0 ≤ x.tmod 17 := by rw [het]; omega
  have hm1 : x.tmod 17 < 17 := by rw [het]; omega
  clear het
  have HI := Aside0.mk hi
  have cb0 : decide (x < 0) = false := decide_eq_false (by omega)
  have cb1 : (n == 0) = false := by simp; omega
  have cb2 : (x == f + n) = false := by simp; omega
  have cb : decide (x < f) = false := decide_eq_false (by omega)
  have cb3 : decide (f + n < x) = false := decide_eq_false (by omega)
  have cb4 : decide (17 < n) = false := decide_eq_false (by omega)
  clear hi
  go_enter Try.func31, Try.ntmps31
  go_wp2
  go_quiet (fail)
  have HW0 := Aside0.mk ((HR.out.alloc (.cells st.toArray 51)).drewN nq)
  have HBX0 := Aside0.mk (blk_drewN (heap_alloc_new w (.cells st.toArray 51)) nq)
  have HON0 := Aside0.mk (((Only.of_below (g := g) (Below.refl w.heap.size w)).alloc (.cells st.toArray 51)).drewN nq)
  go_wp2
  go_quiet (fail)
  have HW := Aside0.mk (HW0.out.drewN nq)
  have HBX := Aside0.mk (blk_drewN HBX0.out nq)
  have HON := Aside0.mk (HON0.out.drewN nq)
  clear HW0 HBX0 HON0
  go_wp2
  generalize World.drewN _ nq = w1 at HW HBX HON ⊢
  have HLD := load_struck HBX.out HST.out.1
  have HT := Aside0.mk (HW.out.drew.there HI.out)
  have HSZ : Aside0 ((Try.prog.info? 51).map (·.size) = some st.toArray.size) := ⟨size51 HST.out⟩
  have HLEN : Aside0 (st.toArray.size = 202) := ⟨by rw [List.size_toArray]; exact HST.out.1⟩
  refine wp_region_still_tail 7 (by kernel_rfl) (by kernel_rfl) ?_
  simp only [List.take_succ_cons, List.take_zero, List.drop_succ_cons, List.drop_zero]
  iterate 3 still_step
  refine wpStill_load rfl 51 _ rfl w.heap.size rfl st.toArray HLD ?_
  iterate 3 still_step
  refine wpStill_nil ?_
  refine wpList_store_mid rfl 51 _ _ rfl g ((x.tmod 17).toNat * 202) st.toArray rfl rfl (by rw [HLEN.out]; exact HT.out) HSZ.out HST.out.one ?_
  obtain ⟨w2, hw2⟩ : ∃ w2, w2 = (World.setCells { heap := w1.heap, tape := w1.tape, drawn := w1.drawn + 1, os := w1.os, output := w1.output } g ((x.tmod 17).toNat * 202) st.toArray.toList) := ⟨_, rfl⟩
  rw [← hw2]
  have HW2 : Aside0 (RingAt w2 g (S.set (x.tmod 17).toNat st) f n) := ⟨by rw [hw2, List.toList_toArray]; exact HW.out.drew.put HI.out HST.out⟩
  have HON2 : Aside0 (Only g w w2) := ⟨by rw [hw2]; exact HON.out.drew.sets _ _⟩
  clear hw2 HLD
  have k1 := HW2.out.count
  have k2 := HW2.out.first
  have k3 := HW2.out.frozen 3434
  have k4 := HW2.out.frozen 3435
  go_wp2
  go_ret
  exact ⟨rfl, ⟨by rw [← HET.out]; exact HW2.out⟩, ⟨HON2.out⟩⟩

set_option maxHeartbeats 4000000 in
set_option maxRecDepth 100000 in
theorem put_new (g : Nat) (S : List (List Value)) (f n x : Int) (st : List Value) (w : World) (hr : RingAt w g S f n) (hst : okS st) (hb : 0 ≤ n ∧ n ≤ 17 ∧ 0 ≤ n ∧ n ≤ 17) (hx : 0 ≤ x) (hx2 : x ≤ 1000000000000000) (hn : n = 0) :
    Calls Try.prog 31 #[.pointer (some ⟨g, 0, none⟩), .int .i64 x, .agg st.toArray] w fun e w' => e = .returned (.bool true) ∧ Aside0 (RingAt w' g (S.set (x % 17).toNat st) x 1) ∧ Aside0 (Only g w w') := by
  have h1' := (hr.alloc (.cells st.toArray 51)).count
  have h2' := (hr.alloc (.cells st.toArray 51)).first
  have h3' := (hr.alloc (.cells st.toArray 51)).frozen 3434
  have h4' := (hr.alloc (.cells st.toArray 51)).frozen 3435
  have HR := Aside0.mk hr
  have HST := Aside0.mk hst
  clear hr hst
  obtain ⟨b1, b2, b3, b4⟩ := hb
  have hx0 : 0 ≤ x := by omega
  have het : x.tmod 17 = x % 17 := Int.tmod_eq_emod_of_nonneg hx0
  have HET := Aside0.mk het
  have hi : (x.tmod 17).toNat < 17 := by rw [het]; omega
  have hm0 : 0 ≤ x.tmod 17 := by rw [het]; omega
  have hm1 : x.tmod 17 < 17 := by rw [het]; omega
  clear het
  have HI := Aside0.mk hi
  have cb0 : decide (x < 0) = false := decide_eq_false (by omega)
  subst hn
  have cb4 : decide ((17 : Int) < 1) = false := by decide
  clear hi
  go_enter Try.func31, Try.ntmps31
  go_wp2
  have HW := Aside0.mk ((((HR.out.alloc (.cells st.toArray 51))).setFirst x).setCount 1)
  have HBX := Aside0.mk (blk_far2 HR.out.lt (.cells st.toArray 51) 3434 3435 (.int .i64 x) (.int .i64 1))
  have HON := Aside0.mk ((((Only.of_below (g := g) (Below.refl w.heap.size w)).alloc (.cells st.toArray 51)).set_ 3434 (.int .i64 x)).set_ 3435 (.int .i64 1))
  generalize World.setCell _ _ _ = w1 at HW HBX HON ⊢
  have HLD := load_struck HBX.out HST.out.1
  have HT := Aside0.mk (HW.out.drew.there HI.out)
  have HSZ : Aside0 ((Try.prog.info? 51).map (·.size) = some st.toArray.size) := ⟨size51 HST.out⟩
  have HLEN : Aside0 (st.toArray.size = 202) := ⟨by rw [List.size_toArray]; exact HST.out.1⟩
  refine wp_region_still_tail 7 (by kernel_rfl) (by kernel_rfl) ?_
  simp only [List.take_succ_cons, List.take_zero, List.drop_succ_cons, List.drop_zero]
  iterate 3 still_step
  refine wpStill_load rfl 51 _ rfl w.heap.size rfl st.toArray HLD ?_
  iterate 3 still_step
  refine wpStill_nil ?_
  refine wpList_store_mid rfl 51 _ _ rfl g ((x.tmod 17).toNat * 202) st.toArray rfl rfl (by rw [HLEN.out]; exact HT.out) HSZ.out HST.out.one ?_
  obtain ⟨w2, hw2⟩ : ∃ w2, w2 = (World.setCells { heap := w1.heap, tape := w1.tape, drawn := w1.drawn + 1, os := w1.os, output := w1.output } g ((x.tmod 17).toNat * 202) st.toArray.toList) := ⟨_, rfl⟩
  rw [← hw2]
  have HW2 : Aside0 (RingAt w2 g (S.set (x.tmod 17).toNat st) x 1) := ⟨by rw [hw2, List.toList_toArray]; exact HW.out.drew.put HI.out HST.out⟩
  have HON2 : Aside0 (Only g w w2) := ⟨by rw [hw2]; exact HON.out.drew.sets _ _⟩
  clear hw2 HLD
  have k1 := HW2.out.count
  have k2 := HW2.out.first
  have k3 := HW2.out.frozen 3434
  have k4 := HW2.out.frozen 3435
  go_wp2
  go_ret
  exact ⟨rfl, ⟨by rw [← HET.out]; exact HW2.out⟩, ⟨HON2.out⟩⟩

set_option maxHeartbeats 4000000 in
set_option maxRecDepth 100000 in
theorem put_next (g : Nat) (S : List (List Value)) (f n x : Int) (st : List Value) (w : World) (hr : RingAt w g S f n) (hst : okS st) (hb : 0 ≤ f ∧ f ≤ 1000000000000000 ∧ 1 ≤ n ∧ n ≤ 17) (hx : x = f + n) (hn : n < 17) :
    Calls Try.prog 31 #[.pointer (some ⟨g, 0, none⟩), .int .i64 x, .agg st.toArray] w fun e w' => e = .returned (.bool true) ∧ Aside0 (RingAt w' g (S.set (x % 17).toNat st) f (n + 1)) ∧ Aside0 (Only g w w') := by
  have h1' := (hr.alloc (.cells st.toArray 51)).count
  have h2' := (hr.alloc (.cells st.toArray 51)).first
  have h3' := (hr.alloc (.cells st.toArray 51)).frozen 3434
  have h4' := (hr.alloc (.cells st.toArray 51)).frozen 3435
  have HR := Aside0.mk hr
  have HST := Aside0.mk hst
  clear hr hst
  obtain ⟨b1, b2, b3, b4⟩ := hb
  have hx0 : 0 ≤ x := by omega
  have het : x.tmod 17 = x % 17 := Int.tmod_eq_emod_of_nonneg hx0
  have HET := Aside0.mk het
  have hi : (x.tmod 17).toNat < 17 := by rw [het]; omega
  have hm0 : 0 ≤ x.tmod 17 := by rw [het]; omega
  have hm1 : x.tmod 17 < 17 := by rw [het]; omega
  clear het
  have HI := Aside0.mk hi
  have cb0 : decide (x < 0) = false := decide_eq_false (by omega)
  have cb1 : (n == 0) = false := by simp; omega
  have cb2 : (x == f + n) = true := by simp [hx]
  have HX := Aside0.mk hx
  clear hx
  have cb4 : decide (17 < n + 1) = false := decide_eq_false (by omega)
  clear hi
  go_enter Try.func31, Try.ntmps31
  go_wp2
  go_quiet (fail)
  have HW0 := Aside0.mk ((HR.out.alloc (.cells st.toArray 51)).drewN nq)
  have HBX0 := Aside0.mk (blk_drewN (heap_alloc_new w (.cells st.toArray 51)) nq)
  have HON0 := Aside0.mk (((Only.of_below (g := g) (Below.refl w.heap.size w)).alloc (.cells st.toArray 51)).drewN nq)
  have HW := Aside0.mk (HW0.out.setCount (n + 1))
  have HBX := Aside0.mk (blk_far1 HBX0.out (g := g) (by have := HR.out.lt; omega) 3435 (.int .i64 (n + 1)))
  have HON := Aside0.mk (HON0.out.set_ 3435 (.int .i64 (n + 1)))
  clear HW0 HBX0 HON0 -- SETS
  go_wp2
  generalize World.setCell _ _ _ = w1 at HW HBX HON ⊢
  have HLD := load_struck HBX.out HST.out.1
  have HT := Aside0.mk (HW.out.drew.there HI.out)
  have HSZ : Aside0 ((Try.prog.info? 51).map (·.size) = some st.toArray.size) := ⟨size51 HST.out⟩
  have HLEN : Aside0 (st.toArray.size = 202) := ⟨by rw [List.size_toArray]; exact HST.out.1⟩
  refine wp_region_still_tail 7 (by kernel_rfl) (by kernel_rfl) ?_
  simp only [List.take_succ_cons, List.take_zero, List.drop_succ_cons, List.drop_zero]
  iterate 3 still_step
  refine wpStill_load rfl 51 _ rfl w.heap.size rfl st.toArray HLD ?_
  iterate 3 still_step
  refine wpStill_nil ?_
  refine wpList_store_mid rfl 51 _ _ rfl g ((x.tmod 17).toNat * 202) st.toArray rfl rfl (by rw [HLEN.out]; exact HT.out) HSZ.out HST.out.one ?_
  obtain ⟨w2, hw2⟩ : ∃ w2, w2 = (World.setCells { heap := w1.heap, tape := w1.tape, drawn := w1.drawn + 1, os := w1.os, output := w1.output } g ((x.tmod 17).toNat * 202) st.toArray.toList) := ⟨_, rfl⟩
  rw [← hw2]
  have HW2 : Aside0 (RingAt w2 g (S.set (x.tmod 17).toNat st) f (n + 1)) := ⟨by rw [hw2, List.toList_toArray]; exact HW.out.drew.put HI.out HST.out⟩
  have HON2 : Aside0 (Only g w w2) := ⟨by rw [hw2]; exact HON.out.drew.sets _ _⟩
  clear hw2 HLD
  have k1 := HW2.out.count
  have k2 := HW2.out.first
  have k3 := HW2.out.frozen 3434
  have k4 := HW2.out.frozen 3435
  go_wp2
  go_ret
  exact ⟨rfl, ⟨by rw [← HET.out]; exact HW2.out⟩, ⟨HON2.out⟩⟩

set_option maxHeartbeats 4000000 in
set_option maxRecDepth 100000 in
theorem put_full (g : Nat) (S : List (List Value)) (f n x : Int) (st : List Value) (w : World) (hr : RingAt w g S f n) (hst : okS st) (hb : 0 ≤ f ∧ f ≤ 1000000000000000 ∧ 1 ≤ n ∧ n ≤ 17) (hx : x = f + n) (hn : n = 17) :
    Calls Try.prog 31 #[.pointer (some ⟨g, 0, none⟩), .int .i64 x, .agg st.toArray] w fun e w' => e = .returned (.bool true) ∧ Aside0 (RingAt w' g (S.set (x % 17).toNat st) (f + 1) 17) ∧ Aside0 (Only g w w') := by
  have h1' := (hr.alloc (.cells st.toArray 51)).count
  have h2' := (hr.alloc (.cells st.toArray 51)).first
  have h3' := (hr.alloc (.cells st.toArray 51)).frozen 3434
  have h4' := (hr.alloc (.cells st.toArray 51)).frozen 3435
  have HR := Aside0.mk hr
  have HST := Aside0.mk hst
  clear hr hst
  obtain ⟨b1, b2, b3, b4⟩ := hb
  have hx0 : 0 ≤ x := by omega
  have het : x.tmod 17 = x % 17 := Int.tmod_eq_emod_of_nonneg hx0
  have HET := Aside0.mk het
  have hi : (x.tmod 17).toNat < 17 := by rw [het]; omega
  have hm0 : 0 ≤ x.tmod 17 := by rw [het]; omega
  have hm1 : x.tmod 17 < 17 := by rw [het]; omega
  clear het
  have HI := Aside0.mk hi
  have cb0 : decide (x < 0) = false := decide_eq_false (by omega)
  have cb1 : (n == 0) = false := by simp; omega
  have cb2 : (x == f + n) = true := by simp [hx]
  have HX := Aside0.mk hx
  clear hx
  have HN := Aside0.mk hn
  have hn1 : 17 ≤ n := by omega
  have cb4 : decide (17 < n + 1) = true := decide_eq_true (by omega)
  clear hn
  clear hi
  go_enter Try.func31, Try.ntmps31
  go_wp2
  go_quiet (fail)
  have HW0 := Aside0.mk ((HR.out.alloc (.cells st.toArray 51)).drewN nq)
  have HBX0 := Aside0.mk (blk_drewN (heap_alloc_new w (.cells st.toArray 51)) nq)
  have HON0 := Aside0.mk (((Only.of_below (g := g) (Below.refl w.heap.size w)).alloc (.cells st.toArray 51)).drewN nq)
  have HW := Aside0.mk (HW0.out.setCount (n + 1))
  have HBX := Aside0.mk (blk_far1 HBX0.out (g := g) (by have := HR.out.lt; omega) 3435 (.int .i64 (n + 1)))
  have HON := Aside0.mk (HON0.out.set_ 3435 (.int .i64 (n + 1)))
  clear HW0 HBX0 HON0 -- SETS
  go_wp2
  generalize World.setCell _ _ _ = w1 at HW HBX HON ⊢
  have HLD := load_struck HBX.out HST.out.1
  have HT := Aside0.mk (HW.out.drew.there HI.out)
  have HSZ : Aside0 ((Try.prog.info? 51).map (·.size) = some st.toArray.size) := ⟨size51 HST.out⟩
  have HLEN : Aside0 (st.toArray.size = 202) := ⟨by rw [List.size_toArray]; exact HST.out.1⟩
  refine wp_region_still_tail 7 (by kernel_rfl) (by kernel_rfl) ?_
  simp only [List.take_succ_cons, List.take_zero, List.drop_succ_cons, List.drop_zero]
  iterate 3 still_step
  refine wpStill_load rfl 51 _ rfl w.heap.size rfl st.toArray HLD ?_
  iterate 3 still_step
  refine wpStill_nil ?_
  refine wpList_store_mid rfl 51 _ _ rfl g ((x.tmod 17).toNat * 202) st.toArray rfl rfl (by rw [HLEN.out]; exact HT.out) HSZ.out HST.out.one ?_
  obtain ⟨w2, hw2⟩ : ∃ w2, w2 = (World.setCells { heap := w1.heap, tape := w1.tape, drawn := w1.drawn + 1, os := w1.os, output := w1.output } g ((x.tmod 17).toNat * 202) st.toArray.toList) := ⟨_, rfl⟩
  rw [← hw2]
  have HW2 : Aside0 (RingAt w2 g (S.set (x.tmod 17).toNat st) f (n + 1)) := ⟨by rw [hw2, List.toList_toArray]; exact HW.out.drew.put HI.out HST.out⟩
  have HON2 : Aside0 (Only g w w2) := ⟨by rw [hw2]; exact HON.out.drew.sets _ _⟩
  clear hw2 HLD
  have k1 := HW2.out.count
  have k2 := HW2.out.first
  have k3 := HW2.out.frozen 3434
  have k4 := HW2.out.frozen 3435
  go_wp2
  go_ret
  exact ⟨rfl, ⟨by rw [← HET.out]; exact (HW2.out.setFirst (f + 1)).setCount 17⟩, ⟨(HON2.out.set_ _ _).set_ _ _⟩⟩

set_option maxHeartbeats 4000000 in
set_option maxRecDepth 100000 in
theorem put_neg (g : Nat) (S : List (List Value)) (f n x : Int) (st : List Value) (w : World) (hr : RingAt w g S f n) (hx : x < 0) :
    Calls Try.prog 31 #[.pointer (some ⟨g, 0, none⟩), .int .i64 x, .agg st.toArray] w fun e w' => e = .returned (.bool false) ∧ Aside0 (RingAt w' g S f n) ∧ Aside0 (Only g w w') := by
  have HR := Aside0.mk hr
  have cb0 : decide (x < 0) = true := decide_eq_true hx
  clear hr hx
  go_enter Try.func31, Try.ntmps31
  go_wp2
  go_ret
  exact ⟨rfl, ⟨HR.out.alloc _⟩, ⟨(Only.of_below (Below.refl _ _)).alloc _⟩⟩

set_option maxHeartbeats 4000000 in
set_option maxRecDepth 100000 in
theorem put_far (g : Nat) (S : List (List Value)) (f n x : Int) (st : List Value) (w : World) (hr : RingAt w g S f n) (hb : 0 ≤ f ∧ f ≤ 1000000000000000 ∧ 1 ≤ n ∧ n ≤ 17) (hx0 : 0 ≤ x) (hx : x < f ∨ f + n < x) :
    Calls Try.prog 31 #[.pointer (some ⟨g, 0, none⟩), .int .i64 x, .agg st.toArray] w fun e w' => e = .returned (.bool false) ∧ Aside0 (RingAt w' g S f n) ∧ Aside0 (Only g w w') := by
  have h1' := (hr.alloc (.cells st.toArray 51)).count
  have h2' := (hr.alloc (.cells st.toArray 51)).first
  have HR := Aside0.mk hr
  clear hr
  obtain ⟨b1, b2, b3, b4⟩ := hb
  have cb0 : decide (x < 0) = false := decide_eq_false (by omega)
  have cb1 : (n == 0) = false := by simp; omega
  have cb2 : (x == f + n) = false := by simp; omega
  by_cases c : x < f
  · have cb : decide (x < f) = true := decide_eq_true c
    clear hx
    go_enter Try.func31, Try.ntmps31
    go_wp2
    go_quiet (fail)
    have HW0 := Aside0.mk ((HR.out.alloc (.cells st.toArray 51)).drewN nq)
    have HON0 := Aside0.mk (((Only.of_below (g := g) (Below.refl w.heap.size w)).alloc (.cells st.toArray 51)).drewN nq)
    go_wp2
    go_quiet (fail)
    go_wp2
    go_ret
    exact ⟨rfl, ⟨HW0.out.drewN _⟩, ⟨HON0.out.drewN _⟩⟩
  · have cb : decide (x < f) = false := decide_eq_false c
    have c2 : f + n < x := by omega
    have cb3 : decide (f + n < x) = true := decide_eq_true c2
    clear hx c c2
    go_enter Try.func31, Try.ntmps31
    go_wp2
    go_quiet (fail)
    have HW0 := Aside0.mk ((HR.out.alloc (.cells st.toArray 51)).drewN nq)
    have HON0 := Aside0.mk (((Only.of_below (g := g) (Below.refl w.heap.size w)).alloc (.cells st.toArray 51)).drewN nq)
    go_wp2
    go_quiet (fail)
    go_wp2
    go_ret
    exact ⟨rfl, ⟨HW0.out.drewN _⟩, ⟨HON0.out.drewN _⟩⟩

/-! Put, in one form. -/
structure Ring where
  S : List (List Value)
  f : Int
  n : Int

def Ring.putOk (r : Ring) (x : Int) : Bool := decide (0 ≤ x) && (r.n == 0 || (decide (r.f ≤ x) && decide (x ≤ r.f + r.n)))
def Ring.put (r : Ring) (x : Int) (s : List Value) : Ring :=
  if r.putOk x = true then
    ⟨r.S.set (x % 17).toNat s, if r.n = 0 then x else if x = r.f + r.n ∧ r.n = 17 then r.f + 1 else r.f, if r.n = 0 then 1 else if x = r.f + r.n ∧ r.n < 17 then r.n + 1 else r.n⟩
  else r
/-- A ring that lies in memory, within bounds. -/
structure Ring.At (r : Ring) (w : World) (g : Nat) : Prop where
  at_ : RingAt w g r.S r.f r.n
  f0 : 0 ≤ r.f
  f1 : r.f ≤ 900000000000000
  n0 : 0 ≤ r.n
  n1 : r.n ≤ 17

theorem put_calls (g : Nat) (r : Ring) (x : Int) (st : List Value) (w : World) (hr : r.At w g) (hst : okS st) (hx : x ≤ 900000000000000) (b : Bool) (hb : r.putOk x = b) :
    Calls Try.prog 31 #[.pointer (some ⟨g, 0, none⟩), .int .i64 x, .agg st.toArray] w fun e w' => e = .returned (.bool b) ∧ Aside0 (RingAt w' g (r.put x st).S (r.put x st).f (r.put x st).n) ∧ Aside0 (Only g w w') := by
  subst hb
  obtain ⟨h, f0, f1, n0, n1⟩ := hr
  obtain ⟨S, f, n⟩ := r
  simp only at h f0 f1 n0 n1
  by_cases h0 : x < 0
  · have e : Ring.putOk ⟨S, f, n⟩ x = false := by simp [Ring.putOk]; omega
    have e2 : Ring.put ⟨S, f, n⟩ x st = ⟨S, f, n⟩ := by rw [Ring.put, e]; simp
    rw [e, e2]
    exact put_neg g S f n x st w h h0
  by_cases hn : n = 0
  · have e : Ring.putOk ⟨S, f, n⟩ x = true := by simp [Ring.putOk, hn]; omega
    have e2 : Ring.put ⟨S, f, n⟩ x st = ⟨S.set (x % 17).toNat st, x, 1⟩ := by rw [Ring.put, if_pos e]; simp [hn]
    rw [e, e2]
    exact put_new g S f n x st w h hst ⟨n0, n1, n0, n1⟩ (by omega) (by omega) hn
  by_cases hf : x < f ∨ f + n < x
  · have e : Ring.putOk ⟨S, f, n⟩ x = false := by simp [Ring.putOk, hn]; omega
    have e2 : Ring.put ⟨S, f, n⟩ x st = ⟨S, f, n⟩ := by rw [Ring.put, e]; simp
    rw [e, e2]
    exact put_far g S f n x st w h ⟨f0, by omega, by omega, n1⟩ (by omega) hf
  have e : Ring.putOk ⟨S, f, n⟩ x = true := by simp [Ring.putOk, hn]; omega
  by_cases hx1 : x = f + n
  · by_cases h17 : n = 17
    · have e2 : Ring.put ⟨S, f, n⟩ x st = ⟨S.set (x % 17).toNat st, f + 1, 17⟩ := by rw [Ring.put, if_pos e]; simp [hn, hx1, h17]
      rw [e, e2]
      exact put_full g S f n x st w h hst ⟨f0, by omega, by omega, n1⟩ hx1 h17
    · have e2 : Ring.put ⟨S, f, n⟩ x st = ⟨S.set (x % 17).toNat st, f, n + 1⟩ := by rw [Ring.put, if_pos e]; simp [hn, hx1, h17]; omega
      rw [e, e2]
      exact put_next g S f n x st w h hst ⟨f0, by omega, by omega, n1⟩ hx1 (by omega)
  · have e2 : Ring.put ⟨S, f, n⟩ x st = ⟨S.set (x % 17).toNat st, f, n⟩ := by rw [Ring.put, if_pos e]; simp [hn, hx1]
    rw [e, e2]
    exact put_over g S f n x st w h hst ⟨f0, by omega, by omega, n1⟩ (by omega) (by omega)
end Go.Proofs.Ytodidkjajkjlaaa.RingRep
