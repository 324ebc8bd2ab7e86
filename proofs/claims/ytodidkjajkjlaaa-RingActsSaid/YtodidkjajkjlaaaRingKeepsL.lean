/- RingKeeps answers true for every input (the walk; no conditions). -/
import Derived.Test.YtodidkjajkjlaaaRingEq
import Derived.Test.YtodidkjajkjlaaaGuessStaysL
namespace Go.Proofs.Ytodidkjajkjlaaa.RingRep
open Go.RowKit Go.Proofs.YtodidkjajkjlaaaW.PrintWords Go.Proofs.YtodidkjajkjlaaaW.PrintLast Go.Proofs.YtodidkjajkjlaaaW.PrintMore
open Go.Proofs.Ytodidkjajkjlaaa.PGuessTells
open Go.Proofs.Ytodidkjajkjlaaa.Alike (pick_some pick_calls)
attribute [local go_sem] max2_int min2_int
set_option linter.unusedVariables false
set_option linter.unusedSimpArgs false

section
variable {ops : Array Oper} {rest : List Oper} {op : Oper} {a : Act} {w : World} {Q : Exit → Act → World → Prop}
theorem wpList_want {P : Program} (hw : Region.wanted op (yielded ops a.tmps) = true) (h : op.wp P a w (wpList P ops Q rest) Q) : wpList P ops Q (op :: rest) a w := by
  unfold wpList
  rw [if_pos hw]
  exact .inl h
theorem wpList_load51 (hw : Region.wanted op (yielded ops a.tmps) = true) (x : Operand) (ho : op.op = .load 51 x) (g : Nat) (hx : a.eval x = .pointer (some ⟨g, 0, none⟩)) (s : List Value) (hg : w.heap[g]? = some (.cells s.toArray 51 (0, 0))) (hs : okS s)
    (h : wpList Try.prog ops Q rest (a.put op.dst (.agg s.toArray)) w) : wpList Try.prog ops Q (op :: rest) a w :=
  wpList_want hw (wp_load_row 51 x ho g hx 51 s.toArray (0, 0) _ hg Try.underlying51 rfl (size51 hs) h)
theorem wpList_neq51 (hw : Region.wanted op (yielded ops a.tmps) = true) (x y : Operand) (ho : op.op = .binOp .neq 51 x y 51) (s : List Value) (hx : a.eval x = .agg s.toArray) (hy : a.eval y = .agg s.toArray) (hs : okS s)
    (h : wpList Try.prog ops Q rest (a.put op.dst (.bool false)) w) : wpList Try.prog ops Q (op :: rest) a w := by
  refine wpList_want hw ?_
  unfold Oper.wp execOp
  simp only [ho, hx, hy, Sem.run_bind, run_eqGuard_agg (P := Try.prog) w .neq 51 x y s.toArray s.toArray (by kernel_rfl), Result.andThen_ok, run_neq_self s hs w]
  exact h
end

theorem newest_step (F : Int) (k : Nat) : newest (fk F (k + 1)) (nk (k + 1)) = F + k := by
  unfold newest fk nk
  by_cases h : k + 1 ≤ 17
  · rw [if_pos h, if_neg (by omega), if_neg (by omega), if_pos h]; omega
  · rw [if_neg h, if_neg (by omega), if_neg (by omega), if_neg h]; omega
theorem min_step (k : Nat) : (if (17 : Int) < (k : Int) + 1 then 17 else (k : Int) + 1) = nk (k + 1) := by
  unfold nk
  by_cases h : k + 1 ≤ 17
  · rw [if_pos h, if_neg (by omega)]; omega
  · rw [if_neg h, if_pos (by omega)]

theorem Sk_len (F : Int) (k : Nat) : (Sk F k).length = 17 := by
  induction k with
  | zero => simp [Sk, S0]
  | succ k ih => simp [Sk, ih]

/-- What was put last into a slot is there. -/
theorem Sk_get (F : Int) (hF : 0 ≤ F) (N : Nat) : ∀ j : Nat, j < N → N ≤ j + 17 → (Sk F N).getD ((F + j) % 17).toNat [] = atS (F + j) j := by
  induction N with
  | zero => intro j h; omega
  | succ N ih =>
    intro j hj hN
    have hl : ((F + N) % 17).toNat < (Sk F N).length := by rw [Sk_len]; omega
    by_cases h : j = N
    · subst h
      show ((Sk F j).set _ _).getD _ [] = _
      simp [List.getD, hl]
    · have hne : ((F + N) % 17).toNat ≠ ((F + j) % 17).toNat := by omega
      show ((Sk F N).set _ _).getD _ [] = _
      rw [List.getD, List.getElem?_set_ne hne, ← List.getD]
      exact ih j (by omega) (by omega)

/-- What Get answers behind n puts and one that was put anew. -/
theorem keeps_get (F : Int) (hF : 0 ≤ F) (N : Nat) (hN : 1 ≤ N) (K : Int) (a : Nat) (ha : a < N) (ha2 : a < 17) (hK : K = F + N - 1 - a) (D : Int) (j : Nat) (hj : j < N) :
    getB (fk F N) (nk N) (F + j) = decide (N ≤ j + 17) ∧
    getS ((Sk F N).set (K % 17).toNat (atS K D)) (fk F N) (nk N) (F + j) = if N ≤ j + 17 then (if F + j = K then atS K D else atS (F + j) j) else atS 0 0 := by
  have hf : fk F N = if N ≤ 17 then F else F + N - 17 := by unfold fk; rw [if_neg (by omega)]
  have hn : nk N = if N ≤ 17 then (N : Int) else 17 := rfl
  have hc : (F + j < fk F N ∨ fk F N + nk N ≤ F + j) ↔ ¬ N ≤ j + 17 := by
    rw [hf, hn]
    by_cases h : N ≤ 17
    · rw [if_pos h, if_pos h]; omega
    · rw [if_neg h, if_neg h]; omega
  refine ⟨?_, ?_⟩
  · unfold getB
    by_cases h : N ≤ j + 17
    · rw [decide_eq_true h]
      have h1 := mt hc.1 (by simpa using h)
      rw [decide_eq_false (show ¬ F + j < fk F N by omega), decide_eq_false (show ¬ fk F N + nk N ≤ F + j by omega)]; rfl
    · rw [decide_eq_false h]
      rcases hc.2 h with h1 | h1 <;> simp [h1]
  · unfold getS
    by_cases h : N ≤ j + 17
    · rw [if_neg (mt hc.1 (by simpa using h)), if_pos h]
      by_cases e : F + j = K
      · rw [if_pos e, e]
        have hl : (K % 17).toNat < (Sk F N).length := by rw [Sk_len]; omega
        simp [List.getD, hl]
      · rw [if_neg e]
        have hne : (K % 17).toNat ≠ ((F + j) % 17).toNat := by omega
        rw [List.getD, List.getElem?_set_ne hne, ← List.getD]
        exact Sk_get F hF N j hj h
    · rw [if_pos (hc.2 h), if_neg h]

theorem put_none (S : List (List Value)) (f n x : Int) (s : List Value) (h : Ring.putOk ⟨S, f, n⟩ x = false) : Ring.put ⟨S, f, n⟩ x s = ⟨S, f, n⟩ := by rw [Ring.put, h]; simp
/-- A block that is none of the ring's stays as it was. -/
theorem keep_other {w w' : World} {g b : Nat} {o : Obj} (h : Only g w w') (hb : w.heap[b]? = some o) (hne : b ≠ g) : w'.heap[b]? = some o := h.blk hb hne
theorem blk_lt {w : World} {b : Nat} {o : Obj} (hb : w.heap[b]? = some o) : b < w.heap.size := by
  rcases Nat.lt_or_ge b w.heap.size with hlt | hge
  · exact hlt
  · rw [Array.getElem?_eq_none hge] at hb; cases hb
theorem blk_ne {w : World} {b : Nat} {o : Obj} (hb : w.heap[b]? = some o) : b ≠ w.heap.size := Nat.ne_of_lt (blk_lt hb)

theorem pickK (g : Nat) (S : List (List Value)) (f n : Int) (x m r : Int) (w : World) (hr : RingAt w g S f n) (h : doubletakehand_Pick.f x m = some r) :
    Calls Try.prog 21 #[.int .i64 x, .int .i64 m] w fun e w' => e = .returned (.int .i64 r) ∧ Aside0 (RingAt w' g S f n) ∧ Aside0 (Only g w w') :=
  (pick_calls x m r w h).mono fun e w' ⟨he, hB⟩ => ⟨he, ⟨hr.below hB.out hr.lt⟩, ⟨Only.of_below hB.out⟩⟩

set_option maxHeartbeats 8000000 in
set_option maxRecDepth 100000 in
theorem keeps_calls (x0 x1 x2 x3 : Int) (w : World) : Calls Try.prog 11 #[.int .i64 x0, .int .i64 x1, .int .i64 x2, .int .i64 x3] w fun e w' => e = .returned (.bool true) ∧ Below w.heap.size w w' := by
  have hz := zv54
  have hz1 := zv51
  obtain ⟨F, hF, hF0, hF1⟩ := pick_some x0 1000 (by omega) (by omega)
  obtain ⟨p, hp, hp0, hp1⟩ := pick_some x1 60 (by omega) (by omega)
  obtain ⟨N, hN⟩ : ∃ N : Nat, (N : Int) = 1 + p := ⟨(1 + p).toNat, by omega⟩
  obtain ⟨M, hM⟩ : ∃ M : Int, (if (17 : Int) < 1 + p then 17 else 1 + p) = M := ⟨_, rfl⟩
  have hM0 : 0 < M ∧ M ≤ 17 ∧ M ≤ 1 + p := by rw [← hM]; split <;> omega
  obtain ⟨q, hq, hq0, hq1⟩ := pick_some x2 M (by omega) (by omega)
  have HF := Aside0.mk hF
  have HP := Aside0.mk hp
  have HQ := Aside0.mk hq
  have HN := Aside0.mk hN
  obtain ⟨hM1, hM2, hM3⟩ := hM0
  clear hF hp hq hN
  go_enter Try.func11, Try.ntmps11
  go_wp2_with (first
    | (go_at_call 30; (with_reducible refine (known_calls _).mono ?_); rintro e w1 ⟨rfl, HB1⟩; have H1 := Aside0.mk (ring_new w1); have X1 := Aside0.mk (Only.of_below (g := w1.heap.size) ((Below.refl w1.heap.size w1).alloc (Nat.le_refl _) (.cells (ringC S0 0 0).toArray 54))))
    | (go_at_call 21; (with_reducible refine (pickK _ S0 0 0 x0 1000 F _ H1.out HF.out).mono ?_); rintro e w2 ⟨rfl, H2, X2⟩)
    | (go_at_call 21; (with_reducible refine (pickK _ S0 0 0 x1 60 p _ H2.out HP.out).mono ?_); rintro e w3 ⟨rfl, H3, X3⟩))
  have Y3 := Aside0.mk ((X1.out.trans X2.out).trans X3.out)
  have HB1' := HB1
  go_loopg [10] N (fun kq v10 wr => ∃ k : Nat, v10 = .int .i64 k ∧ Aside0 (k + kq = N) ∧ Aside0 (RingAt wr w1.heap.size (Sk F k) (fk F k) (nk k)) ∧ Aside0 (Only w1.heap.size w1 wr))
  case atStart => exact ⟨0, rfl, ⟨by omega⟩, H3, Y3⟩
  case round =>
    obtain ⟨k, rfl, HK, HR, X⟩ := hrel
    cases gk with
    | zero =>
      have hkN : k = N := by have := HK.out; omega
      subst hkN
      have hlt : decide ((k : Int) < 1 + p) = false := decide_eq_false (by have := HN.out; omega)
      clear HK
      obtain ⟨K, hK⟩ : ∃ K : Int, F + (1 + p) - 1 - q = K := ⟨_, rfl⟩
      have hK0 : 0 ≤ K ∧ K ≤ 2000 := by omega
      obtain ⟨D, hD⟩ : ∃ D : Int, IntKind.u64.wrap x3 = D := ⟨_, rfl⟩
      have HKK := Aside0.mk hK
      have HMM := Aside0.mk hM
      have HD := Aside0.mk hD
      have hin : fk F k ≤ K ∧ K < fk F k + nk k := by
        have h1 := HN.out
        have h2 : M = nk k := by rw [← hM]; unfold nk; split <;> split <;> omega
        unfold fk
        rw [if_neg (by omega)]
        have h3 : nk k = if k ≤ 17 then (k : Int) else 17 := rfl
        split
        · rename_i h4; rw [if_pos h4] at h3; omega
        · rename_i h4; rw [if_neg h4] at h3; omega
      have hput := put_in (Sk F k) (fk F k) (nk k) K (atS K D) hK0.1 hin.1 hin.2
      have hok := (putOk_iff (Sk F k) (fk F k) (nk k) K).2 ⟨hK0.1, .inr ⟨hin.1, by omega⟩⟩
      have HPUT := Aside0.mk hput
      have HOK := Aside0.mk hok
      have HBD := Aside0.mk (fk_bd F hF0 (by omega) k (by have := HN.out; omega))
      clear hput hok hin hD
      go_wp2_with (first
        | (go_at_call 21; (with_reducible refine (pickK _ (Sk F k) (fk F k) (nk k) x2 M q _ HR.out HQ.out).mono ?_); rintro e w4 ⟨rfl, H4, X4⟩)
        | (go_at_call 32; (with_reducible refine (atK _ (Sk F k) (fk F k) (nk k) K x3 D HD.out _ H4.out).mono ?_); rintro e w5 ⟨rfl, H5, X5⟩)
        | (go_at_call 31; (with_reducible refine (putK _ (Sk F k) ((Sk F k).set (K % 17).toNat (atS K D)) (fk F k) (nk k) (fk F k) (nk k) K (atS K D) true _ H5.out (atS_ok _ _) HBD.out (by omega) HOK.out HPUT.out).mono ?_); rintro e w6 ⟨rfl, H6, X6⟩))
      have HBK : Aside0 (0 ≤ fk F k ∧ fk F k ≤ 1000000000000000 ∧ 0 ≤ nk k ∧ nk k ≤ 17) := ⟨by have := HBD.out; omega⟩
      have YX := Aside0.mk (((X.out.trans X4.out).trans X5.out).trans X6.out)
      obtain ⟨qn, hqn⟩ : ∃ qn : Nat, q = qn := ⟨q.toNat, by omega⟩
      have HKQ : Aside0 (K = F + k - 1 - qn ∧ qn < k ∧ qn < 17) := ⟨by have := HN.out; omega⟩
      have hk1 : 1 ≤ k := by have := HN.out; omega
      have hk60 : k ≤ 60 := by have := HN.out; omega
      clear hqn hK
      go_loopg [12] k (fun kq v12 wr2 => ∃ j : Nat, v12 = .int .i64 j ∧ Aside0 (j + kq = k) ∧ Aside0 (RingAt wr2 w1.heap.size ((Sk F k).set (K % 17).toNat (atS K D)) (fk F k) (nk k)) ∧ Aside0 (Only w1.heap.size w1 wr2))
      case atStart => exact ⟨0, rfl, ⟨by omega⟩, H6, YX⟩
      case round =>
        obtain ⟨j, rfl, HJ, HR2, X2⟩ := hrel
        cases gk with
        | zero =>
          have hjk : j = k := by have := HJ.out; omega
          subst hjk
          have hlt2 : decide ((j : Int) < 1 + p) = false := hlt
          have hnew : newest (fk F j) (nk j) = F + (1 + p) - 1 := by
            have h1 := newest_step F (j - 1)
            have h2 : j - 1 + 1 = j := by omega
            rw [h2] at h1
            rw [h1]
            have := HN.out
            omega
          have HNEW := Aside0.mk hnew
          have hno : Ring.putOk ⟨((Sk F j).set (K % 17).toNat (atS K D)), fk F j, nk j⟩ (F + (1 + p) + 1) = false := by
            rw [← Bool.not_eq_true, putOk_iff]
            have h3 := HN.out
            have h4 : fk F j + nk j = F + j := by
              unfold fk nk
              rw [if_neg (by omega)]
              split <;> omega
            have h5 : 1 ≤ nk j := by unfold nk; split <;> omega
            omega
          have hyes : Ring.putOk ⟨((Sk F j).set (K % 17).toNat (atS K D)), fk F j, nk j⟩ (F + (1 + p)) = true := by
            rw [putOk_iff]
            have h3 := HN.out
            have h4 : fk F j + nk j = F + j := by
              unfold fk nk
              rw [if_neg (by omega)]
              split <;> omega
            have h5 := HBD.out
            have h6 : 0 ≤ nk j := by omega
            omega
          have HNO := Aside0.mk hno
          have HYES := Aside0.mk hyes
          clear hnew hno hyes
          go_wp2_with (first
            | (go_at_call 33; (with_reducible refine (newestK _ _ (fk F j) (nk j) (F + (1 + p) - 1) _ HR2.out HBK.out HNEW.out).mono ?_); rintro e v1 ⟨rfl, G1, Z1⟩)
            | (go_at_call 31; (with_reducible refine (putK _ _ ((Sk F j).set (K % 17).toNat (atS K D)) (fk F j) (nk j) (fk F j) (nk j) (F + (1 + p) + 1) (atS 0 0) false _ G1.out (atS_ok _ _) HBD.out (by omega) HNO.out (put_none _ _ _ _ _ HNO.out)).mono ?_); rintro e v2 ⟨rfl, G2, Z2⟩)
            | (go_at_call 31; (with_reducible refine (putK _ _ _ (fk F j) (nk j) _ _ (F + (1 + p)) (atS 0 0) true _ G2.out (atS_ok _ _) HBD.out (by omega) HYES.out rfl).mono ?_); rintro e v3 ⟨rfl, G3, Z3⟩))
          go_ret
          exact ⟨rfl, HB1.out.trans (((((X2.out.trans Z1.out).trans Z2.out).trans Z3.out).below (Nat.le_refl _) (Nat.le_refl _)).mono HB1.out.size)⟩
        | succ k2 =>
          have hj : j < k := by have := HJ.out; omega
          have hltj : decide ((j : Int) < 1 + p) = true := decide_eq_true (by have := HN.out; omega)
          have HWU := Aside0.mk (wrapU j (by omega))
          have hFj : 0 ≤ F + j := by omega
          have hj60 : j < 60 := by omega
          obtain ⟨hkb, hks⟩ := keeps_get F hF0 k hk1 K qn HKQ.out.2.1 HKQ.out.2.2 HKQ.out.1 D j hj
          by_cases hb : k ≤ j + 17
          · have cb : decide (1 + p - 17 ≤ (j : Int)) = true := decide_eq_true (by have := HN.out; omega)
            rw [decide_eq_true hb] at hkb
            rw [if_pos hb] at hks
            have HGB := Aside0.mk hkb
            by_cases he : F + j = K
            · have ceq : (F + (j : Int) == K) = true := by simp [he]
              rw [if_pos he] at hks
              have HGS := Aside0.mk hks
              clear hkb hks he hb
              go_wp2_with (first
                | (go_at_call 35; (with_reducible refine (getK _ ((Sk F k).set (K % 17).toNat (atS K D)) (fk F k) (nk k) (F + j) _ HR2.out HBK.out (atS K D) true HGS.out HGB.out).mono ?_); rintro e v1 ⟨rfl, G1, Z1, O1⟩)
                | (refine wpList_store51 rfl _ _ rfl v1.heap.size (atS K D) rfl rfl (atS 0 0) (heap_alloc_new v1 _) (atS_ok _ _) O1.out ?_; intro hg; obtain ⟨wsa, esa, hbsa, hrsa, hxsa, hnea, hxxa⟩ := stored G1.out Z1.out (atS K D) hg; rw [← esa]; clear hg esa; have HBSa := Aside0.mk hbsa; have HRSa := Aside0.mk hrsa; have HXSa := Aside0.mk hxsa; have HNEa := Aside0.mk hnea; have HXXa := Aside0.mk hxxa; clear hbsa hrsa hxsa hnea hxxa)
                | (go_at_call 32; (with_reducible refine (atK _ ((Sk F k).set (K % 17).toNat (atS K D)) (fk F k) (nk k) (F + j) j j HWU.out _ HRSa.out).mono ?_); rintro e v2 ⟨rfl, G2, Z2⟩; have HBa2 := Aside0.mk (Z2.out.blk HBSa.out HNEa.out))
                | (refine wpList_store51 rfl _ _ rfl v2.heap.size (atS (F + j) j) rfl rfl (atS 0 0) (heap_alloc_new v2 _) (atS_ok _ _) (atS_ok _ _) ?_; intro hg; obtain ⟨wsb, esb, hbsb, hrsb, hxsb, hneb, hxxb⟩ := stored G2.out Z2.out (atS (F + j) j) hg; rw [← esb]; clear hg esb; have HBSb := Aside0.mk hbsb; have HRSb := Aside0.mk hrsb; have HXSb := Aside0.mk hxsb; have HNEb := Aside0.mk hneb; have HXXb := Aside0.mk hxxb; clear hbsb hrsb hxsb hneb hxxb)
                | (go_at_call 32; (with_reducible refine (atK _ ((Sk F k).set (K % 17).toNat (atS K D)) (fk F k) (nk k) K x3 D HD.out _ HRSb.out).mono ?_); rintro e v3 ⟨rfl, G3, Z3⟩; have HBb3 := Aside0.mk (Z3.out.blk HBSb.out HNEb.out); have HBa3 := Aside0.mk (Z3.out.blk (keep_other HXXb.out HBa2.out HNEa.out) HNEa.out); have HNAB := Aside0.mk (blk_ne HBa2.out))
                | (refine wpList_store51 rfl _ _ rfl v2.heap.size (atS K D) rfl rfl (atS (F + j) j) HBb3.out (atS_ok _ _) (atS_ok _ _) ?_; intro hg; obtain ⟨v4, ev4⟩ : ∃ v4, v4 = v3.setRow v2.heap.size (atS K D).toArray := ⟨_, rfl⟩; rw [← ev4] at hg ⊢; have HBb4 := Aside0.mk hg; have HBa4 : Aside0 (v4.heap[v1.heap.size]? = some (.cells (atS K D).toArray 51 (0, 0))) := ⟨by rw [ev4, setRow_other _ _ _ _ HNAB.out]; exact HBa3.out⟩; have G4 : Aside0 (RingAt v4 w1.heap.size ((Sk F k).set (K % 17).toNat (atS K D)) (fk F k) (nk k)) := ⟨by rw [ev4]; exact G3.out.setRow (Ne.symm HNEb.out) _⟩; have Z4 : Aside0 (Only w1.heap.size w1 v4) := ⟨by rw [ev4]; exact ((((X2.out.trans HXSa.out).trans HXSb.out).trans Z3.out)).setRow (Nat.le_trans (X2.out.trans HXSa.out).size Z2.out.size) _⟩; clear hg ev4)
                | (refine wpList_load51 ?hw1 _ rfl v1.heap.size rfl (atS K D) HBa4.out (atS_ok _ _) ?_; (case hw1 => rfl))
                | (refine wpList_load51 ?hw2 _ rfl v2.heap.size rfl (atS K D) HBb4.out (atS_ok _ _) ?_; (case hw2 => rfl))
                | (refine wpList_neq51 ?hw3 _ _ rfl (atS K D) rfl rfl (atS_ok _ _) ?_; (case hw3 => rfl)))
              go_roundg k2
              case measure => omega
              case rel => exact ⟨j + 1, by go_num, ⟨by have := HJ.out; omega⟩, G4, ⟨Z4.out⟩⟩
            · have ceq : (F + (j : Int) == K) = false := by simp [he]
              rw [if_neg he] at hks
              have HGS := Aside0.mk hks
              clear hkb hks he hb
              go_wp2_with (first
                | (go_at_call 35; (with_reducible refine (getK _ ((Sk F k).set (K % 17).toNat (atS K D)) (fk F k) (nk k) (F + j) _ HR2.out HBK.out (atS (F + j) j) true HGS.out HGB.out).mono ?_); rintro e v1 ⟨rfl, G1, Z1, O1⟩)
                | (refine wpList_store51 rfl _ _ rfl v1.heap.size (atS (F + j) j) rfl rfl (atS 0 0) (heap_alloc_new v1 _) (atS_ok _ _) O1.out ?_; intro hg; obtain ⟨wsa, esa, hbsa, hrsa, hxsa, hnea, hxxa⟩ := stored G1.out Z1.out (atS (F + j) j) hg; rw [← esa]; clear hg esa; have HBSa := Aside0.mk hbsa; have HRSa := Aside0.mk hrsa; have HXSa := Aside0.mk hxsa; have HNEa := Aside0.mk hnea; have HXXa := Aside0.mk hxxa; clear hbsa hrsa hxsa hnea hxxa)
                | (go_at_call 32; (with_reducible refine (atK _ ((Sk F k).set (K % 17).toNat (atS K D)) (fk F k) (nk k) (F + j) j j HWU.out _ HRSa.out).mono ?_); rintro e v2 ⟨rfl, G2, Z2⟩; have HBa2 := Aside0.mk (Z2.out.blk HBSa.out HNEa.out))
                | (refine wpList_store51 rfl _ _ rfl v2.heap.size (atS (F + j) j) rfl rfl (atS 0 0) (heap_alloc_new v2 _) (atS_ok _ _) (atS_ok _ _) ?_; intro hg; obtain ⟨wsb, esb, hbsb, hrsb, hxsb, hneb, hxxb⟩ := stored G2.out Z2.out (atS (F + j) j) hg; rw [← esb]; clear hg esb; have HBSb := Aside0.mk hbsb; have HRSb := Aside0.mk hrsb; have HXSb := Aside0.mk hxsb; have HNEb := Aside0.mk hneb; have HXXb := Aside0.mk hxxb; clear hbsb hrsb hxsb hneb hxxb)
                | (refine wpList_load51 ?hw1 _ rfl v1.heap.size rfl (atS (F + j) j) (keep_other HXXb.out HBa2.out HNEa.out) (atS_ok _ _) ?_; (case hw1 => rfl))
                | (refine wpList_load51 ?hw2 _ rfl v2.heap.size rfl (atS (F + j) j) HBSb.out (atS_ok _ _) ?_; (case hw2 => rfl))
                | (refine wpList_neq51 ?hw3 _ _ rfl (atS (F + j) j) rfl rfl (atS_ok _ _) ?_; (case hw3 => rfl)))
              go_roundg k2
              case measure => omega
              case rel => exact ⟨j + 1, by go_num, ⟨by have := HJ.out; omega⟩, HRSb, ⟨(X2.out.trans HXSa.out).trans HXSb.out⟩⟩
          · have cb : decide (1 + p - 17 ≤ (j : Int)) = false := decide_eq_false (by have := HN.out; omega)
            rw [decide_eq_false hb] at hkb
            rw [if_neg hb] at hks
            have HGB := Aside0.mk hkb
            have HGS := Aside0.mk hks
            have ceq : (F + (j : Int) == K) = false := by have := HKQ.out; simp; omega
            clear hkb hks hb
            go_wp2_with (first
              | (go_at_call 35; (with_reducible refine (getK _ ((Sk F k).set (K % 17).toNat (atS K D)) (fk F k) (nk k) (F + j) _ HR2.out HBK.out (atS 0 0) false HGS.out HGB.out).mono ?_); rintro e v1 ⟨rfl, G1, Z1, O1⟩)
              | (refine wpList_store51 rfl _ _ rfl v1.heap.size (atS 0 0) rfl rfl (atS 0 0) (heap_alloc_new v1 _) (atS_ok _ _) O1.out ?_; intro hg; obtain ⟨wsa, esa, hbsa, hrsa, hxsa, hnea, hxxa⟩ := stored G1.out Z1.out (atS 0 0) hg; rw [← esa]; clear hg esa; have HBSa := Aside0.mk hbsa; have HRSa := Aside0.mk hrsa; have HXSa := Aside0.mk hxsa; have HNEa := Aside0.mk hnea; have HXXa := Aside0.mk hxxa; clear hbsa hrsa hxsa hnea hxxa)
              | (go_at_call 32; (with_reducible refine (atK _ ((Sk F k).set (K % 17).toNat (atS K D)) (fk F k) (nk k) (F + j) j j HWU.out _ HRSa.out).mono ?_); rintro e v2 ⟨rfl, G2, Z2⟩; have HBa2 := Aside0.mk (Z2.out.blk HBSa.out HNEa.out))
              | (refine wpList_store51 rfl _ _ rfl v2.heap.size (atS (F + j) j) rfl rfl (atS 0 0) (heap_alloc_new v2 _) (atS_ok _ _) (atS_ok _ _) ?_; intro hg; obtain ⟨wsb, esb, hbsb, hrsb, hxsb, hneb, hxxb⟩ := stored G2.out Z2.out (atS (F + j) j) hg; rw [← esb]; clear hg esb; have HBSb := Aside0.mk hbsb; have HRSb := Aside0.mk hrsb; have HXSb := Aside0.mk hxsb; have HNEb := Aside0.mk hneb; have HXXb := Aside0.mk hxxb; clear hbsb hrsb hxsb hneb hxxb))
            go_roundg k2
            case measure => omega
            case rel => exact ⟨j + 1, by go_num, ⟨by have := HJ.out; omega⟩, HRSb, ⟨(X2.out.trans HXSa.out).trans HXSb.out⟩⟩
    | succ k1 =>
      have hk : k < N := by have := HK.out; omega
      have hlt : decide ((k : Int) < 1 + p) = true := decide_eq_true (by have := HN.out; omega)
      have hk60 : k < 60 := by have := HN.out; omega
      have HP2 := Aside0.mk (put_step F hF0 k)
      have HBD := Aside0.mk (fk_bd F hF0 (by omega) k (by omega))
      have HBD1 := Aside0.mk (fk_bd F hF0 (by omega) (k + 1) (by omega))
      have HBD2 : Aside0 (0 ≤ fk F (k + 1) ∧ fk F (k + 1) ≤ 1000000000000000 ∧ 0 ≤ nk (k + 1) ∧ nk (k + 1) ≤ 17) := ⟨by have := HBD1.out; omega⟩
      have HWU := Aside0.mk (wrapU k (by omega))
      have HNW := Aside0.mk (newest_step F k)
      have hmin := min_step k
      have hFk : 0 ≤ F + k := by omega
      clear hM
      go_wp2_with (first
        | (go_at_call 32; (with_reducible refine (atK _ (Sk F k) (fk F k) (nk k) (F + k) k k HWU.out _ HR.out).mono ?_); rintro e w4 ⟨rfl, H4, X4⟩)
        | (go_at_call 31; (with_reducible refine (putK _ (Sk F k) (Sk F (k + 1)) (fk F k) (nk k) (fk F (k + 1)) (nk (k + 1)) (F + k) (atS (F + k) k) true _ H4.out (atS_ok _ _) HBD.out (by omega) HP2.out.1 HP2.out.2).mono ?_); rintro e w5 ⟨rfl, H5, X5⟩)
        | (go_at_call 33; (with_reducible refine (newestK _ (Sk F (k + 1)) (fk F (k + 1)) (nk (k + 1)) (F + k) _ H5.out HBD2.out HNW.out).mono ?_); rintro e w6 ⟨rfl, H6, X6⟩)
        | (go_at_call 34; (with_reducible refine (countK _ (Sk F (k + 1)) (fk F (k + 1)) (nk (k + 1)) _ H6.out).mono ?_); rintro e w7 ⟨rfl, H7, X7⟩))
      go_roundg k1
      case measure => omega
      case rel => exact ⟨k + 1, by go_num, ⟨by have := HK.out; omega⟩, H7, ⟨(((X.out.trans X4.out).trans X5.out).trans X6.out).trans X7.out⟩⟩
end Go.Proofs.Ytodidkjajkjlaaa.RingRep
