/- RingKnown answers true (the walk; no conditions). -/
import Derived.Test.YtodidkjajkjlaaaRingKn
namespace Go.Proofs.Ytodidkjajkjlaaa.RingRep
open Go.RowKit Go.Proofs.YtodidkjajkjlaaaW.PrintWords Go.Proofs.YtodidkjajkjlaaaW.PrintLast
set_option linter.unusedVariables false
set_option linter.unusedSimpArgs false

/-- The states of a ring behind k puts, from frame F on. -/
def Sk (F : Int) : Nat → List (List Value)
  | 0 => S0
  | k + 1 => (Sk F k).set ((F + k) % 17).toNat (atS (F + k) k)
def fk (F : Int) (k : Nat) : Int := if k = 0 then 0 else if k ≤ 17 then F else F + k - 17
def nk (k : Nat) : Int := if k ≤ 17 then k else 17

theorem putOk_iff (S : List (List Value)) (f n x : Int) : Ring.putOk ⟨S, f, n⟩ x = true ↔ 0 ≤ x ∧ (n = 0 ∨ (f ≤ x ∧ x ≤ f + n)) := by simp [Ring.putOk]
theorem put_zero (S : List (List Value)) (f n x : Int) (s : List Value) (hx : 0 ≤ x) (hn : n = 0) : Ring.put ⟨S, f, n⟩ x s = ⟨S.set (x % 17).toNat s, x, 1⟩ := by
  rw [Ring.put, if_pos ((putOk_iff S f n x).2 ⟨hx, .inl hn⟩)]; simp [hn]
theorem put_more (S : List (List Value)) (f n x : Int) (s : List Value) (hx0 : 0 ≤ x) (hx : x = f + n) (hn : 1 ≤ n) (h17 : n < 17) : Ring.put ⟨S, f, n⟩ x s = ⟨S.set (x % 17).toNat s, f, n + 1⟩ := by
  rw [Ring.put, if_pos ((putOk_iff S f n x).2 ⟨hx0, .inr (by omega)⟩)]
  have h1 : ¬ n = 0 := by omega
  have h2 : ¬ n = 17 := by omega
  simp [h1, h2, hx, h17]
theorem put_roll (S : List (List Value)) (f n x : Int) (s : List Value) (hx0 : 0 ≤ x) (hx : x = f + n) (h17 : n = 17) : Ring.put ⟨S, f, n⟩ x s = ⟨S.set (x % 17).toNat s, f + 1, 17⟩ := by
  rw [Ring.put, if_pos ((putOk_iff S f n x).2 ⟨hx0, .inr (by omega)⟩)]
  simp [hx, h17]
theorem put_in (S : List (List Value)) (f n x : Int) (s : List Value) (hx0 : 0 ≤ x) (hx : f ≤ x) (hx2 : x < f + n) : Ring.put ⟨S, f, n⟩ x s = ⟨S.set (x % 17).toNat s, f, n⟩ := by
  rw [Ring.put, if_pos ((putOk_iff S f n x).2 ⟨hx0, .inr (by omega)⟩)]
  have h1 : ¬ n = 0 := by omega
  have h2 : ¬ x = f + n := by omega
  simp [h1, h2]

theorem put_step (F : Int) (hF : 0 ≤ F) (k : Nat) : Ring.putOk ⟨Sk F k, fk F k, nk k⟩ (F + k) = true ∧ Ring.put ⟨Sk F k, fk F k, nk k⟩ (F + k) (atS (F + k) k) = ⟨Sk F (k + 1), fk F (k + 1), nk (k + 1)⟩ := by
  by_cases h0 : k = 0
  · subst h0
    exact ⟨(putOk_iff _ _ _ _).2 ⟨by omega, .inl rfl⟩, (put_zero (Sk F 0) (fk F 0) (nk 0) (F + (0 : Nat)) (atS (F + (0 : Nat)) (0 : Nat)) (by omega) rfl).trans (by simp [Sk, fk, nk])⟩
  by_cases h1 : k < 17
  · have ef : fk F k = F := by unfold fk; rw [if_neg h0, if_pos (by omega)]
    have en : nk k = k := by unfold nk; rw [if_pos (by omega)]
    have ef' : fk F (k + 1) = F := by unfold fk; rw [if_neg (by omega), if_pos (by omega)]
    have en' : nk (k + 1) = k + 1 := by unfold nk; rw [if_pos (by omega)]; omega
    rw [ef, en, ef', en']
    exact ⟨(putOk_iff _ _ _ _).2 ⟨by omega, .inr (by omega)⟩, put_more _ _ _ _ _ (by omega) rfl (by omega) (by omega)⟩
  by_cases h2 : k = 17
  · subst h2
    have ef : fk F 17 = F := rfl
    have en : nk 17 = 17 := rfl
    have ef' : fk F (17 + 1) = F + 1 := by show F + 18 - 17 = F + 1; omega
    have en' : nk (17 + 1) = 17 := rfl
    rw [ef, en, ef', en']
    exact ⟨(putOk_iff _ _ _ _).2 ⟨by omega, .inr (by omega)⟩, put_roll _ _ _ _ _ (by omega) rfl rfl⟩
  · have ef : fk F k = F + k - 17 := by unfold fk; rw [if_neg h0, if_neg (by omega)]
    have en : nk k = 17 := by unfold nk; rw [if_neg (by omega)]
    have ef' : fk F (k + 1) = F + k - 17 + 1 := by unfold fk; rw [if_neg (by omega), if_neg (by omega)]; omega
    have en' : nk (k + 1) = 17 := by unfold nk; rw [if_neg (by omega)]
    rw [ef, en, ef', en']
    exact ⟨(putOk_iff _ _ _ _).2 ⟨by omega, .inr (by omega)⟩, put_roll _ _ _ _ _ (by omega) (by omega) rfl⟩

theorem fk_bd (F : Int) (hF : 0 ≤ F) (hF2 : F ≤ 1000) (k : Nat) (hk : k ≤ 100) : 0 ≤ fk F k ∧ fk F k ≤ 900000000000000 ∧ 0 ≤ nk k ∧ nk k ≤ 17 := by
  unfold fk nk
  split <;> split <;> (try split) <;> omega

theorem Only.blk {g b : Nat} {o : Obj} {w w' : World} (h : Only g w w') (hb : w.heap[b]? = some o) (hne : b ≠ g) : w'.heap[b]? = some o := by
  have hlt : b < w.heap.size := by
    rcases Nat.lt_or_ge b w.heap.size with hlt | hge
    · exact hlt
    · rw [Array.getElem?_eq_none hge] at hb; cases hb
  exact (h.block b hlt hne).trans hb
theorem Only.setRow {g b : Nat} {w w' : World} (h : Only g w w') (hb : w.heap.size ≤ b) (cs : Array Value) : Only g w (w'.setRow b cs) :=
  ⟨by rw [setRow_os]; exact h.os, by rw [setRow_tape]; exact h.tape, by rw [setRow_output]; exact h.output, by rw [setRow_size]; exact h.size, fun k hk hne => by rw [setRow_other w' b k cs (by omega)]; exact h.block k hk hne⟩
theorem RingAt.setRow {w : World} {g : Nat} {S : List (List Value)} {f n : Int} (h : RingAt w g S f n) {b : Nat} (hne : g ≠ b) (cs : Array Value) : RingAt (w.setRow b cs) g S f n := h.keep (setRow_other w b g cs hne)

theorem getK (g : Nat) (S : List (List Value)) (f n x : Int) (w : World) (hr : RingAt w g S f n) (hb : 0 ≤ f ∧ f ≤ 1000000000000000 ∧ 0 ≤ n ∧ n ≤ 17) (s : List Value) (b : Bool) (hs : getS S f n x = s) (hbb : getB f n x = b) :
    Calls Try.prog 35 #[.pointer (some ⟨g, 0, none⟩), .int .i64 x] w fun e w' => e = .returned (.tuple #[.agg s.toArray, .bool b]) ∧ Aside0 (RingAt w' g S f n) ∧ Aside0 (Only g w w') ∧ Aside0 (okS s) := by
  have hok : okS s := by
    subst hs
    unfold getS
    split
    · exact atS_ok _ _
    · exact hr.get_ok (by omega)
  exact (get_calls g S f n x w hr hb s b hs hbb).mono fun e w' ⟨he, hB⟩ => ⟨he, ⟨hr.below hB.out hr.lt⟩, ⟨Only.of_below hB.out⟩, ⟨hok⟩⟩
theorem cutK (g : Nat) (S : List (List Value)) (f n n' x : Int) (w : World) (hr : RingAt w g S f n) (hb : 0 ≤ f ∧ f ≤ 1000000000000000 ∧ 0 ≤ n ∧ n ≤ 17) (hn : cutN f n x = n') :
    Calls Try.prog 36 #[.pointer (some ⟨g, 0, none⟩), .int .i64 x] w fun e w' => e = .returned (.tuple #[]) ∧ Aside0 (RingAt w' g S f n') ∧ Aside0 (Only g w w') := hn ▸ cut_calls g S f n x w hr hb
theorem knownK (g : Nat) (S : List (List Value)) (f n : Int) (w : World) (hr : RingAt w g S f n) : Calls Try.prog 30 #[] w fun e w' => e = .returned (.bool true) ∧ Aside0 (RingAt w' g S f n) ∧ Aside0 (Only g w w') :=
  (known_calls w).mono fun e w' ⟨he, hB⟩ => ⟨he, ⟨hr.below hB.out hr.lt⟩, ⟨Only.of_below hB.out⟩⟩

/-- A state that was got is laid into a block of its own: what is so behind it. -/
theorem stored {w0 w : World} {g : Nat} {S : List (List Value)} {f n : Int} (hr : RingAt w g S f n) (X : Only g w0 w) (s : List Value)
    (hs : ((w.alloc (.cells (atS 0 0).toArray 51)).setRow w.heap.size s.toArray).heap[w.heap.size]? = some (.cells s.toArray 51 (0, 0))) :
    ∃ w' : World, w' = (w.alloc (.cells (atS 0 0).toArray 51)).setRow w.heap.size s.toArray ∧ w'.heap[w.heap.size]? = some (.cells s.toArray 51 (0, 0)) ∧ RingAt w' g S f n ∧ Only g w0 w' ∧ w.heap.size ≠ g ∧ Only g w w' :=
  ⟨_, rfl, hs, (hr.alloc _).setRow (by have := hr.lt; omega) _, (X.alloc _).setRow X.size _, by have := hr.lt; omega, ((Only.of_below (Below.refl w.heap.size w)).alloc _).setRow (Nat.le_refl _) _⟩

theorem wrapU (k : Nat) (hk : k ≤ 100) : IntKind.u64.wrap (k : Int) = (k : Int) := by
  show (k : Int) % 18446744073709551616 = k
  omega

set_option maxHeartbeats 8000000 in
set_option maxRecDepth 100000 in
theorem knownLaw_calls (w : World) : Calls Try.prog 12 #[] w fun e w' => e = .returned (.bool true) ∧ Below w.heap.size w w' := by
  have hz := zv54
  have hz1 := zv51
  have H0 := Aside0.mk (ring_new w)
  have X0 := Aside0.mk (Only.of_below (g := w.heap.size) ((Below.refl w.heap.size w).alloc (Nat.le_refl _) (.cells (ringC S0 0 0).toArray 54)))
  go_enter Try.func12, Try.ntmps12
  go_wp2_with (first
    | (go_at_call 32; (with_reducible refine (atK _ S0 0 0 0 0 0 rfl _ H0.out).mono ?_); rintro e w1 ⟨rfl, H1, X1⟩)
    | (go_at_call 31; (with_reducible refine (putK _ S0 S0 0 0 0 0 (-1) (atS 0 0) false _ H1.out (atS_ok _ _) (by decide) (by decide) rfl rfl).mono ?_); rintro e w2 ⟨rfl, H2, X2⟩))
  have XA := Aside0.mk ((X0.out.trans X1.out).trans X2.out)
  go_loopg [3] 20 (fun kq v3 wr => ∃ k : Nat, v3 = .int .i64 k ∧ Aside0 (k + kq = 20) ∧ Aside0 (RingAt wr w.heap.size (Sk 0 k) (fk 0 k) (nk k)) ∧ Aside0 (Only w.heap.size w wr))
  case atStart => exact ⟨0, rfl, ⟨by omega⟩, H2, XA⟩
  case round =>
    obtain ⟨k, rfl, HK, HR, X⟩ := hrel
    cases gk with
    | zero =>
      have hk : k = 20 := by have := HK.out; omega
      subst hk
      clear HK
      have HR3 : Aside0 (RingAt wr w.heap.size (Sk 0 20) 3 17) := HR
      clear HR
      have HR := HR3
      go_wp2_with (first
        | (go_at_call 35; (with_reducible refine (getK _ (Sk 0 20) 3 17 2 _ HR.out (by decide) (atS 0 0) false rfl rfl).mono ?_); rintro e w3 ⟨rfl, H3, X3, O3⟩)
        | (refine wpList_store51 rfl _ _ rfl w3.heap.size (atS 0 0) rfl rfl (atS 0 0) (heap_alloc_new w3 _) (atS_ok _ _) O3.out ?_; intro hg; obtain ⟨ws3, es3, hbs3, hrs3, hxs3, hne3, hxx3⟩ := stored H3.out X3.out (atS 0 0) hg; rw [← es3]; clear hg es3; have HBS3 := Aside0.mk hbs3; have HRS3 := Aside0.mk hrs3; have HXS3 := Aside0.mk hxs3; have HNE3 := Aside0.mk hne3; clear hbs3 hrs3 hxs3 hne3 hxx3)
        | (go_at_call 35; (with_reducible refine (getK _ (Sk 0 20) 3 17 3 _ HRS3.out (by decide) (atS 3 3) true rfl rfl).mono ?_); rintro e w4 ⟨rfl, H4, X4, O4⟩)
        | (refine wpList_store51 rfl _ _ rfl w4.heap.size (atS 3 3) rfl rfl (atS 0 0) (heap_alloc_new w4 _) (atS_ok _ _) O4.out ?_; intro hg; obtain ⟨ws4, es4, hbs4, hrs4, hxs4, hne4, hxx4⟩ := stored H4.out X4.out (atS 3 3) hg; rw [← es4]; clear hg es4; have HBS4 := Aside0.mk hbs4; have HRS4 := Aside0.mk hrs4; have HXS4 := Aside0.mk hxs4; have HNE4 := Aside0.mk hne4; clear hbs4 hrs4 hxs4 hne4 hxx4)
        | (go_at_call 32; (with_reducible refine (atK _ (Sk 0 20) 3 17 3 99 99 rfl _ HRS4.out).mono ?_); rintro e w5 ⟨rfl, H5, X5⟩)
        | (go_at_call 31; (with_reducible refine (putK _ (Sk 0 20) ((Sk 0 20).set 3 (atS 3 99)) 3 17 3 17 3 (atS 3 99) true _ H5.out (atS_ok _ _) (by decide) (by decide) rfl rfl).mono ?_); rintro e w6 ⟨rfl, H6, X6⟩)
        | (go_at_call 35; (with_reducible refine (getK _ ((Sk 0 20).set 3 (atS 3 99)) 3 17 3 _ H6.out (by decide) (atS 3 99) true rfl rfl).mono ?_); rintro e w7 ⟨rfl, H7, X7, O7⟩)
        | (refine wpList_store51 rfl _ _ rfl w7.heap.size (atS 3 99) rfl rfl (atS 0 0) (heap_alloc_new w7 _) (atS_ok _ _) O7.out ?_; intro hg; obtain ⟨ws7, es7, hbs7, hrs7, hxs7, hne7, hxx7⟩ := stored H7.out X7.out (atS 3 99) hg; rw [← es7]; clear hg es7; have HBS7 := Aside0.mk hbs7; have HRS7 := Aside0.mk hrs7; have HXS7 := Aside0.mk hxs7; have HNE7 := Aside0.mk hne7; clear hbs7 hrs7 hxs7 hne7 hxx7)
        | (go_at_call 32; (with_reducible refine (atK _ ((Sk 0 20).set 3 (atS 3 99)) 3 17 2 0 0 rfl _ HRS7.out).mono ?_); rintro e w8 ⟨rfl, H8, X8⟩)
        | (go_at_call 31; (with_reducible refine (putK _ ((Sk 0 20).set 3 (atS 3 99)) ((Sk 0 20).set 3 (atS 3 99)) 3 17 3 17 2 (atS 2 0) false _ H8.out (atS_ok _ _) (by decide) (by decide) rfl rfl).mono ?_); rintro e w9 ⟨rfl, H9, X9⟩)
        | (go_at_call 36; (with_reducible refine (cutK _ ((Sk 0 20).set 3 (atS 3 99)) 3 17 8 10 _ H9.out (by decide) rfl).mono ?_); rintro e w10 ⟨rfl, H10, X10⟩)
        | (go_at_call 35; (with_reducible refine (getK _ ((Sk 0 20).set 3 (atS 3 99)) 3 8 11 _ H10.out (by decide) (atS 0 0) false rfl rfl).mono ?_); rintro e w11 ⟨rfl, H11, X11, O11⟩)
        | (refine wpList_store51 rfl _ _ rfl w11.heap.size (atS 0 0) rfl rfl (atS 0 0) (heap_alloc_new w11 _) (atS_ok _ _) O11.out ?_; intro hg; obtain ⟨ws11, es11, hbs11, hrs11, hxs11, hne11, hxx11⟩ := stored H11.out X11.out (atS 0 0) hg; rw [← es11]; clear hg es11; have HBS11 := Aside0.mk hbs11; have HRS11 := Aside0.mk hrs11; have HXS11 := Aside0.mk hxs11; have HNE11 := Aside0.mk hne11; clear hbs11 hrs11 hxs11 hne11 hxx11)
        | (go_at_call 33; (with_reducible refine (newestK _ ((Sk 0 20).set 3 (atS 3 99)) 3 8 10 _ HRS11.out (by decide) rfl).mono ?_); rintro e w12 ⟨rfl, H12, X12⟩)
        | (go_at_call 36; (with_reducible refine (cutK _ ((Sk 0 20).set 3 (atS 3 99)) 3 8 0 1 _ H12.out (by decide) rfl).mono ?_); rintro e w13 ⟨rfl, H13, X13⟩)
        | (go_at_call 30; (with_reducible refine (knownK _ ((Sk 0 20).set 3 (atS 3 99)) 3 0 _ H13.out).mono ?_); rintro e w14 ⟨rfl, H14, X14⟩; have B4 := Aside0.mk (X14.out.blk (X13.out.blk (X12.out.blk (HXS11.out.blk (X10.out.blk (X9.out.blk (X8.out.blk (HXS7.out.blk (X6.out.blk (X5.out.blk HBS4.out HNE4.out) HNE4.out) HNE4.out) HNE4.out) HNE4.out) HNE4.out) HNE4.out) HNE4.out) HNE4.out) HNE4.out); have B7 := Aside0.mk (X14.out.blk (X13.out.blk (X12.out.blk (HXS11.out.blk (X10.out.blk (X9.out.blk (X8.out.blk HBS7.out HNE7.out) HNE7.out) HNE7.out) HNE7.out) HNE7.out) HNE7.out) HNE7.out); have c4 := (blk_cell B4.out 1).trans (show _ = some (Value.int .u64 3) from rfl); have c7 := (blk_cell B7.out 1).trans (show _ = some (Value.int .u64 99) from rfl))
        | (go_at_call 34; (with_reducible refine (countK _ ((Sk 0 20).set 3 (atS 3 99)) 3 0 _ H14.out).mono ?_); rintro e w15 ⟨rfl, H15, X15⟩)
        | (go_at_call 33; (with_reducible refine (newestK _ ((Sk 0 20).set 3 (atS 3 99)) 3 0 (-1) _ H15.out (by decide) rfl).mono ?_); rintro e w16 ⟨rfl, H16, X16⟩)
        | (go_at_call 32; (with_reducible refine (atK _ ((Sk 0 20).set 3 (atS 3 99)) 3 0 50 1 1 rfl _ H16.out).mono ?_); rintro e w17 ⟨rfl, H17, X17⟩)
        | (go_at_call 31; (with_reducible refine (putK _ ((Sk 0 20).set 3 (atS 3 99)) (((Sk 0 20).set 3 (atS 3 99)).set 16 (atS 50 1)) 3 0 50 1 50 (atS 50 1) true _ H17.out (atS_ok _ _) (by decide) (by decide) rfl rfl).mono ?_); rintro e w18 ⟨rfl, H18, X18⟩))
      go_ret
      exact ⟨rfl, (((((((((((((((X.out.trans HXS3.out).trans HXS4.out).trans X5.out).trans X6.out).trans HXS7.out).trans X8.out).trans X9.out).trans X10.out).trans HXS11.out).trans X12.out).trans X13.out).trans X14.out).trans X15.out).trans X16.out).trans X17.out |>.trans X18.out).below (Nat.le_refl _) (Nat.le_refl _)⟩
    | succ k1 =>
      have hk : k < 20 := by have := HK.out; omega
      have hp := put_step 0 (by omega) k
      simp only [Int.zero_add] at hp
      have HP := Aside0.mk hp
      have HB := Aside0.mk (fk_bd 0 (by omega) (by omega) k (by omega))
      have HWU := Aside0.mk (wrapU k (by omega))
      clear hp
      go_wp2_with (first
        | (go_at_call 32; (with_reducible refine (atK _ (Sk 0 k) (fk 0 k) (nk k) k k k HWU.out _ HR.out).mono ?_); rintro e w1 ⟨rfl, H3, X3⟩)
        | (go_at_call 31; (with_reducible refine (putK _ (Sk 0 k) (Sk 0 (k + 1)) (fk 0 k) (nk k) (fk 0 (k + 1)) (nk (k + 1)) k (atS k k) true _ H3.out (atS_ok _ _) HB.out (by omega) HP.out.1 HP.out.2).mono ?_); rintro e w2 ⟨rfl, H4, X4⟩))
      go_roundg k1
      case measure => omega
      case rel => exact ⟨k + 1, by go_num, ⟨by have := HK.out; omega⟩, H4, ⟨(X.out.trans X3.out).trans X4.out⟩⟩
end Go.Proofs.Ytodidkjajkjlaaa.RingRep
