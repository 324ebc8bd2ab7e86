/- RingActs answers true for every list of acts (the walk; a list that can be read). -/
import Derived.Test.YtodidkjajkjlaaaActsH
import Derived.Test.YtodidkjajkjlaaaActsR
import Derived.Test.YtodidkjajkjlaaaActsS
import Derived.Deep.DeepCutAuto
import Derived.Deep.CutBlock
namespace Go.Proofs.Ytodidkjajkjlaaa.RingRep
open Go.RowKit Go.Proofs.YtodidkjajkjlaaaW.PrintWords Go.Proofs.YtodidkjajkjlaaaW.PrintLast Go.Proofs.YtodidkjajkjlaaaW.PrintMore
open Go.Proofs.Ytodidkjajkjlaaa.PGuessTells
open Go.Proofs.Ytodidkjajkjlaaa.Alike (pick_some pick_calls)
attribute [local go_sem] max2_int min2_int
set_option linter.unusedVariables false
set_option linter.unusedSimpArgs false

set_option maxHeartbeats 8000000 in
set_option maxRecDepth 100000 in
theorem acts_calls (A0 : Option Addr) (c0 : Nat) (l : List S34) (w : World) (hl : Kd.C k34 w A0 l.length l) (hc : l.length ≤ c0) (hll : l.length ≤ 100000000000000) :
    Calls Try.prog 13 #[.slice A0 l.length c0] w fun e w' => e = .returned (.bool true) ∧ Below w.heap.size w w' := by
  have hz := zv54
  have hz1 := zv51
  have hu34 := Try.underlying64
  have HL := Aside0.mk hl
  have HI0 := Aside0.mk (show Inv w (w.alloc (.cells (ringC S0 0 0).toArray 54)) w.heap.size (.slice none 0 0) S0 0 0 [] 1099511627776 from
    ⟨ring_new w, ⟨fun h => absurd h (by simp), fun i hi => absurd hi (by simp), by simp, by omega, by simp [S0], by omega⟩, HaveAt.nil _ _, (Below.refl _ _).alloc (Nat.le_refl _) _, Nat.le_refl _, by simp, by omega⟩)
  clear hl
  go_enter Try.func13, Try.ntmps13
  go_wp2_with (first
    | (go_at_call 30; (with_reducible refine (known_calls _).mono ?_); rintro e w1 ⟨rfl, HB1⟩; have HI1 := Aside0.mk (HI0.out.step HB1.out)))
  go_loopg [4, 5] 81 (fun kq v4 v5 wr => ∃ (x : Int) (S : List (List Value)) (f low : Int) (ns : List Int), v5 = .int .i64 x ∧ Aside0 (0 ≤ x ∧ x + kq = 81) ∧ Aside0 (Inv w wr w.heap.size v4 S f low ns (1099511627776 + 100 * x)))
  case atStart => exact ⟨0, S0, 0, 0, [], rfl, ⟨by omega⟩, HI1⟩
  case round =>
    obtain ⟨x, S, f, low, ns, rfl, HK, HI⟩ := hrel
    have hx0 : 0 ≤ x := HK.out.1
    cases gk with
    | zero =>
      have h2d : decide (x < 80) = false := decide_eq_false (by have := HK.out; omega)
      by_cases h1 : x < (l.length : Int)
      · as_aux_lemma =>
--ARM z0
        have h1d : decide (x < (l.length : Int)) = true := decide_eq_true h1
        go_wp2
        go_ret
        exact ⟨rfl, HI.out.below⟩
--ENDARM z0
      · as_aux_lemma =>
--ARM z1
        have h1d : decide (x < (l.length : Int)) = false := decide_eq_false h1
        go_wp2
        go_ret
        exact ⟨rfl, HI.out.below⟩
--ENDARM z1
    | succ k1 =>
      have hx80 : x ≤ 80 := by have := HK.out; omega
      by_cases hex : (l.length : Int) ≤ x ∨ 80 ≤ x
      · by_cases h1 : x < (l.length : Int)
        · as_aux_lemma =>
--ARM z2
          have h1d : decide (x < (l.length : Int)) = true := decide_eq_true h1
          have h2d : decide (x < 80) = false := decide_eq_false (by omega)
          go_wp2
          go_ret
          exact ⟨rfl, HI.out.below⟩
--ENDARM z2
        · as_aux_lemma =>
--ARM z3
          have h1d : decide (x < (l.length : Int)) = false := decide_eq_false h1
          go_wp2
          go_ret
          exact ⟨rfl, HI.out.below⟩
--ENDARM z3
      · have hxl : x < (l.length : Int) := by omega
        have h1d : decide (x < (l.length : Int)) = true := decide_eq_true hxl
        have h2d : decide (x < 80) = true := decide_eq_true (by omega)
        obtain ⟨ad, ea, hy0, hy1, hy2⟩ := at_T34 HL.out x hx0 hxl
        cases ea
        obtain ⟨ac, hac⟩ : ∃ ac : S34, rd_T34 l x = ac := ⟨_, rfl⟩
        rw [hac] at hy0 hy1 hy2
        clear hac hex
        replace hy0 := (HI.out.below.cell (World.block_lt_of_cell? w _ hy0)).trans hy0
        replace hy1 := (HI.out.below.cell (World.block_lt_of_cell? w _ hy1)).trans hy1
        replace hy2 := (HI.out.below.cell (World.block_lt_of_cell? w _ hy2)).trans hy2
        obtain ⟨A, c, rfl, hcl⟩ := HI.out.slice
        have hln : 0 ≤ (ns.length : Int) := by omega
        go_upto_if 39 with fail
        have HI2 := Aside0.mk (HI.out.step ((Below.refl _ _).alloc (Nat.le_refl _) (.cells #[.int .i64 ac.f0, .int .i64 ac.f1, .int .i64 ac.f2] 65)))
        have BA := Aside0.mk (heap_alloc_new wr (.cells #[.int .i64 ac.f0, .int .i64 ac.f1, .int .i64 ac.f2] 65))
        have hlen17 := HI2.out.fits.len
        have hlow0 := HI2.out.fits.low0
        have hbd := HI2.out.bd
        generalize World.alloc wr _ = wa at HI2 BA ⊢
        go_cut [7, 8] (fun s7 s8 wx => s7 = .int .i64 (newestOf low ns) ∧ s8 = .int .i64 (lowOf low ns) ∧ wx = wa)
        case first =>
          by_cases he : ns.length = 0
          · as_aux_lemma =>
--ARM c1a
            obtain rfl : ns = [] := List.eq_nil_of_length_eq_zero he
            clear he
            go_wp2
            go_meet
            case rel => exact ⟨rfl, rfl, rfl⟩
--ENDARM c1a
          · as_aux_lemma =>
--ARM c1b
            have hpos : 0 < ns.length := by omega
            have ht : decide (0 < ns.length) = true := decide_eq_true hpos
            have ht2 : decide (0 < (ns.length : Int)) = true := decide_eq_true (by omega)
            have h7 : newestOf low ns = low + ns.length - 1 := by unfold newestOf; rw [if_neg he]
            have h8 : lowOf low ns = low := by unfold lowOf; rw [if_neg he]
            have H7 := Aside0.mk h7
            have H8 := Aside0.mk h8
            obtain ⟨b, o, hA, hcell, _⟩ := HI2.out.have_.cell (ns.length - 1) (by omega)
            obtain ⟨b', o', hA', hcell0, _⟩ := HI2.out.have_.cell 0 hpos
            rw [hA] at hA'
            injection hA' with hA'
            injection hA' with hb ho
            have ho' : o' = o := by omega
            subst hb ho' hA
            rw [Nat.add_mul] at hcell hcell0
            simp only [Nat.zero_mul, Nat.add_zero] at hcell0
            have e1 : low + ((ns.length - 1 : Nat) : Int) = low + ns.length - 1 := by omega
            have e0 : low + ((0 : Nat) : Int) = low := by omega
            rw [e1] at hcell
            rw [e0] at hcell0
            clear h7 h8 he ho e1 e0
            go_wp2
            go_meet
            case rel => exact ⟨by rw [H7.out], by rw [H8.out], rfl⟩
--ENDARM c1b
        case rest =>
          obtain ⟨rfl, rfl, rfl⟩ := hcut
          obtain ⟨nw, hnw⟩ : ∃ nw, newestOf low ns = nw := ⟨_, rfl⟩
          obtain ⟨lw, hlw⟩ : ∃ lw, lowOf low ns = lw := ⟨_, rfl⟩
          rw [hnw, hlw]
          have hnb : -1 ≤ nw ∧ nw ≤ 1099511627776 + 100 * x ∧ 0 ≤ lw ∧ lw ≤ 1099511627776 + 100 * x := by
            rw [← hnw, ← hlw]
            unfold newestOf lowOf
            split <;> omega
          have HNW := Aside0.mk hnw
          have HLW := Aside0.mk hlw
          clear hnw hlw
          have k0 := (blk_cell BA.out 0).trans (show _ = some (Value.int .i64 ac.f0) from rfl)
          have k1 := (blk_cell BA.out 1).trans (show _ = some (Value.int .i64 ac.f1) from rfl)
          clear hy0 hy1 hy2
          go_upto_block 2 with (go_at_call 21; (with_reducible refine (pick_any _ 9 _ (by omega) (by omega)).mono ?_); rintro e w3 ⟨q, rfl, ⟨hq0, hq1⟩, HB3⟩; have HI3 := Aside0.mk (HI2.out.step HB3.out); have BA3 := Aside0.mk ((HB3.out.block _ (blk_lt BA.out)).trans BA.out); have j1 := (blk_cell BA3.out 1).trans (show _ = some (Value.int .i64 ac.f1) from rfl))
          go_cut [10] (fun s10 wx => ∃ y : Int, s10 = .int .i64 y ∧ Aside0 (-10 ≤ y ∧ y ≤ 1099511627776 + 100 * x + 50) ∧ Aside0 (Inv w wx w.heap.size (.slice A ns.length c) S f low ns (1099511627776 + 100 * x)) ∧ Aside0 (wx.heap[wr.heap.size]? = some (.cells #[.int .i64 ac.f0, .int .i64 ac.f1, .int .i64 ac.f2] 65 (0, 0))))
          case first =>
--PIECE2
            obtain ⟨n1, n2, n3, n4⟩ := hnb
            by_cases q5 : q = 5
            · as_aux_lemma =>
--ARM q5
              subst q5
              go_wp2_with (go_at_call 21; (with_reducible refine (pick_any _ 20 _ (by omega) (by omega)).mono ?_); rintro e w4 ⟨r, rfl, ⟨hr0, hr1⟩, HB4⟩)
              go_meet
              case rel => exact ⟨_, rfl, ⟨by omega⟩, ⟨HI3.out.step HB4.out⟩, ⟨(HB4.out.block _ (blk_lt BA3.out)).trans BA3.out⟩⟩
--ENDARM q5
            · have q5b : (q == 5) = false := by simp [q5]
              by_cases q6 : q = 6
              · as_aux_lemma =>
--ARM q6
                subst q6
                go_wp2_with (go_at_call 21; (with_reducible refine (pick_any _ 5 _ (by omega) (by omega)).mono ?_); rintro e w4 ⟨r, rfl, ⟨hr0, hr1⟩, HB4⟩)
                go_meet
                case rel => exact ⟨_, rfl, ⟨by omega⟩, ⟨HI3.out.step HB4.out⟩, ⟨(HB4.out.block _ (blk_lt BA3.out)).trans BA3.out⟩⟩
--ENDARM q6
              · have q6b : (q == 6) = false := by simp [q6]
                by_cases q7 : q = 7
                · as_aux_lemma =>
--ARM q7
                  subst q7
                  go_wp2_with (go_at_call 21; (with_reducible refine (pick_any _ 1099511627776 _ (by omega) (by omega)).mono ?_); rintro e w4 ⟨r, rfl, ⟨hr0, hr1⟩, HB4⟩)
                  go_meet
                  case rel => exact ⟨_, rfl, ⟨by omega⟩, ⟨HI3.out.step HB4.out⟩, ⟨(HB4.out.block _ (blk_lt BA3.out)).trans BA3.out⟩⟩
--ENDARM q7
                · as_aux_lemma =>
--ARM q8
                  have q7b : (q == 7) = false := by simp [q7]
                  go_wp2
                  go_meet
                  case rel => exact ⟨_, rfl, ⟨by omega⟩, HI3, BA3⟩
--ENDARM q8
--END2
          case rest =>
            obtain ⟨y, rfl, HY, HI4, BA4⟩ := hcut
            have hy0 : -10 ≤ y := HY.out.1
            have hy1 : y ≤ 1099511627776 + 100 * x + 50 := HY.out.2
            have k4 := (blk_cell BA4.out 0).trans (show _ = some (Value.int .i64 ac.f0) from rfl)
            clear k0 k1 HI3 BA3 j1 HB3 BA HI2 hq0 hq1
            go_upto_if 81 with (go_at_call 21; (with_reducible refine (pick_any _ 7 _ (by omega) (by omega)).mono ?_); rintro e w5 ⟨p, rfl, ⟨hp0, hp1⟩, HB5⟩; have HI5 := Aside0.mk (HI4.out.step HB5.out); have BA5 := Aside0.mk ((HB5.out.block _ (blk_lt BA4.out)).trans BA4.out); have j2 := (blk_cell BA5.out 2).trans (show _ = some (Value.int .i64 ac.f2) from rfl))
            clear k4 HI4 BA4 HB5
            go_cut [4] (fun s4 wx => ∃ (S' : List (List Value)) (f' low' : Int) (ns' : List Int), Aside0 (Inv w wx w.heap.size s4 S' f' low' ns' (1099511627776 + 100 * (x + 1))))
            case first =>
--PIECE3
              by_cases hp6 : p = 6
              · as_aux_lemma =>
--ARM cut
                subst hp6
                obtain ⟨L, hL⟩ : ∃ L, left low ns (y - 3) = L := ⟨_, rfl⟩
                have hfit := HI5.out.fits.cut (y - 3)
                rw [hL] at hfit
                have hLle : L ≤ ns.length := by rw [← hL]; unfold left; omega
                have hLt : (ns.take L).length = L := by rw [List.length_take]; omega
                rw [hLt] at hfit
                have hgt : ∀ k : Nat, L < k → k ≤ ns.length → 0 < k ∧ y - 3 < low + k - 1 := fun k h1 h2 => by
                  rw [← hL] at h1
                  unfold left at h1
                  omega
                have hle : L = 0 ∨ low + L - 1 ≤ y - 3 := by
                  rw [← hL]
                  unfold left
                  omega
                have HFIT := Aside0.mk hfit
                have HGT := Aside0.mk hgt
                have HLE := Aside0.mk hle
                have HBD5 : Aside0 (0 ≤ f ∧ f ≤ 1000000000000000 ∧ 0 ≤ (ns.length : Int) ∧ (ns.length : Int) ≤ 17) := ⟨by have h1 := HI5.out.f1; have h2 := HI5.out.fits.f0; omega⟩
                clear hfit hgt hle hL
                have HIH := Aside0.mk HI5.out.have_
                go_wp2_with (go_at_call 36; (with_reducible refine (cutK w.heap.size S f ns.length L (y - 3) _ HI5.out.ring HBD5.out HFIT.out.1).mono ?_); rintro e w6 ⟨rfl, H6, X6⟩; have HV6 := Aside0.mk (HI5.out.have_.only HI5.out.ring X6.out); have HB6 := Aside0.mk (HI5.out.below.trans (X6.out.below (Nat.le_refl _) HI5.out.below.size)))
                go_loopg [4] (ns.length - L) (fun kq v4 wx => ∃ k : Nat, v4 = .slice A k c ∧ Aside0 (k = L + kq ∧ k ≤ ns.length) ∧ Aside0 (RingAt wx w.heap.size S f L) ∧ Aside0 (HaveAt wx w.heap.size (.slice A k c) (rows low (ns.take k))) ∧ Aside0 (Below w.heap.size w wx))
                case atStart => exact ⟨ns.length, rfl, ⟨by omega⟩, H6, ⟨by rw [List.take_length]; exact HV6.out⟩, HB6⟩
                case round =>
                  obtain ⟨k, rfl, HK2, HR2, HV2, HB2⟩ := hrel
                  cases gk with
                  | zero =>
                    have hkL : k = L := by have := HK2.out; omega
                    subst hkL
                    have ht0 : ∀ m : Nat, (0 < m) = (0 < m) := fun _ => rfl
                    clear ht0
                    have HINV : Aside0 (Inv w wr w.heap.size (.slice A k c) S f low (ns.take k) (1099511627776 + 100 * (x + 1))) := ⟨⟨by rw [hLt]; exact HR2.out, HFIT.out.2, HV2.out, HB2.out, Nat.le_refl _, by rw [hLt]; have := HI5.out.bd; omega, by have := HI5.out.f1; omega⟩⟩
                    by_cases hk0 : k = 0
                    · as_aux_lemma =>
--ARM cutz0
                      have ht : decide (0 < k) = false := decide_eq_false (by omega)
                      have ht2 : decide (0 < (k : Int)) = false := decide_eq_false (by omega)
                      have HT := Aside0.mk hk0
                      clear hk0
                      go_wp2
                      go_meet
                      case rel => exact ⟨S, f, low, ns.take k, HINV⟩
--ENDARM cutz0
                    · as_aux_lemma =>
--ARM cutz1
                      have hkp : 0 < k := by omega
                      have ht : decide (0 < k) = true := decide_eq_true hkp
                      have ht2 : decide (0 < (k : Int)) = true := decide_eq_true (by omega)
                      obtain ⟨b, o, hA, hcell, _⟩ := HaveAt.cell (ns := ns.take k) (by rw [hLt]; exact HV2.out) (k - 1) (by rw [hLt]; omega)
                      subst hA
                      rw [Nat.add_mul] at hcell
                      have e1 : low + ((k - 1 : Nat) : Int) = low + k - 1 := by omega
                      rw [e1] at hcell
                      have ht3 : decide (y - 3 < low + k - 1) = false := decide_eq_false (by have := HLE.out; omega)
                      clear e1 hk0
                      go_wp2
                      go_meet
                      case rel => exact ⟨S, f, low, ns.take k, HINV⟩
--ENDARM cutz1
                  | succ k2 =>
                    have hkb : L < k ∧ k ≤ ns.length := by have := HK2.out; omega
                    obtain ⟨hkp, hky⟩ := HGT.out k hkb.1 hkb.2
                    have hml : (ns.take k).length = k := by rw [List.length_take]; omega
                    have ht : decide (0 < k) = true := decide_eq_true hkp
                    have ht2 : decide (0 < (k : Int)) = true := decide_eq_true (by omega)
                    obtain ⟨b, o, hA, hcell, _⟩ := HaveAt.cell (ns := ns.take k) (by rw [hml]; exact HV2.out) (k - 1) (by rw [hml]; omega)
                    subst hA
                    rw [Nat.add_mul] at hcell
                    have e1 : low + ((k - 1 : Nat) : Int) = low + k - 1 := by omega
                    rw [e1] at hcell
                    have ht3 : decide (y - 3 < low + k - 1) = true := decide_eq_true hky
                    have hkc : k ≤ c := by omega
                    have HV3 := Aside0.mk (HV2.out.take (k - 1) (by omega))
                    have e3 : (rows low (ns.take k)).take (k - 1) = rows low (ns.take (k - 1)) := by rw [← rows_take, List.take_take]; congr 2; omega
                    rw [e3] at HV3
                    have HML := Aside0.mk hml
                    clear e1 e3 hml
                    go_wp2
                    go_roundg k2
                    case measure => omega
                    case rel => exact ⟨k - 1, rfl, ⟨by have := HK2.out; omega⟩, HR2, HV3, HB2⟩
--ENDARM cut
              · have hp6b : (p == 6) = false := by simp [hp6]
                obtain ⟨D, hD⟩ : ∃ D, IntKind.u64.wrap ac.f2 = D := ⟨_, rfl⟩
                have HD := Aside0.mk hD
                have HP6 := Aside0.mk hp6
                clear hD hp6
                go_upto_block 5 with (first
                  | (go_at_call 32; (with_reducible refine (atK w.heap.size S f ns.length y _ D HD.out _ HI5.out.ring).mono ?_); rintro e w6 ⟨rfl, H6, X6⟩; have HI6 := Aside0.mk (HI5.out.only H6.out X6.out))
                  | (refine wpList_store51 rfl _ _ rfl w6.heap.size (atS y D) rfl rfl (atS 0 0) (heap_alloc_new w6 _) (atS_ok _ _) (atS_ok _ _) ?_; intro hg; obtain ⟨wsa, esa⟩ : ∃ ws, ws = (World.setRow (World.alloc w6 (.cells (atS 0 0).toArray 51)) w6.heap.size (atS y D).toArray) := ⟨_, rfl⟩; have HIS := Aside0.mk ((HI6.out).step (show Below w6.heap.size w6 wsa from by rw [esa]; exact below_setRow ((Below.refl _ _).alloc (Nat.le_refl _) _) (Nat.le_refl _) _)); rw [← esa] at hg ⊢; have HBS := Aside0.mk hg; have HSZ : Aside0 (w6.heap.size ≠ w.heap.size) := ⟨Nat.ne_of_gt HI6.out.ring.lt⟩; clear hg esa))
                clear HI5 BA5 j2
                have HBD5 : Aside0 (0 ≤ f ∧ f ≤ 900000000000000 ∧ 0 ≤ (ns.length : Int) ∧ (ns.length : Int) ≤ 17) := ⟨by have h1 := HIS.out.f1; have h2 := HIS.out.fits.f0; omega⟩
                have HYB : Aside0 (y ≤ 900000000000000) := ⟨by omega⟩
                by_cases he : ns.length = 0
                · obtain rfl : ns = [] := List.eq_nil_of_length_eq_zero he
                  have hnw : nw = -1 := HNW.out.symm
                  have hlw : lw = 0 := HLW.out.symm
                  subst hnw hlw
                  clear he
                  by_cases hy : 0 ≤ y
                  · as_aux_lemma =>
--ARM E0
                    have hyd : decide (0 ≤ y) = true := decide_eq_true hy
                    have HOK : Aside0 (Ring.putOk ⟨S, f, 0⟩ y = true) := ⟨(putOk_iff _ _ _ _).2 ⟨hy, .inl rfl⟩⟩
                    have HPUT := Aside0.mk (put_zero S f 0 y (atS y D) hy rfl)
                    have HFIT : Aside0 (Fits (S.set (y % 17).toNat (atS y D)) y y [D]) := ⟨Fits.new HIS.out.fits.S17 y D hy⟩
                    have HRG : Aside0 (RingAt wsa w.heap.size S f 0) := ⟨HIS.out.ring⟩
                    have HBD0 : Aside0 (0 ≤ f ∧ f ≤ 900000000000000 ∧ (0 : Int) ≤ 0 ∧ (0 : Int) ≤ 17) := ⟨HBD5.out⟩
                    clear hy
                    go_upto_region 38 with (first
                      | (refine wpList_load51 ?hw _ rfl w6.heap.size rfl (atS y D) HBS.out (atS_ok _ _) ?_; (case hw => rfl))
                      | (go_at_call 31; (with_reducible refine (putK w.heap.size S (S.set (y % 17).toNat (atS y D)) f 0 y 1 y (atS y D) true _ HRG.out (atS_ok _ _) HBD0.out HYB.out HOK.out HPUT.out).mono ?_); rintro e w7 ⟨rfl, H7, X7⟩; have HV7 := Aside0.mk (HIS.out.have_.only HIS.out.ring X7.out); have HB7 := Aside0.mk (HIS.out.below.trans (X7.out.below (Nat.le_refl _) HIS.out.below.size)); have HBS7 := Aside0.mk ((X7.out.block _ (blk_lt HBS.out) HSZ.out).trans HBS.out)))
                    have HM7 : Aside0 (Mid w w7 w.heap.size (.slice A 0 c) (S.set (y % 17).toNat (atS y D)) y 1 []) := ⟨⟨H7.out, HV7.out, HB7.out, Nat.le_refl _⟩⟩
                    have HMb := Aside0.mk (HM7.out.alloc (.cells (atS y D).toArray 51))
                    have HBb := Aside0.mk (heap_alloc_new w7 (.cells (atS y D).toArray 51))
                    clear HV7 HB7
                    go_wp2_with (first
                      | (refine wpList_load51 ?hw _ rfl w6.heap.size rfl (atS y D) HBS7.out (atS_ok _ _) ?_; (case hw => rfl))
                      | (refine wpList_buildOne rfl _ rfl (atS y D) rfl (atS_ok _ _) ?_)
                      | (refine wpList_append_have rfl _ _ rfl rfl HMb.out.have_ (some ⟨w7.heap.size, 0, none⟩) 1 1 rfl [atS y D] rfl (one_ok y D) (src_one HBb.out) (by simp) (by omega) HMb.out.below.size ?_; intro v8 w8 hv8 hg8 _; have HM8 := Aside0.mk (HMb.out.grown hv8 hg8); obtain ⟨A8, c8, rfl, hc8⟩ := hv8.sliceN (n := 1) rfl; clear hv8 hg8))
                    go_meet
                    case rel => exact ⟨_, y, y, [D], ⟨⟨HM8.out.ring, HFIT.out, by have h := HM8.out.have_; rw [List.nil_append] at h; rw [rows_one]; exact h, HM8.out.below, Nat.le_refl _, by rw [List.length_singleton]; omega, by omega⟩⟩⟩
--ENDARM E0
                  · as_aux_lemma =>
--ARM E1
                    have hyd : decide (0 ≤ y) = false := decide_eq_false hy
                    have HOK : Aside0 (Ring.putOk ⟨S, f, 0⟩ y = false) := ⟨by rw [← Bool.not_eq_true, putOk_iff]; omega⟩
                    have HPUT := Aside0.mk (put_none S f 0 y (atS y D) HOK.out)
                    have HRG : Aside0 (RingAt wsa w.heap.size S f 0) := ⟨HIS.out.ring⟩
                    have HBD0 : Aside0 (0 ≤ f ∧ f ≤ 900000000000000 ∧ (0 : Int) ≤ 0 ∧ (0 : Int) ≤ 17) := ⟨HBD5.out⟩
                    clear hy
                    go_wp2_with (first
                      | (refine wpList_load51 ?hw _ rfl w6.heap.size rfl (atS y D) HBS.out (atS_ok _ _) ?_; (case hw => rfl))
                      | (go_at_call 31; (with_reducible refine (putK w.heap.size S S f 0 f 0 y (atS y D) false _ HRG.out (atS_ok _ _) HBD0.out HYB.out HOK.out HPUT.out).mono ?_); rintro e w7 ⟨rfl, H7, X7⟩; have HI7 := Aside0.mk (HIS.out.only H7.out X7.out)))
                    go_meet
                    case rel => exact ⟨S, f, low, [], ⟨⟨HI7.out.ring, HI7.out.fits, HI7.out.have_, HI7.out.below, Nat.le_refl _, by have := HI7.out.bd; omega, by have := HI7.out.f1; omega⟩⟩⟩
--ENDARM E1
                · have hpos : 0 < ns.length := by omega
                  have hlw : low = lw := by have h := HLW.out; unfold lowOf at h; rw [if_neg he] at h; exact h
                  subst hlw
                  have hnl : nw = low + ns.length - 1 := by have h := HNW.out; unfold newestOf at h; rw [if_neg he] at h; exact h.symm
                  have hfl := HIS.out.fits.first hpos
                  have b1 : (ns.length == 0) = false := beq_eq_false_iff_ne.2 he
                  have b2 : ((ns.length : Int) == 0) = false := beq_eq_false_iff_ne.2 (by omega)
                  have HXL : Aside0 ((rows low ns).length ≤ 1000) := ⟨by rw [rows_len]; omega⟩
                  have HHE := Aside0.mk he
                  clear he
                  by_cases hy : y = nw + 1
                  · have b3 : (y == nw + 1) = true := beq_iff_eq.2 hy
                    have HOK : Aside0 (Ring.putOk ⟨S, f, ns.length⟩ y = true) := ⟨(putOk_iff _ _ _ _).2 ⟨by omega, .inr (by omega)⟩⟩
                    by_cases h17 : ns.length < 17
                    · as_aux_lemma =>
--ARM N1
                      have HPUT := Aside0.mk (put_more S f ns.length y (atS y D) (by omega) (by omega) (by omega) (by omega))
                      have HFIT := Aside0.mk (HIS.out.fits.more hpos h17 D y (by omega))
                      have HXN : Aside0 ((rows low ns ++ [atS y D]).length = ns.length + 1) := ⟨by rw [List.length_append, rows_len]; rfl⟩
                      have HROW : Aside0 (rows low ns ++ [atS y D] = rows low (ns ++ [D])) := ⟨by rw [rows_snoc]; congr 3; omega⟩
                      have hm1 : (ns.length : Int) + 1 - 17 ≤ 0 := by omega
                      have HYE := Aside0.mk hy
                      have HNL := Aside0.mk hnl
                      have HFL := Aside0.mk hfl
                      clear hy hnl hfl
                      go_upto_region 38 with (first
                      | (refine wpList_load51 ?hw _ rfl w6.heap.size rfl (atS y D) HBS.out (atS_ok _ _) ?_; (case hw => rfl))
                      | (go_at_call 31; (with_reducible refine (putK w.heap.size S (S.set (y % 17).toNat (atS y D)) f ns.length f (ns.length + 1) y (atS y D) true _ HIS.out.ring (atS_ok _ _) HBD5.out HYB.out HOK.out HPUT.out).mono ?_); rintro e w7 ⟨rfl, H7, X7⟩; have HV7 := Aside0.mk (HIS.out.have_.only HIS.out.ring X7.out); have HB7 := Aside0.mk (HIS.out.below.trans (X7.out.below (Nat.le_refl _) HIS.out.below.size)); have HBS7 := Aside0.mk ((X7.out.block _ (blk_lt HBS.out) HSZ.out).trans HBS.out)))
                      have HM7 : Aside0 (Mid w w7 w.heap.size (.slice A ns.length c) (S.set (y % 17).toNat (atS y D)) f (ns.length + 1) (rows low ns)) := ⟨⟨H7.out, HV7.out, HB7.out, Nat.le_refl _⟩⟩
                      have HMb := Aside0.mk (HM7.out.alloc (.cells (atS y D).toArray 51))
                      have HBb := Aside0.mk (heap_alloc_new w7 (.cells (atS y D).toArray 51))
                      clear HV7 HB7
                      go_wp2_with (first
                        | (refine wpList_load51 ?hw _ rfl w6.heap.size rfl (atS y D) HBS7.out (atS_ok _ _) ?_; (case hw => rfl))
                        | (refine wpList_buildOne rfl _ rfl (atS y D) rfl (atS_ok _ _) ?_)
                        | (refine wpList_append_have rfl _ _ rfl rfl HMb.out.have_ (some ⟨w7.heap.size, 0, none⟩) 1 1 rfl [atS y D] rfl (one_ok y D) (src_one HBb.out) HXL.out (by omega) HMb.out.below.size ?_; intro v8 w8 hv8 hg8 _; have HM8 := Aside0.mk (HMb.out.grown hv8 hg8); obtain ⟨A8, c8, rfl, hc8⟩ := hv8.sliceN (n := ns.length + 1) HXN.out; clear hv8 hg8))
                      go_meet
                      case rel => exact ⟨_, f, low, ns ++ [D], ⟨⟨by rw [List.length_append, List.length_singleton]; exact HM8.out.ring, HFIT.out, by have h := HM8.out.have_; rw [HROW.out] at h; exact h, HM8.out.below, Nat.le_refl _, by rw [List.length_append, List.length_singleton]; have h1 := HNL.out; have h2 := HYE.out; omega, by have := HIS.out.f1; omega⟩⟩⟩
--ENDARM N1
                    · as_aux_lemma =>
--ARM N2
                      have h17e : ns.length = 17 := by omega
                      have HPUT := Aside0.mk (put_roll S f ns.length y (atS y D) (by omega) (by omega) (by omega))
                      have HFIT := Aside0.mk (HIS.out.fits.roll h17e D y (by omega))
                      have HXN : Aside0 ((rows low ns ++ [atS y D]).length = 18) := ⟨by rw [List.length_append, rows_len, h17e]; rfl⟩
                      have HROW : Aside0 ((rows low ns ++ [atS y D]).drop 1 = rows (low + 1) (ns.drop 1 ++ [D])) := ⟨by rw [rows_snoc, rows_tail, List.drop_append_of_le_length (by rw [rows_len]; omega)]; congr 3; rw [List.length_drop]; omega⟩
                      have H17 := Aside0.mk h17e
                      have HYE := Aside0.mk hy
                      have HNL := Aside0.mk hnl
                      have HFL := Aside0.mk hfl
                      clear hy hnl hfl h17e h17
                      go_upto_region 38 with (first
                      | (refine wpList_load51 ?hw _ rfl w6.heap.size rfl (atS y D) HBS.out (atS_ok _ _) ?_; (case hw => rfl))
                      | (go_at_call 31; (with_reducible refine (putK w.heap.size S (S.set (y % 17).toNat (atS y D)) f ns.length (f + 1) 17 y (atS y D) true _ HIS.out.ring (atS_ok _ _) HBD5.out HYB.out HOK.out HPUT.out).mono ?_); rintro e w7 ⟨rfl, H7, X7⟩; have HV7 := Aside0.mk (HIS.out.have_.only HIS.out.ring X7.out); have HB7 := Aside0.mk (HIS.out.below.trans (X7.out.below (Nat.le_refl _) HIS.out.below.size)); have HBS7 := Aside0.mk ((X7.out.block _ (blk_lt HBS.out) HSZ.out).trans HBS.out)))
                      have HM7 : Aside0 (Mid w w7 w.heap.size (.slice A ns.length c) (S.set (y % 17).toNat (atS y D)) (f + 1) 17 (rows low ns)) := ⟨⟨H7.out, HV7.out, HB7.out, Nat.le_refl _⟩⟩
                      have HMb := Aside0.mk (HM7.out.alloc (.cells (atS y D).toArray 51))
                      have HBb := Aside0.mk (heap_alloc_new w7 (.cells (atS y D).toArray 51))
                      clear HV7 HB7
                      go_wp2_with (first
                        | (refine wpList_load51 ?hw _ rfl w6.heap.size rfl (atS y D) HBS7.out (atS_ok _ _) ?_; (case hw => rfl))
                        | (refine wpList_buildOne rfl _ rfl (atS y D) rfl (atS_ok _ _) ?_)
                        | (refine wpList_append_have rfl _ _ rfl rfl HMb.out.have_ (some ⟨w7.heap.size, 0, none⟩) 1 1 rfl [atS y D] rfl (one_ok y D) (src_one HBb.out) HXL.out (by omega) HMb.out.below.size ?_; intro v8 w8 hv8 hg8 _; have HM8 := Aside0.mk (HMb.out.grown hv8 hg8); obtain ⟨A8, c8, rfl, hc8⟩ := hv8.sliceN (n := 18) HXN.out; clear hv8 hg8))
                      go_meet
                      case rel => exact ⟨_, f + 1, low + 1, ns.drop 1 ++ [D], ⟨⟨by rw [List.length_append, List.length_singleton, List.length_drop, H17.out]; exact HM8.out.ring, HFIT.out, by have h := HM8.out.have_.drop 1 (by omega) hc8; rw [HROW.out, if_neg (by omega)] at h; exact h, HM8.out.below, Nat.le_refl _, by rw [List.length_append, List.length_singleton, List.length_drop]; have h1 := HNL.out; have h2 := HYE.out; have h3 := H17.out; omega, by have := HIS.out.f1; omega⟩⟩⟩
--ENDARM N2
                  · have b3 : (y == nw + 1) = false := beq_eq_false_iff_ne.2 hy
                    by_cases hin : low ≤ y ∧ y ≤ nw
                    · as_aux_lemma =>
--ARM N3
                      obtain ⟨hi1, hi2⟩ := hin
                      have b4 : decide (low ≤ y) = true := decide_eq_true hi1
                      have b5 : decide (y ≤ nw) = true := decide_eq_true hi2
                      have HOK : Aside0 (Ring.putOk ⟨S, f, ns.length⟩ y = true) := ⟨(putOk_iff _ _ _ _).2 ⟨by omega, .inr (by omega)⟩⟩
                      have HPUT := Aside0.mk (put_in S f ns.length y (atS y D) (by omega) (by omega) (by omega))
                      have HFIT := Aside0.mk (HIS.out.fits.over D y (y - low).toNat (by omega) (by omega))
                      have HLL : Aside0 (0 ≤ low ∧ low ≤ y ∧ y < low + ns.length ∧ y ≤ 2000000000000 ∧ ns.length ≤ 17 ∧ ns.length ≤ c) := ⟨by omega⟩
                      clear hnl hfl hi1 hi2 hy
                      go_upto_region 41 with (first
                        | (refine wpList_load51 ?hw _ rfl w6.heap.size rfl (atS y D) HBS.out (atS_ok _ _) ?_; (case hw => rfl))
                        | (go_at_call 31; (with_reducible refine (putK w.heap.size S (S.set (y % 17).toNat (atS y D)) f ns.length f ns.length y (atS y D) true _ HIS.out.ring (atS_ok _ _) HBD5.out HYB.out HOK.out HPUT.out).mono ?_); rintro e w7 ⟨rfl, H7, X7⟩; have HV7 := Aside0.mk (HIS.out.have_.only HIS.out.ring X7.out); have HB7 := Aside0.mk (HIS.out.below.trans (X7.out.below (Nat.le_refl _) HIS.out.below.size)); have HBS7 := Aside0.mk ((X7.out.block _ (blk_lt HBS.out) HSZ.out).trans HBS.out)))
                      have HM7 : Aside0 (Mid w w7 w.heap.size (.slice A ns.length c) (S.set (y % 17).toNat (atS y D)) f ns.length (rows low ns)) := ⟨⟨H7.out, HV7.out, HB7.out, Nat.le_refl _⟩⟩
                      clear HV7 HB7
                      obtain ⟨l1, l2, l3, l4, l5, l6⟩ := HLL.out
                      refine region41 rfl rfl rfl rfl rfl HM7.out l6 HBS7.out l5 l1 l4 l2 l3 ?_
                      clear l1 l2 l3 l4 l5 l6
                      intro u1 u2 u3 u4 u5 u6 u7 u8 u9 u10 u11 u12 v0 v3 v5 v6 v8 w8 hm8
                      have HM8 := Aside0.mk hm8
                      clear hm8
                      simp only [Act.put, List.setIfInBounds_toArray, List.set_cons_zero, List.set_cons_succ]
                      go_wp2
                      go_meet
                      case rel => exact ⟨_, f, low, ns.set (y - low).toNat D, ⟨⟨by rw [List.length_set]; exact HM8.out.ring, HFIT.out, HM8.out.have_, HM8.out.below, Nat.le_refl _, by rw [List.length_set]; have := HIS.out.bd; omega, by have := HIS.out.f1; omega⟩⟩⟩
--ENDARM N3
                    · have HOK : Aside0 (Ring.putOk ⟨S, f, ns.length⟩ y = false) := ⟨by rw [← Bool.not_eq_true, putOk_iff]; omega⟩
                      have HPUT := Aside0.mk (put_none S f ns.length y (atS y D) HOK.out)
                      by_cases hlo : low ≤ y
                      · as_aux_lemma =>
--ARM N4a
                        have b4 : decide (low ≤ y) = true := decide_eq_true hlo
                        have b5 : decide (y ≤ nw) = false := decide_eq_false (fun h => hin ⟨hlo, h⟩)
                        clear hnl hfl hin hlo hy
                        go_wp2_with (first
                          | (refine wpList_load51 ?hw _ rfl w6.heap.size rfl (atS y D) HBS.out (atS_ok _ _) ?_; (case hw => rfl))
                          | (go_at_call 31; (with_reducible refine (putK w.heap.size S S f ns.length f ns.length y (atS y D) false _ HIS.out.ring (atS_ok _ _) HBD5.out HYB.out HOK.out HPUT.out).mono ?_); rintro e w7 ⟨rfl, H7, X7⟩; have HI7 := Aside0.mk (HIS.out.only H7.out X7.out)))
                        go_meet
                        case rel => exact ⟨S, f, low, ns, ⟨⟨HI7.out.ring, HI7.out.fits, HI7.out.have_, HI7.out.below, Nat.le_refl _, by have := HI7.out.bd; omega, by have := HI7.out.f1; omega⟩⟩⟩
--ENDARM N4a
                      · as_aux_lemma =>
--ARM N4b
                        have b4 : decide (low ≤ y) = false := decide_eq_false hlo
                        clear hnl hfl hin hlo hy
                        go_wp2_with (first
                          | (refine wpList_load51 ?hw _ rfl w6.heap.size rfl (atS y D) HBS.out (atS_ok _ _) ?_; (case hw => rfl))
                          | (go_at_call 31; (with_reducible refine (putK w.heap.size S S f ns.length f ns.length y (atS y D) false _ HIS.out.ring (atS_ok _ _) HBD5.out HYB.out HOK.out HPUT.out).mono ?_); rintro e w7 ⟨rfl, H7, X7⟩; have HI7 := Aside0.mk (HIS.out.only H7.out X7.out)))
                        go_meet
                        case rel => exact ⟨S, f, low, ns, ⟨⟨HI7.out.ring, HI7.out.fits, HI7.out.have_, HI7.out.below, Nat.le_refl _, by have := HI7.out.bd; omega, by have := HI7.out.f1; omega⟩⟩⟩
--ENDARM N4b
--END3
            case rest =>
              obtain ⟨S', f', low', ns', HJ⟩ := hcut
              clear HI5 BA5 j2
--PIECE4
              obtain ⟨A', c', rfl, hcl'⟩ := HJ.out.slice
              have hn17 := HJ.out.fits.len
              have hl0 := HJ.out.fits.low0
              have hbd' := HJ.out.bd
              have hfb := HJ.out.f1
              have hff := HJ.out.fits.f0
              go_upto_if 177 with fail
              go_cut [14] (fun s14 wx => s14 = .int .i64 (newestOf low' ns') ∧ wx = wc)
              case first =>
                by_cases he : ns'.length = 0
                · as_aux_lemma =>
--ARM Pa
                  obtain rfl : ns' = [] := List.eq_nil_of_length_eq_zero he
                  clear he
                  go_wp2
                  go_meet
                  case rel => exact ⟨rfl, rfl⟩
--ENDARM Pa
                · as_aux_lemma =>
--ARM Pb
                  have hpos : 0 < ns'.length := by omega
                  have ht : decide (0 < ns'.length) = true := decide_eq_true hpos
                  have ht2 : decide (0 < (ns'.length : Int)) = true := decide_eq_true (by omega)
                  have h7 : newestOf low' ns' = low' + ns'.length - 1 := by unfold newestOf; rw [if_neg he]
                  have H7 := Aside0.mk h7
                  obtain ⟨b, o, hA, hcell, _⟩ := HJ.out.have_.cell (ns'.length - 1) (by omega)
                  subst hA
                  rw [Nat.add_mul] at hcell
                  have e1 : low' + ((ns'.length - 1 : Nat) : Int) = low' + ns'.length - 1 := by omega
                  rw [e1] at hcell
                  clear h7 he e1
                  go_wp2
                  go_meet
                  case rel => exact ⟨by rw [H7.out], rfl⟩
--ENDARM Pb
              case rest =>
                obtain ⟨rfl, rfl⟩ := hcut
                have hnv : newest f' ns'.length = newestOf low' ns' := by rw [HJ.out.fits.newest]; rfl
                obtain ⟨nv, hnv2⟩ : ∃ nv, newestOf low' ns' = nv := ⟨_, rfl⟩
                rw [hnv2] at hnv
                rw [hnv2]
                have HNV := Aside0.mk hnv
                have HNV2 := Aside0.mk hnv2
                have hnvb : -1 ≤ nv ∧ nv ≤ 1099511627776 + 100 * (x + 1) := by rw [← hnv2]; unfold newestOf; split <;> omega
                obtain ⟨hnv0, hnv1⟩ := hnvb
                have HBDJ : Aside0 (0 ≤ f' ∧ f' ≤ 1000000000000000 ∧ 0 ≤ (ns'.length : Int) ∧ (ns'.length : Int) ≤ 17) := ⟨by omega⟩
                clear hnv hnv2
                go_wp2_with (first
                  | (go_at_call 34; (with_reducible refine (countK _ S' f' ns'.length _ HJ.out.ring).mono ?_); rintro e w6 ⟨rfl, H6, X6⟩; have HJ6 := Aside0.mk (HJ.out.only H6.out X6.out))
                  | (go_at_call 33; (with_reducible refine (newestK _ S' f' ns'.length nv _ HJ6.out.ring HBDJ.out HNV.out).mono ?_); rintro e w7 ⟨rfl, H7, X7⟩; have HJ7 := Aside0.mk (HJ6.out.only H7.out X7.out)))
                go_loopg [15] 24 (fun kq v15 wx => ∃ z : Int, v15 = .int .i64 z ∧ Aside0 (-2 ≤ z ∧ z + kq = 22) ∧ Aside0 (Inv w wx w.heap.size (.slice A' ns'.length c') S' f' low' ns' (1099511627776 + 100 * (x + 1))))
                case atStart => exact ⟨-2, rfl, ⟨by omega⟩, HJ7⟩
                case round =>
                  obtain ⟨z, rfl, HZ, HJZ⟩ := hrel
                  cases gk with
                  | zero =>
                    have hz22 : z = 22 := by have := HZ.out; omega
                    subst hz22
                    go_wp2
                    go_roundg k1
                    case measure => omega
                    case rel => exact ⟨x + 1, S', f', low', ns', rfl, ⟨by have := HK.out; omega⟩, HJZ⟩
                  | succ k2 =>
                    have hz21 : z ≤ 21 ∧ -2 ≤ z := by have := HZ.out; omega
                    have hz21d : decide (z < 22) = true := decide_eq_true (by omega)
                    obtain ⟨y', hy'⟩ : ∃ y', nv - 19 + z = y' := ⟨_, rfl⟩
                    have hyb : -30 ≤ y' ∧ y' ≤ 1099511627776 + 100 * (x + 1) + 10 := by omega
                    by_cases hin : 0 < ns'.length ∧ low' ≤ y' ∧ y' ≤ nv
                    · as_aux_lemma =>
--ARM Gin
                      obtain ⟨hpos, hi1, hi2⟩ := hin
                      have hnv3 : nv = low' + ns'.length - 1 := by
                        have h1 := HNV2.out
                        unfold newestOf at h1
                        rw [if_neg (by omega)] at h1
                        omega
                      have hidx : (y' - low').toNat < ns'.length := by omega
                      have hgs := HJZ.out.fits.get_in y' hi1 (by omega)
                      have hgb : getB f' ns'.length y' = true := by
                        rw [HJZ.out.fits.getB]
                        simp
                        omega
                      obtain ⟨D', hD'⟩ : ∃ D', ns'.getD (y' - low').toNat 0 = D' := ⟨_, rfl⟩
                      rw [hD'] at hgs
                      have HDD := Aside0.mk hD'
                      have HGS := Aside0.mk hgs
                      have HGB := Aside0.mk hgb
                      have HYY := Aside0.mk hy'
                      have HIX := Aside0.mk hidx
                      obtain ⟨b, o, hA, _, _⟩ := HJZ.out.have_.cell 0 hpos
                      subst hA
                      have hp1 : decide (0 < ns'.length) = true := decide_eq_true hpos
                      have hp2 : decide (0 < (ns'.length : Int)) = true := decide_eq_true (by omega)
                      have hp3 : decide (low' ≤ y') = true := decide_eq_true hi1
                      have hp4 : decide (y' ≤ nv) = true := decide_eq_true hi2
                      have hp5 : 0 ≤ y' - low' := by omega
                      have hp6 : y' - low' < (ns'.length : Int) := by omega
                      have e9 : low' + (((y' - low').toNat : Nat) : Int) = y' := by omega
                      have E9 := Aside0.mk e9
                      have HNV3 := Aside0.mk hnv3
                      clear hgs hgb hidx e9 hnv3 hD'
                      go_upto_region 54 with (first
                        | (go_at_call 35; (with_reducible refine (getK _ S' f' ns'.length y' _ HJZ.out.ring HBDJ.out (atS y' D') true HGS.out HGB.out).mono ?_); rintro e v1 ⟨rfl, G1, Z1, O1⟩; have HJ1 := Aside0.mk (HJZ.out.only G1.out Z1.out))
                        | (refine wpList_store51 rfl _ _ rfl v1.heap.size (atS y' D') rfl rfl (atS 0 0) (heap_alloc_new v1 _) (atS_ok _ _) O1.out ?_; intro hg; obtain ⟨wsa, esa⟩ : ∃ ws, ws = (World.setRow (World.alloc v1 (.cells (atS 0 0).toArray 51)) v1.heap.size (atS y' D').toArray) := ⟨_, rfl⟩; have HJSa := Aside0.mk ((HJ1.out).step (show Below v1.heap.size v1 wsa from by rw [esa]; exact below_setRow ((Below.refl _ _).alloc (Nat.le_refl _) _) (Nat.le_refl _) _)); rw [← esa] at hg ⊢; have HBSa := Aside0.mk hg; clear hg esa; have c0 := (HJSa.out.have_.at_ 0 hpos).1; simp only [Nat.zero_mul, Nat.add_zero, Int.natCast_zero, Int.add_zero, Int.ofNat_zero, Int.cast_ofNat_Int] at c0))
                      have hcs := HJSa.out.have_.at_ (y' - low').toNat HIX.out
                      rw [E9.out, HDD.out] at hcs
                      have HCS := Aside0.mk hcs.2
                      have HBR := Aside0.mk (rangeAt_box HBSa.out)
                      have hix0 : ((y' - low').toNat : Int) = y' - low' := by omega
                      have HIX0 := Aside0.mk hix0
                      clear hcs hix0
                      refine wp_region_quiet_lit (by kernel_rfl) (by kernel_rfl) ?_
                      repeat (first
                        | (refine wpQuiet_load51 ?hw _ rfl _ _ rfl _ (atS_ok y' D') HBR.out ?_; (case hw => rfl))
                        | (refine wpQuiet_load51 ?hw _ rfl _ _ rfl _ (atS_ok y' D') HCS.out ?_; (case hw => rfl))
                        | (refine wpQuiet_neq51 ?hw _ _ rfl _ rfl rfl (atS_ok y' D') ?_; (case hw => rfl))
                        | go_big_quiet_step (fail)
                        | quiet_step (fail))
                      refine wpQuiet_nil ?_
                      intro _ hw'
                      obtain ⟨nq, hw''⟩ := hw'
                      subst hw''
                      go_wp2
                      go_roundg k2
                      case measure => omega
                      case rel => exact ⟨z + 1, rfl, ⟨by have := HZ.out; omega⟩, ⟨HJSa.out.step (below_drewN (Below.refl _ _) nq)⟩⟩
--ENDARM Gin
                    · have hgs : getS S' f' ns'.length y' = atS 0 0 := HJZ.out.fits.get_out y' (by have h1 := HNV2.out; unfold newestOf at h1; split at h1 <;> omega)
                      have hgb : getB f' ns'.length y' = false := by
                        rw [HJZ.out.fits.getB]
                        have h1 := HNV2.out
                        unfold newestOf at h1
                        split at h1 <;> simp <;> omega
                      have HGS := Aside0.mk hgs
                      have HGB := Aside0.mk hgb
                      have HYY := Aside0.mk hy'
                      clear hgs hgb
                      by_cases hn0 : ns'.length = 0
                      · as_aux_lemma =>
--ARM G0
                        have hp1 : decide (0 < ns'.length) = false := decide_eq_false (by omega)
                        have hp2 : decide (0 < (ns'.length : Int)) = false := decide_eq_false (by omega)
                        clear hn0 hin
                        go_upto_region 54 with (first
                          | (go_at_call 35; (with_reducible refine (getK _ S' f' _ y' _ HJZ.out.ring HBDJ.out (atS 0 0) false HGS.out HGB.out).mono ?_); rintro e v1 ⟨rfl, G1, Z1, O1⟩; have HJ1 := Aside0.mk (HJZ.out.only G1.out Z1.out))
                          | (refine wpList_store51 rfl _ _ rfl v1.heap.size (atS 0 0) rfl rfl (atS 0 0) (heap_alloc_new v1 _) (atS_ok _ _) O1.out ?_; intro hg; obtain ⟨wsa, esa⟩ : ∃ ws, ws = (World.setRow (World.alloc v1 (.cells (atS 0 0).toArray 51)) v1.heap.size (atS 0 0).toArray) := ⟨_, rfl⟩; have HJSa := Aside0.mk ((HJ1.out).step (show Below v1.heap.size v1 wsa from by rw [esa]; exact below_setRow ((Below.refl _ _).alloc (Nat.le_refl _) _) (Nat.le_refl _) _)); rw [← esa] at hg ⊢; have HBSa := Aside0.mk hg; clear hg esa; have c0 := True.intro))
                        refine region54_out rfl rfl rfl rfl HBSa.out ?_
                        intro u0 u1 u2 u3 u4 u5 u6 u7 u8 u9 u10 u11 u12 u13 u14 u15 u16 u17 u18 u19 u20 u21 u22 u23 u24 u25 u26
                        simp only [Act.put, List.setIfInBounds_toArray, List.set_cons_zero, List.set_cons_succ]
                        go_wp2
                        go_roundg k2
                        case measure => omega
                        case rel => exact ⟨z + 1, rfl, ⟨by have := HZ.out; omega⟩, ⟨HJSa.out.step (below_drewN (Below.refl _ _) 1)⟩⟩
--ENDARM G0
                      · have hpos : 0 < ns'.length := by omega
                        have hnv3 : nv = low' + ns'.length - 1 := by
                          have h1 := HNV2.out
                          unfold newestOf at h1
                          rw [if_neg (by omega)] at h1
                          omega
                        obtain ⟨b, o, hA, _, _⟩ := HJZ.out.have_.cell 0 hpos
                        subst hA
                        have hp1 : decide (0 < ns'.length) = true := decide_eq_true hpos
                        have hp2 : decide (0 < (ns'.length : Int)) = true := decide_eq_true (by omega)
                        by_cases hlo : low' ≤ y'
                        · as_aux_lemma =>
--ARM G1
                          have hp3 : decide (low' ≤ y') = true := decide_eq_true hlo
                          have hp4 : decide (y' ≤ nv) = false := decide_eq_false (fun h => hin ⟨hpos, hlo, h⟩)
                          clear hn0 hin hnv3
                          go_upto_region 54 with (first
                            | (go_at_call 35; (with_reducible refine (getK _ S' f' _ y' _ HJZ.out.ring HBDJ.out (atS 0 0) false HGS.out HGB.out).mono ?_); rintro e v1 ⟨rfl, G1, Z1, O1⟩; have HJ1 := Aside0.mk (HJZ.out.only G1.out Z1.out))
                            | (refine wpList_store51 rfl _ _ rfl v1.heap.size (atS 0 0) rfl rfl (atS 0 0) (heap_alloc_new v1 _) (atS_ok _ _) O1.out ?_; intro hg; obtain ⟨wsa, esa⟩ : ∃ ws, ws = (World.setRow (World.alloc v1 (.cells (atS 0 0).toArray 51)) v1.heap.size (atS 0 0).toArray) := ⟨_, rfl⟩; have HJSa := Aside0.mk ((HJ1.out).step (show Below v1.heap.size v1 wsa from by rw [esa]; exact below_setRow ((Below.refl _ _).alloc (Nat.le_refl _) _) (Nat.le_refl _) _)); rw [← esa] at hg ⊢; have HBSa := Aside0.mk hg; clear hg esa; have c0 := (HJSa.out.have_.at_ 0 hpos).1; simp only [Nat.zero_mul, Nat.add_zero, Int.natCast_zero, Int.add_zero, Int.ofNat_zero, Int.cast_ofNat_Int] at c0))
                          refine region54_out rfl rfl rfl rfl HBSa.out ?_
                          intro u0 u1 u2 u3 u4 u5 u6 u7 u8 u9 u10 u11 u12 u13 u14 u15 u16 u17 u18 u19 u20 u21 u22 u23 u24 u25 u26
                          simp only [Act.put, List.setIfInBounds_toArray, List.set_cons_zero, List.set_cons_succ]
                          go_wp2
                          go_roundg k2
                          case measure => omega
                          case rel => exact ⟨z + 1, rfl, ⟨by have := HZ.out; omega⟩, ⟨HJSa.out.step (below_drewN (Below.refl _ _) 1)⟩⟩
--ENDARM G1
                        · as_aux_lemma =>
--ARM G2
                          have hp3 : decide (low' ≤ y') = false := decide_eq_false hlo
                          clear hn0 hin hnv3
                          go_upto_region 54 with (first
                            | (go_at_call 35; (with_reducible refine (getK _ S' f' _ y' _ HJZ.out.ring HBDJ.out (atS 0 0) false HGS.out HGB.out).mono ?_); rintro e v1 ⟨rfl, G1, Z1, O1⟩; have HJ1 := Aside0.mk (HJZ.out.only G1.out Z1.out))
                            | (refine wpList_store51 rfl _ _ rfl v1.heap.size (atS 0 0) rfl rfl (atS 0 0) (heap_alloc_new v1 _) (atS_ok _ _) O1.out ?_; intro hg; obtain ⟨wsa, esa⟩ : ∃ ws, ws = (World.setRow (World.alloc v1 (.cells (atS 0 0).toArray 51)) v1.heap.size (atS 0 0).toArray) := ⟨_, rfl⟩; have HJSa := Aside0.mk ((HJ1.out).step (show Below v1.heap.size v1 wsa from by rw [esa]; exact below_setRow ((Below.refl _ _).alloc (Nat.le_refl _) _) (Nat.le_refl _) _)); rw [← esa] at hg ⊢; have HBSa := Aside0.mk hg; clear hg esa; have c0 := (HJSa.out.have_.at_ 0 hpos).1; simp only [Nat.zero_mul, Nat.add_zero, Int.natCast_zero, Int.add_zero, Int.ofNat_zero, Int.cast_ofNat_Int] at c0))
                          refine region54_out rfl rfl rfl rfl HBSa.out ?_
                          intro u0 u1 u2 u3 u4 u5 u6 u7 u8 u9 u10 u11 u12 u13 u14 u15 u16 u17 u18 u19 u20 u21 u22 u23 u24 u25 u26
                          simp only [Act.put, List.setIfInBounds_toArray, List.set_cons_zero, List.set_cons_succ]
                          go_wp2
                          go_roundg k2
                          case measure => omega
                          case rel => exact ⟨z + 1, rfl, ⟨by have := HZ.out; omega⟩, ⟨HJSa.out.step (below_drewN (Below.refl _ _) 1)⟩⟩
--ENDARM G2
--END4
end Go.Proofs.Ytodidkjajkjlaaa.RingRep
