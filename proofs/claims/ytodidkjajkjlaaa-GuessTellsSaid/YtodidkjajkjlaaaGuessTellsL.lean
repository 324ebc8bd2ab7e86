/- GuessTells answers true for every input (the walk; rows that can be read). -/
import Derived.Test.YtodidkjajkjlaaaGuessOwnL
namespace Go.Proofs.Ytodidkjajkjlaaa.Alike
open Go.RowKit Go.Proofs.Ytodidkjajkjlaaa.GuessPure Go.Proofs.Ytodidkjajkjlaaa.PGuessTells Go.Proofs.YtodidkjajkjlaaaW.PrintWords Go.Proofs.YtodidkjajkjlaaaW.PrintLast Go.Proofs.YtodidkjajkjlaaaW.PrintMore
set_option linter.unusedVariables false
set_option linter.unusedSimpArgs false

theorem rowS_calls (p own : Int) (A : Option Addr) (c : Nat) (l : List S36) (inp : S34) (w : World) (hr : Kd.C k36 w A l.length l) (hc : l.length ≤ c) (hl : l.length ≤ 100000000000000) :
    Calls Try.prog 22 #[.int .i64 p, .slice A l.length c, .int .i64 own, .agg #[.int .i64 inp.f0, .int .i64 inp.f1, .int .i64 inp.f2]] w fun e w' =>
      ∃ g d, e = .returned (.slice (some ⟨g, 0, none⟩) (slots p) d) ∧ slots p ≤ d ∧ Aside0 (Kd.C k36 w' (some ⟨g, 0, none⟩) (slots p) (rowOf (slots p) l own inp)) ∧ Aside0 (Below w.heap.size w w') :=
  (row_calls p own A c l inp w hr hc hl).mono fun e w' ⟨g, d, he, hd, hC, hb⟩ => ⟨g, d, he, hd, ⟨hC⟩, ⟨hb⟩⟩
theorem refS_calls (p own : Int) (A : Option Addr) (c : Nat) (l : List S36) (inp : S34) (w : World) (hr : Kd.C k36 w A l.length l) (hc : l.length ≤ c) (hl : l.length ≤ 100000000000000) :
    Calls Try.prog 25 #[.int .i64 p, .slice A l.length c, .int .i64 own, .agg #[.int .i64 inp.f0, .int .i64 inp.f1, .int .i64 inp.f2]] w fun e w' =>
      ∃ g d, e = .returned (.slice (some ⟨g, 0, none⟩) (slots p) d) ∧ slots p ≤ d ∧ Aside0 (Kd.C k36 w' (some ⟨g, 0, none⟩) (slots p) (rowOf (slots p) l own inp)) ∧ Aside0 (Below w.heap.size w w') :=
  (ref_calls p own A c l inp w hr hc hl).mono fun e w' ⟨g, d, he, hd, hC, hb⟩ => ⟨g, d, he, hd, ⟨hC⟩, ⟨hb⟩⟩
theorem sameRow_calls (n : Nat) (A B : Option Addr) (c d : Nat) (a : List S36) (w : World) (hn : n = a.length) (ha : Kd.C k36 w A n a) (hb : Kd.C k36 w B n a) (hac : n ≤ c) (hbd : n ≤ d) (h8 : n ≤ 100000000000000) :
    Calls Try.prog 26 #[.slice A n c, .slice B n d] w fun e w' => e = .returned (.bool true) ∧ Aside0 (Below w.heap.size w w') := by
  subst hn
  exact (doubletakeref15_SameRow.calls (a.length + 1) A c a B d a true w ha hac hb hbd (sameRow_f a h8)).mono fun e w' ⟨he, hd⟩ => ⟨he, ⟨below_drawn hd⟩⟩
theorem refAlike_calls (n m : Nat) (A B : Option Addr) (c d : Nat) (a b : List S36) (w : World) (hn : n = a.length) (hm : m = b.length) (ha : Kd.C k36 w A n a) (hb : Kd.C k36 w B m b) (hac : n ≤ c) (hbd : m ≤ d) (h8 : n ≤ 100000000000000) :
    Calls Try.prog 27 #[.slice A n c, .slice B m d] w fun e w' => e = .returned (.bool (alike a b)) ∧ Aside0 (Below w.heap.size w w') := by
  subst hn hm
  exact (doubletakeref20_Alike.calls (a.length + 1) A c a B d b (alike a b) w ha hac hb hbd (alike_f a b h8)).mono fun e w' ⟨he, hd⟩ => ⟨he, ⟨below_drawn hd⟩⟩

set_option maxHeartbeats 8000000 in
set_option maxRecDepth 100000 in
theorem tells_calls (near : Bool) (players own : Int) (inp : S34) (A B : Option Addr) (c d : Nat) (l q : List S36) (w : World) (hr : Kd.C k36 w A l.length l) (hc : l.length ≤ c) (hq : Kd.C k36 w B q.length q) (hd : q.length ≤ d) (hl : l.length ≤ 100000000000000) :
    Calls Try.prog 8 #[.int .i64 players, .slice A l.length c, .slice B q.length d, .int .i64 own, .agg #[.int .i64 inp.f0, .int .i64 inp.f1, .int .i64 inp.f2], .bool near] w fun e w' => e = .returned (.bool true) ∧ Below w.heap.size w w' := by
  have hu34 := Try.underlying34
  have HC := Aside0.mk hr
  have HQ := Aside0.mk hq
  clear hr hq
  have H0 := Aside0.mk ((Below.refl w.heap.size w).alloc (Nat.le_refl _) (.cells #[.int .i64 inp.f0, .int .i64 inp.f1, .int .i64 inp.f2] 34))
  have HA := Aside0.mk (Kd.C_below HC.out H0.out)
  have HAQ := Aside0.mk (Kd.C_below HQ.out H0.out)
  have HAB := Aside0.mk (heap_alloc_new w (.cells #[.int .i64 inp.f0, .int .i64 inp.f1, .int .i64 inp.f2] 34))
  have HAL := Aside0.mk (show w.heap.size < (w.alloc (.cells #[.int .i64 inp.f0, .int .i64 inp.f1, .int .i64 inp.f2] 34)).heap.size by simp)
  cases near
  · have hs8 : slots players ≤ 100000000000000 := by have := (slots_bd players).2; omega
    go_enter Try.func8, Try.ntmps8
    go_wp2_with (first
    | (go_at_call 22; (with_reducible refine (rowS_calls players own A c l inp _ HA.out hc hl).mono ?_); rintro e w3 ⟨g3, d3, rfl, hd3, HR3, HB3⟩; have HC3 := Aside0.mk (Kd.C_below HA.out HB3.out); have HQ3 := Aside0.mk (Kd.C_below HAQ.out HB3.out); have BK3 := Aside0.mk ((HB3.out.block _ HAL.out).trans HAB.out); have k30 := (blk_cell BK3.out 0).trans rfl; have k31 := (blk_cell BK3.out 1).trans rfl; have k32 := (blk_cell BK3.out 2).trans rfl; have HX3 := Aside0.mk (then_ H0.out HB3.out))
    | (go_at_call 25; (with_reducible refine (refS_calls players own A c l inp _ HC3.out hc hl).mono ?_); rintro e w4 ⟨g4, d4, rfl, hd4, HS4, HB4⟩; have HC4 := Aside0.mk (Kd.C_below HC3.out HB4.out); have HQ4 := Aside0.mk (Kd.C_below HQ3.out HB4.out); have HR4 := Aside0.mk (Kd.C_below HR3.out HB4.out); have HX4 := Aside0.mk (then_ HX3.out HB4.out))
    | (go_at_call 23; (with_reducible refine (known_calls _).mono ?_); rintro e w5 ⟨rfl, hb5⟩; have HB5 := Aside0.mk hb5; clear hb5; have HC5 := Aside0.mk (Kd.C_below HC4.out HB5.out); have HQ5 := Aside0.mk (Kd.C_below HQ4.out HB5.out); have HR5 := Aside0.mk (Kd.C_below HR4.out HB5.out); have HS5 := Aside0.mk (Kd.C_below HS4.out HB5.out); have HX5 := Aside0.mk (then_ HX4.out HB5.out))
    | (go_at_call 26; (with_reducible refine (sameRow_calls (slots players) _ _ _ _ (rowOf (slots players) l own inp) _ (rowOf_len _ _ _ _).symm HR5.out HS5.out hd3 hd4 hs8).mono ?_); rintro e w6 ⟨rfl, HB6⟩; have HC6 := Aside0.mk (Kd.C_below HC5.out HB6.out); have HQ6 := Aside0.mk (Kd.C_below HQ5.out HB6.out); have HR6 := Aside0.mk (Kd.C_below HR5.out HB6.out); have HS6 := Aside0.mk (Kd.C_below HS5.out HB6.out); have HX6 := Aside0.mk (then_ HX5.out HB6.out))
    | (go_at_call 24; (with_reducible refine (alikeN_calls (slots players) l.length _ _ _ _ (rowOf (slots players) l own inp) l _ (rowOf_len _ _ _ _).symm rfl HR6.out HC6.out hd3 hc hs8).mono ?_); rintro e w7 ⟨rfl, HB7⟩; have HC7 := Aside0.mk (Kd.C_below HC6.out HB7.out); have HQ7 := Aside0.mk (Kd.C_below HQ6.out HB7.out); have HS7 := Aside0.mk (Kd.C_below HS6.out HB7.out); have HX7 := Aside0.mk (then_ HX6.out HB7.out))
    | (go_at_call 27; (with_reducible refine (refAlike_calls (slots players) l.length _ _ _ _ (rowOf (slots players) l own inp) l _ (rowOf_len _ _ _ _).symm rfl HS7.out HC7.out hd4 hc hs8).mono ?_); rintro e w8 ⟨rfl, HB8⟩; have HC8 := Aside0.mk (Kd.C_below HC7.out HB8.out); have HQ8 := Aside0.mk (Kd.C_below HQ7.out HB8.out); have HX8 := Aside0.mk (then_ HX7.out HB8.out))
    | (go_at_call 24; (with_reducible refine (alikeN_calls l.length q.length _ _ _ _ l q _ rfl rfl HC8.out HQ8.out hc hd hl).mono ?_); rintro e w9 ⟨rfl, HB9⟩; have HC9 := Aside0.mk (Kd.C_below HC8.out HB9.out); have HQ9 := Aside0.mk (Kd.C_below HQ8.out HB9.out); have HX9 := Aside0.mk (then_ HX8.out HB9.out))
    | (go_at_call 27; (with_reducible refine (refAlike_calls l.length q.length _ _ _ _ l q _ rfl rfl HC9.out HQ9.out hc hd hl).mono ?_); rintro e w10 ⟨rfl, HB10⟩; have HX10 := Aside0.mk (then_ HX9.out HB10.out)))
    go_ret
    exact ⟨rfl, HX10.out⟩
  · obtain ⟨p, hp, hp0, hp1⟩ := pick_some players 10 (by omega) (by omega)
    obtain ⟨o, ho, ho0, ho1⟩ := pick_some own 9 (by omega) (by omega)
    have HP := Aside0.mk hp
    have HO := Aside0.mk ho
    clear hp ho
    have hs8 : slots p ≤ 100000000000000 := by have := (slots_bd p).2; omega
    go_enter Try.func8, Try.ntmps8
    go_wp2_with (first
    | (go_at_call 21; (with_reducible refine (pick_calls players 10 p _ HP.out).mono ?_); rintro e w1 ⟨rfl, HB1⟩; have HC1 := Aside0.mk (Kd.C_below HA.out HB1.out); have HQ1 := Aside0.mk (Kd.C_below HAQ.out HB1.out); have BK1 := Aside0.mk ((HB1.out.block _ HAL.out).trans HAB.out); have HL1 := Aside0.mk (Nat.lt_of_lt_of_le HAL.out HB1.out.size); have HX1 := Aside0.mk (then_ H0.out HB1.out))
    | (go_at_call 21; (with_reducible refine (pick_calls own 9 o _ HO.out).mono ?_); rintro e w2 ⟨rfl, HB2⟩; have HC2 := Aside0.mk (Kd.C_below HC1.out HB2.out); have HQ2 := Aside0.mk (Kd.C_below HQ1.out HB2.out); have BK2 := Aside0.mk ((HB2.out.block _ HL1.out).trans BK1.out); have HL2 := Aside0.mk (Nat.lt_of_lt_of_le HL1.out HB2.out.size); have HX2 := Aside0.mk (then_ HX1.out HB2.out); have k20 := (blk_cell BK2.out 0).trans rfl; have k21 := (blk_cell BK2.out 1).trans rfl; have k22 := (blk_cell BK2.out 2).trans rfl)
    | (go_at_call 22; (with_reducible refine (rowS_calls p o A c l inp _ HC2.out hc hl).mono ?_); rintro e w3 ⟨g3, d3, rfl, hd3, HR3, HB3⟩; have HC3 := Aside0.mk (Kd.C_below HC2.out HB3.out); have HQ3 := Aside0.mk (Kd.C_below HQ2.out HB3.out); have BK3 := Aside0.mk ((HB3.out.block _ HL2.out).trans BK2.out); have k30 := (blk_cell BK3.out 0).trans rfl; have k31 := (blk_cell BK3.out 1).trans rfl; have k32 := (blk_cell BK3.out 2).trans rfl; have HX3 := Aside0.mk (then_ HX2.out HB3.out))
    | (go_at_call 25; (with_reducible refine (refS_calls p o A c l inp _ HC3.out hc hl).mono ?_); rintro e w4 ⟨g4, d4, rfl, hd4, HS4, HB4⟩; have HC4 := Aside0.mk (Kd.C_below HC3.out HB4.out); have HQ4 := Aside0.mk (Kd.C_below HQ3.out HB4.out); have HR4 := Aside0.mk (Kd.C_below HR3.out HB4.out); have HX4 := Aside0.mk (then_ HX3.out HB4.out))
    | (go_at_call 23; (with_reducible refine (known_calls _).mono ?_); rintro e w5 ⟨rfl, hb5⟩; have HB5 := Aside0.mk hb5; clear hb5; have HC5 := Aside0.mk (Kd.C_below HC4.out HB5.out); have HQ5 := Aside0.mk (Kd.C_below HQ4.out HB5.out); have HR5 := Aside0.mk (Kd.C_below HR4.out HB5.out); have HS5 := Aside0.mk (Kd.C_below HS4.out HB5.out); have HX5 := Aside0.mk (then_ HX4.out HB5.out))
    | (go_at_call 26; (with_reducible refine (sameRow_calls (slots p) _ _ _ _ (rowOf (slots p) l o inp) _ (rowOf_len _ _ _ _).symm HR5.out HS5.out hd3 hd4 hs8).mono ?_); rintro e w6 ⟨rfl, HB6⟩; have HC6 := Aside0.mk (Kd.C_below HC5.out HB6.out); have HQ6 := Aside0.mk (Kd.C_below HQ5.out HB6.out); have HR6 := Aside0.mk (Kd.C_below HR5.out HB6.out); have HS6 := Aside0.mk (Kd.C_below HS5.out HB6.out); have HX6 := Aside0.mk (then_ HX5.out HB6.out))
    | (go_at_call 24; (with_reducible refine (alikeN_calls (slots p) l.length _ _ _ _ (rowOf (slots p) l o inp) l _ (rowOf_len _ _ _ _).symm rfl HR6.out HC6.out hd3 hc hs8).mono ?_); rintro e w7 ⟨rfl, HB7⟩; have HC7 := Aside0.mk (Kd.C_below HC6.out HB7.out); have HQ7 := Aside0.mk (Kd.C_below HQ6.out HB7.out); have HS7 := Aside0.mk (Kd.C_below HS6.out HB7.out); have HX7 := Aside0.mk (then_ HX6.out HB7.out))
    | (go_at_call 27; (with_reducible refine (refAlike_calls (slots p) l.length _ _ _ _ (rowOf (slots p) l o inp) l _ (rowOf_len _ _ _ _).symm rfl HS7.out HC7.out hd4 hc hs8).mono ?_); rintro e w8 ⟨rfl, HB8⟩; have HC8 := Aside0.mk (Kd.C_below HC7.out HB8.out); have HQ8 := Aside0.mk (Kd.C_below HQ7.out HB8.out); have HX8 := Aside0.mk (then_ HX7.out HB8.out))
    | (go_at_call 24; (with_reducible refine (alikeN_calls l.length q.length _ _ _ _ l q _ rfl rfl HC8.out HQ8.out hc hd hl).mono ?_); rintro e w9 ⟨rfl, HB9⟩; have HC9 := Aside0.mk (Kd.C_below HC8.out HB9.out); have HQ9 := Aside0.mk (Kd.C_below HQ8.out HB9.out); have HX9 := Aside0.mk (then_ HX8.out HB9.out))
    | (go_at_call 27; (with_reducible refine (refAlike_calls l.length q.length _ _ _ _ l q _ rfl rfl HC9.out HQ9.out hc hd hl).mono ?_); rintro e w10 ⟨rfl, HB10⟩; have HX10 := Aside0.mk (then_ HX9.out HB10.out)))
    go_ret
    exact ⟨rfl, HX10.out⟩
end Go.Proofs.Ytodidkjajkjlaaa.Alike
