/- A slice of acts that came in, read as a plain list (plain lemmas). -/
import Derived.Test.YtodidkjajkjlaaaPGuessTellsx0
import Derived.Deep.Slices
import Derived.ChangeSame
import Derived.ChangeArms
import Derived.OpenShut
import Derived.SizedLaws
import Derived.Lib.SmallJoins
namespace Go.Proofs.Ytodidkjajkjlaaa.RingRep
open Go.ChangeShapes Go.WideShapes Go.Deep
open Go.RowKit Go.Proofs.Ytodidkjajkjlaaa.PGuessTells Go.Proofs.YtodidkjajkjlaaaW.PrintWords Go.Proofs.YtodidkjajkjlaaaW.PrintLast Go.Proofs.YtodidkjajkjlaaaW.PrintMore
set_option linter.unusedVariables false
set_option linter.unusedSimpArgs false
section
variable {H : Type} {enc : TypeId × Value → H} {w : World} {base : Nat} {spare : Nat → Bool} {held : Bool}

theorem open_act {fuel : Nat} {cs : List Value} {x : DataW H × List MemPlace} (h : DataW.trod enc Try.prog w base spare held fuel 65 cs = some x) : ∃ i : S34, cs = [.int .i64 i.f0, .int .i64 i.f1, .int .i64 i.f2] := by
  obtain ⟨y0, y1, y2, n, _, hl, h0, h1, h2⟩ := trod_struct3 Try.underlying65 h
  have hc : Try.prog.cellsOf 65 = 3 := by kernel_rfl
  have hc3 : Try.prog.cellsOf 3 = 1 := by kernel_rfl
  rw [hc] at hl
  match cs, hl with
  | [a, b, c], _ =>
    simp only [hc3] at h0 h1 h2
    obtain ⟨n0, e0, _⟩ := DataW.trod_int Try.underlying3 h0
    obtain ⟨n1, e1, _⟩ := DataW.trod_int Try.underlying3 h1
    obtain ⟨n2, e2, _⟩ := DataW.trod_int Try.underlying3 h2
    simp at e0 e1 e2
    exact ⟨⟨n0, n1, n2⟩, by rw [e0, e1, e2]⟩

theorem open_acts {a : Option Addr} {len cap : Nat} {d : DataW H} {ps : List MemPlace} (h : DataW.Trod enc Try.prog w base spare held 62 (.slice a len cap) d ps) :
    ∃ l : List S34, len = l.length ∧ l.length ≤ cap ∧ Kd.C k34 w a l.length l := by
  obtain ⟨fuel, hf⟩ := h
  rcases open_slice Try.underlying62 hf with ⟨hcs, _⟩ | ⟨x, len', cap', m, n, D, Pl, hcs, _, hl, hm, hmm, _, hx⟩
  · simp [Value.cells] at hcs
    obtain ⟨rfl, rfl, rfl⟩ := hcs
    exact ⟨[], rfl, by simp, ⟨rfl, by simp, fun h => absurd h (by simp)⟩⟩
  · simp [Value.cells] at hcs
    obtain ⟨rfl, rfl, rfl⟩ := hcs
    have hc : Try.prog.cellsOf 65 = 3 := by kernel_rfl
    have hle : len ≤ m := by rw [hmm]; split <;> omega
    have key : ∀ i, i < len → ∃ y : S34, ∀ j u, [Value.int .i64 y.f0, .int .i64 y.f1, .int .i64 y.f2][j]? = some u → w.cell? (x.add (i * 3 + j)) = some u := fun i hi => by
      obtain ⟨cs', h1, h2⟩ := hx i (by omega)
      obtain ⟨y, rfl⟩ := open_act h2
      rw [hc] at h1
      obtain ⟨_, _, hat⟩ := World.cells?_some h1
      refine ⟨y, fun j u hu => ?_⟩
      have hj : j < 3 := (List.getElem?_eq_some_iff.1 hu).1
      rw [← Go.Deep.add_add, hat j hj, hu]
    have key' : ∀ i, ∃ y : S34, i < len → ∀ j u, [Value.int .i64 y.f0, .int .i64 y.f1, .int .i64 y.f2][j]? = some u → w.cell? (x.add (i * 3 + j)) = some u := fun i => by
      by_cases hi : i < len
      · obtain ⟨y, hy⟩ := key i hi
        exact ⟨y, fun _ => hy⟩
      · exact ⟨z34, fun h => absurd h hi⟩
    obtain ⟨f, hfun⟩ : ∃ f : Nat → S34, ∀ i, i < len → ∀ j u, [Value.int .i64 (f i).f0, .int .i64 (f i).f1, .int .i64 (f i).f2][j]? = some u → w.cell? (x.add (i * 3 + j)) = some u :=
      ⟨fun i => (key' i).choose, fun i hi => (key' i).choose_spec hi⟩
    refine ⟨(List.range len).map f, by simp, by simpa using hl, ?_⟩
    have hlen : ((List.range len).map f).length = len := by simp
    rw [hlen]
    refine ⟨hlen, by unfold maxLen at hm; omega, fun _ => ⟨x, rfl, fun j p hj => ?_⟩⟩
    have hjl : j < len := by have := (List.getElem?_eq_some_iff.1 hj).1; simpa using this
    have : p = f j := by simpa [hjl] using hj.symm
    subst this
    exact ⟨_, rfl, k34_mk w _, fun i u hu => hfun j hjl i u hu⟩

theorem sized_acts {W : World} {a : Option Addr} {len cap : Nat} {d : DataW H} {ps : List MemPlace} {ts : List TypeId} {ds : List (DataW H)} {j : Nat}
    (hsz : (DataW.weightsEach Try.prog ts ds).all (· ≤ reachBytes) = true) (ht : ts[j]? = some 62) (hd : ds[j]? = some d)
    (h : DataW.Trod enc Try.prog W base spare held 62 (.slice a len cap) d ps) : len ≤ 100000000000000 := by
  obtain ⟨fuel, hf⟩ := h
  rcases open_slice Try.underlying62 hf with ⟨hcs, _⟩ | ⟨x, len', cap', m, n, D, Pl, hcs, _, hl, hm, hmm, hx, _⟩
  · simp [Value.cells] at hcs
    obtain ⟨rfl, rfl, rfl⟩ := hcs
    simp
  · simp [Value.cells] at hcs
    obtain ⟨rfl, rfl, rfl⟩ := hcs
    obtain ⟨hx, _⟩ := Prod.mk.inj hx
    subst hx
    have z := sized_slice hsz ht hd Try.underlying62
    have hB : Try.prog.bytesOf 65 = 24 := by kernel_rfl
    rw [hB] at z
    have hr : reachBytes < 2 ^ 47 := reachBytes_lt
    simp at z
    omega
end
end Go.Proofs.Ytodidkjajkjlaaa.RingRep
