/- Rows of words among a law's arguments, opened. -/
import Derived.Test.YtpfnnamicbbobaaRN
import Derived.ChangeSame
namespace Go.Proofs.Ytpfnnamicbbobaa.RN
open Go.Proofs.Ytpfnnamicbbobaa.PAll Go.Proofs.YtpfnnamicbbobaaW.PrintWords Go.Deep Go.ChangeShapes Go.WideShapes
abbrev Wd := S59
theorem cells_word : Try.prog.cellsOf 59 = 2 := by kernel_rfl
theorem bytes_word : Try.prog.bytesOf 59 = 24 := by kernel_rfl
set_option maxRecDepth 100000 in
/-- One node. -/
theorem open_word {H : Type} {enc : TypeId × Value → H} {W : World} {base : Nat} {spare : Nat → Bool} {held : Bool} {n : Nat} {cs : List Value} {x : DataW H × List MemPlace} (h : DataW.trod enc Try.prog W base spare held n 59 cs = some x) :
    ∃ y : Wd, cs = [.string y.f0, .int .i64 y.f1] ∧ x.1 = .agg [.lit (.string y.f0.data.toList), .lit (.int .i64 y.f1)] := by
  obtain ⟨y0, y1, m, rfl, hl, h0, h1⟩ := trod_struct2 Try.underlying59 h
  rw [cells_word] at hl
  match cs, hl with
  | [c0, c1], _ =>
    obtain ⟨s0, e0, rfl, _⟩ := DataW.trod_string Try.underlying9 h0
    obtain ⟨n1, e1, rfl, _⟩ := DataW.trod_int Try.underlying3 h1
    have k1 : Try.prog.cellsOf 3 = 1 := by kernel_rfl
    have k2 : Try.prog.cellsOf 9 = 1 := by kernel_rfl
    simp only [k1, k2] at e0 e1
    simp at e0 e1
    subst e0 e1
    exact ⟨⟨s0, n1⟩, rfl, rfl⟩
theorem open_words {H : Type} {enc : TypeId × Value → H} {W : World} {base : Nat} {spare : Nat → Bool} {held : Bool} {fuel : Nat} {t : TypeId} {a : Option Addr} {len cap : Nat} {x : DataW H × List MemPlace} (ht : Try.prog.underlying t = some (.slice 59))
    (h : DataW.trod enc Try.prog W base spare held fuel t [.slice a len cap] = some x) (hz : ∀ n ∈ x.1.weights Try.prog t, n ≤ reachBytes) :
    ∃ xs : List Wd, xs.length = len ∧ Kd.C k59 W a xs.length xs ∧ (∀ y ∈ xs, y.f0.size ≤ 9223372036854775806) ∧ xs.length ≤ cap ∧ xs.length < 5864062014805 := by
  rcases open_slice ht h with ⟨hcs, rfl⟩ | ⟨a', len', cap', m, n, D, Pl, hcs, _, hl, hm, hmm, rfl, hx⟩
  · cases hcs
    exact ⟨[], rfl, Kd.C_nil _ _, (fun y hy => by cases hy), Nat.zero_le _, by decide⟩
  · cases hcs
    have hle : len ≤ m := by rw [hmm]; split <;> omega
    have hsz : (len + (m - len)) * 24 ≤ reachBytes := hz _ (by simp [DataW.weights, ht, bytes_word])
    have hR : reachBytes = 140737488351232 := rfl
    haveI : Inhabited Wd := ⟨z59⟩
    obtain ⟨f, hf⟩ := choose_lt (α := Wd) (n := len) (p := fun i y => W.cells? base (a'.add (i * 2)) 2 = some [.string y.f0, .int .i64 y.f1] ∧ D i = .agg [.lit (.string y.f0.data.toList), .lit (.int .i64 y.f1)]) (fun i hi => by
      obtain ⟨cs', h1, h2⟩ := hx i (by omega)
      obtain ⟨y, rfl, hy⟩ := open_word h2
      rw [cells_word] at h1
      exact ⟨y, h1, hy⟩)
    refine ⟨(List.range len).map f, by simp, ?_, ?_, by simpa using hl, by simp; omega⟩
    · refine ⟨by simp, by simp; omega, fun _ => ⟨a', rfl, fun j p hp => ?_⟩⟩
      have hj : j < len := by
        have := (List.getElem?_eq_some_iff.1 hp).1
        simpa using this
      have hpf : p = f j := by
        rw [List.getElem?_map, List.getElem?_range hj] at hp
        exact (Option.some.inj hp).symm
      subst hpf
      obtain ⟨h1, _⟩ := hf j hj
      obtain ⟨_, _, hc⟩ := World.cells?_some h1
      refine ⟨_, rfl, k59_mk W (f j), fun i u hu => ?_⟩
      have hi : i < 2 := (List.getElem?_eq_some_iff.1 hu).1
      rw [← hu, ← hc i hi, addr_add]
      rfl
    · intro y hy
      rw [List.mem_map] at hy
      obtain ⟨i, hi, rfl⟩ := hy
      have hi' : i < len := by simpa using hi
      have hd := (hf i hi').2
      have : (f i).f0.data.toList.length ≤ reachBytes := hz _ (by
        simp only [DataW.weights, ht, List.mem_cons, List.mem_append]
        refine .inr (.inl (weightsAll_mem (d := D i) (List.mem_map.mpr ⟨i, hi, rfl⟩) _ ?_))
        rw [hd]
        simp [DataW.weights, DataW.weightsEach, Try.underlying59])
      have e : (f i).f0.data.toList.length = (f i).f0.size := by simp
      omega
end Go.Proofs.Ytpfnnamicbbobaa.RN
