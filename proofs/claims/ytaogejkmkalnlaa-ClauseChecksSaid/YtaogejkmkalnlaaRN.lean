/- Rows of nodes among a law's arguments, opened. -/
import Derived.Test.YtaogejkmkalnlaaPAllx0
import Derived.Test.YtaogejkmkalnlaaProg
import Derived.Deep.Slices
import Derived.Deep.Strs
import Derived.SizedLaws
import Derived.KernelRfl
namespace Go.Proofs.Ytaogejkmkalnlaa.RN
open Go.Proofs.Ytaogejkmkalnlaa.PAll Go.Proofs.YtaogejkmkalnlaaW.PrintWords Go.Deep Go.ChangeShapes Go.WideShapes
abbrev Nd := S43
theorem weightsAll_mem {H : Type} {P : Program} {e : TypeId} : ∀ {l : List (DataW H)} {d : DataW H}, d ∈ l → ∀ n ∈ d.weights P e, n ∈ DataW.weightsAll P e l
  | d' :: r, d, hd, n, hn => by
    simp only [DataW.weightsAll, List.mem_append]
    rcases List.mem_cons.1 hd with rfl | h
    · exact Or.inl hn
    · exact Or.inr (weightsAll_mem h n hn)
theorem addr_add (a : Addr) (i j : Nat) : (a.add i).add j = a.add (i + j) := Go.Deep.add_add a i j
theorem cells_node : Try.prog.cellsOf 43 = 3 := by kernel_rfl
theorem bytes_node : Try.prog.bytesOf 43 = 32 := by kernel_rfl
set_option maxRecDepth 100000 in
/-- One node. -/
theorem open_node {H : Type} {enc : TypeId × Value → H} {W : World} {base : Nat} {spare : Nat → Bool} {held : Bool} {n : Nat} {cs : List Value} {x : DataW H × List MemPlace} (h : DataW.trod enc Try.prog W base spare held n 43 cs = some x) :
    ∃ y : Nd, cs = [.int .i64 y.f0, .int .i64 y.f1, .string y.f2] ∧ x.1 = .agg [.lit (.int .i64 y.f0), .lit (.int .i64 y.f1), .lit (.string y.f2.data.toList)] := by
  obtain ⟨y0, y1, y2, m, rfl, hl, h0, h1, h2⟩ := trod_struct3 Try.underlying43 h
  rw [cells_node] at hl
  match cs, hl with
  | [c0, c1, c2], _ =>
    obtain ⟨n0, e0, rfl, _⟩ := DataW.trod_int Try.underlying3 h0
    obtain ⟨n1, e1, rfl, _⟩ := DataW.trod_int Try.underlying3 h1
    obtain ⟨s2, e2, rfl, _⟩ := DataW.trod_string Try.underlying9 h2
    have k1 : Try.prog.cellsOf 3 = 1 := by kernel_rfl
    have k2 : Try.prog.cellsOf 9 = 1 := by kernel_rfl
    simp only [k1, k2] at e0 e1 e2
    simp at e0 e1 e2
    subst e0 e1 e2
    exact ⟨⟨n0, n1, s2⟩, rfl, rfl⟩
theorem open_nodes {H : Type} {enc : TypeId × Value → H} {W : World} {base : Nat} {spare : Nat → Bool} {held : Bool} {fuel : Nat} {t : TypeId} {a : Option Addr} {len cap : Nat} {x : DataW H × List MemPlace} (ht : Try.prog.underlying t = some (.slice 43))
    (h : DataW.trod enc Try.prog W base spare held fuel t [.slice a len cap] = some x) (hz : ∀ n ∈ x.1.weights Try.prog t, n ≤ reachBytes) :
    ∃ xs : List Nd, xs.length = len ∧ Kd.C k43 W a xs.length xs ∧ (∀ y ∈ xs, y.f2.size ≤ 9223372036854775806) ∧ xs.length ≤ cap ∧ xs.length < 4398046511104 := by
  rcases open_slice ht h with ⟨hcs, rfl⟩ | ⟨a', len', cap', m, n, D, Pl, hcs, _, hl, hm, hmm, rfl, hx⟩
  · cases hcs
    exact ⟨[], rfl, Kd.C_nil _ _, (fun y hy => by cases hy), Nat.zero_le _, by decide⟩
  · cases hcs
    have hle : len ≤ m := by rw [hmm]; split <;> omega
    have hsz : (len + (m - len)) * 32 ≤ reachBytes := hz _ (by simp [DataW.weights, ht, bytes_node])
    have hR : reachBytes = 140737488351232 := rfl
    haveI : Inhabited Nd := ⟨z43⟩
    obtain ⟨f, hf⟩ := choose_lt (α := Nd) (n := len) (p := fun i y => W.cells? base (a'.add (i * 3)) 3 = some [.int .i64 y.f0, .int .i64 y.f1, .string y.f2] ∧ D i = .agg [.lit (.int .i64 y.f0), .lit (.int .i64 y.f1), .lit (.string y.f2.data.toList)]) (fun i hi => by
      obtain ⟨cs', h1, h2⟩ := hx i (by omega)
      obtain ⟨y, rfl, hy⟩ := open_node h2
      rw [cells_node] at h1
      exact ⟨y, h1, hy⟩)
    refine ⟨(List.range len).map f, by simp, ?_, ?_, by simpa using hl, by simp; omega⟩
    · refine ⟨by simp, by simp; omega, fun _ => ⟨a', rfl, fun j p hp => ?_⟩⟩
      have hj : j < len := by
        have := (List.getElem?_eq_some_iff.1 hp).1
        simpa using this
      have hpf : p = f j := by
        rw [List.getElem?_map, List.getElem?_range hj] at hp
        exact (Option.some.inj hp).symm
      subst hpf
      obtain ⟨h1, _⟩ := hf j hj
      obtain ⟨_, _, hc⟩ := World.cells?_some h1
      refine ⟨_, rfl, k43_mk W (f j), fun i u hu => ?_⟩
      have hi : i < 3 := (List.getElem?_eq_some_iff.1 hu).1
      rw [← hu, ← hc i hi, addr_add]
      rfl
    · intro y hy
      rw [List.mem_map] at hy
      obtain ⟨i, hi, rfl⟩ := hy
      have hi' : i < len := by simpa using hi
      have hd := (hf i hi').2
      have : (f i).f2.data.toList.length ≤ reachBytes := hz _ (by
        simp only [DataW.weights, ht, List.mem_cons, List.mem_append]
        refine .inr (.inl (weightsAll_mem (d := D i) (List.mem_map.mpr ⟨i, hi, rfl⟩) _ ?_))
        rw [hd]
        simp [DataW.weights, DataW.weightsEach, Try.underlying43])
      have e : (f i).f2.data.toList.length = (f i).f2.size := by simp
      omega
end Go.Proofs.Ytaogejkmkalnlaa.RN
