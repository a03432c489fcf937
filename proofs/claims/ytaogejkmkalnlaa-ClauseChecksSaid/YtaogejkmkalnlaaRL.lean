/- Rows of lines among a law's arguments, opened; a product. -/
import Derived.Test.YtaogejkmkalnlaaRN
import Derived.ChangeSame
namespace Go.Proofs.Ytaogejkmkalnlaa.RN
open Go.Proofs.Ytaogejkmkalnlaa.PAll Go.Proofs.YtaogejkmkalnlaaW.PrintWords Go.Deep Go.ChangeShapes Go.WideShapes
abbrev Ln := S41
theorem trod_struct6 {H : Type} {enc : TypeId × Value → H} {P : Program} {w : World} {base : Nat} {spare : Nat → Bool} {held : Bool} {t : TypeId} {f0 f1 f2 f3 f4 f5 : Field} {fuel : Nat} {cs : List Value} {x : DataW H × List MemPlace} (ht : P.underlying t = some (.struct #[f0, f1, f2, f3, f4, f5])) (h : DataW.trod enc P w base spare held fuel t cs = some x) :
    ∃ y0 y1 y2 y3 y4 y5 n, x.1 = .agg [y0.1, y1.1, y2.1, y3.1, y4.1, y5.1] ∧ cs.length = P.cellsOf t ∧ DataW.trod enc P w base spare held n f0.type ((cs.drop f0.offset).take (P.cellsOf f0.type)) = some y0 ∧
      DataW.trod enc P w base spare held n f1.type ((cs.drop f1.offset).take (P.cellsOf f1.type)) = some y1 ∧ DataW.trod enc P w base spare held n f2.type ((cs.drop f2.offset).take (P.cellsOf f2.type)) = some y2 ∧
      DataW.trod enc P w base spare held n f3.type ((cs.drop f3.offset).take (P.cellsOf f3.type)) = some y3 ∧ DataW.trod enc P w base spare held n f4.type ((cs.drop f4.offset).take (P.cellsOf f4.type)) = some y4 ∧
      DataW.trod enc P w base spare held n f5.type ((cs.drop f5.offset).take (P.cellsOf f5.type)) = some y5 := by
  obtain ⟨xs, n, _, rfl, hl, hlen, hf⟩ := DataW.trod_struct ht h
  match xs, hlen with
  | [y0, y1, y2, y3, y4, y5], _ => exact ⟨y0, y1, y2, y3, y4, y5, n, rfl, hl, by simpa using hf 0 f0 rfl, by simpa using hf 1 f1 rfl, by simpa using hf 2 f2 rfl, by simpa using hf 3 f3 rfl, by simpa using hf 4 f4 rfl, by simpa using hf 5 f5 rfl⟩
theorem cells_line : Try.prog.cellsOf 41 = 6 := by kernel_rfl
theorem bytes_line : Try.prog.bytesOf 41 = 104 := by kernel_rfl
/-- What is known of a formula that was read. -/
def okF (xs : List Nd) : Prop := (∀ y ∈ xs, y.f2.size ≤ 9223372036854775806) ∧ xs.length < 4398046511104
def okL (y : Ln) : Prop := y.f2.size ≤ 9223372036854775806 ∧ okF y.f3 ∧ okF y.f4 ∧ okF y.f5
theorem open_form {H : Type} {enc : TypeId × Value → H} {W : World} {base : Nat} {spare : Nat → Bool} {held : Bool} {fuel : Nat} {v : Value} {x : DataW H × List MemPlace}
    (h : DataW.trod enc Try.prog W base spare held fuel 26 [v] = some x) (hz : ∀ n ∈ x.1.weights Try.prog 26, n ≤ reachBytes) :
    ∃ (xs : List Nd) (A : Option Addr) (c : Nat), v = .slice A xs.length c ∧ xs.length ≤ c ∧ Kd.C k43 W A xs.length xs ∧ okF xs := by
  obtain ⟨A, len, cap, rfl⟩ : ∃ A len cap, v = .slice A len cap := by
    rcases open_slice Try.underlying26 h with ⟨hcs, _⟩ | ⟨a', len', cap', m, n, D, Pl, hcs, _⟩
    · cases hcs; exact ⟨_, _, _, rfl⟩
    · cases hcs; exact ⟨_, _, _, rfl⟩
  obtain ⟨xs, rfl, h1, h2, h3, h4⟩ := open_nodes Try.underlying26 h hz
  exact ⟨xs, A, cap, rfl, h3, h1, h2, h4⟩
set_option maxRecDepth 100000 in
/-- One line. -/
theorem open_line {H : Type} {enc : TypeId × Value → H} {W : World} {base : Nat} {spare : Nat → Bool} {held : Bool} {n : Nat} {cs : List Value} {x : DataW H × List MemPlace} (h : DataW.trod enc Try.prog W base spare held n 41 cs = some x) (hz : ∀ n ∈ x.1.weights Try.prog 41, n ≤ reachBytes) :
    ∃ y : Ln, k41.K W y cs ∧ okL y := by
  obtain ⟨y0, y1, y2, y3, y4, y5, m, hx, hl, h0, h1, h2, h3, h4, h5⟩ := trod_struct6 Try.underlying41 h
  rw [hx] at hz
  rw [cells_line] at hl
  match cs, hl with
  | [c0, c1, c2, c3, c4, c5], _ =>
    have k0 : Try.prog.cellsOf 3 = 1 := by kernel_rfl
    have k2 : Try.prog.cellsOf 9 = 1 := by kernel_rfl
    have k3 : Try.prog.cellsOf 26 = 1 := by kernel_rfl
    obtain ⟨n0, e0, hy0, _⟩ := DataW.trod_int Try.underlying3 h0
    obtain ⟨n1, e1, hy1, _⟩ := DataW.trod_int Try.underlying3 h1
    obtain ⟨s2, e2, hy2, _⟩ := DataW.trod_string Try.underlying9 h2
    simp only [k0, k2] at e0 e1 e2
    simp at e0 e1 e2
    subst e0 e1 e2
    simp only [k3] at h3 h4 h5
    have h3' : DataW.trod enc Try.prog W base spare held m 26 [c3] = some y3 := h3
    have h4' : DataW.trod enc Try.prog W base spare held m 26 [c4] = some y4 := h4
    have h5' : DataW.trod enc Try.prog W base spare held m 26 [c5] = some y5 := h5
    obtain ⟨f3, A3, p3, rfl, l3, g3, q3⟩ := open_form h3' (fun n hn => hz n (by simp only [DataW.weights, Try.underlying41]; exact DataW.weights_mem_each (j := 3) rfl rfl n hn))
    obtain ⟨f4, A4, p4, rfl, l4, g4, q4⟩ := open_form h4' (fun n hn => hz n (by simp only [DataW.weights, Try.underlying41]; exact DataW.weights_mem_each (j := 4) rfl rfl n hn))
    obtain ⟨f5, A5, p5, rfl, l5, g5, q5⟩ := open_form h5' (fun n hn => hz n (by simp only [DataW.weights, Try.underlying41]; exact DataW.weights_mem_each (j := 5) rfl rfl n hn))
    refine ⟨⟨n0, n1, s2, f3, f4, f5⟩, k41_mk W ⟨n0, n1, s2, f3, f4, f5⟩ l3 g3 l4 g4 l5 g5, ?_, q3, q4, q5⟩
    have hR : reachBytes = 140737488351232 := rfl
    have : s2.data.toList.length ≤ reachBytes := hz _ (by rw [hy2]; simp only [DataW.weights, Try.underlying41]; exact DataW.weights_mem_each (j := 2) rfl rfl _ (by simp [DataW.weights]))
    have e : s2.data.toList.length = s2.size := by simp
    show s2.size ≤ _
    omega
theorem open_lines {H : Type} {enc : TypeId × Value → H} {W : World} {base : Nat} {spare : Nat → Bool} {held : Bool} {fuel : Nat} {t : TypeId} {a : Option Addr} {len cap : Nat} {x : DataW H × List MemPlace} (ht : Try.prog.underlying t = some (.slice 41))
    (h : DataW.trod enc Try.prog W base spare held fuel t [.slice a len cap] = some x) (hz : ∀ n ∈ x.1.weights Try.prog t, n ≤ reachBytes) :
    ∃ xs : List Ln, xs.length = len ∧ Kd.C k41 W a xs.length xs ∧ (∀ y ∈ xs, okL y) ∧ xs.length ≤ cap ∧ xs.length < 1353245080339 := by
  rcases open_slice ht h with ⟨hcs, rfl⟩ | ⟨a', len', cap', m, n, D, Pl, hcs, _, hl, hm, hmm, rfl, hx⟩
  · cases hcs
    exact ⟨[], rfl, Kd.C_nil _ _, (fun y hy => by cases hy), Nat.zero_le _, by decide⟩
  · cases hcs
    have hle : len ≤ m := by rw [hmm]; split <;> omega
    have hsz : (len + (m - len)) * 104 ≤ reachBytes := hz _ (by simp [DataW.weights, ht, bytes_line])
    have hR : reachBytes = 140737488351232 := rfl
    haveI : Inhabited Ln := ⟨z41⟩
    obtain ⟨f, hf⟩ := choose_lt (α := Ln) (n := len) (p := fun i y => (∃ cs, W.cells? base (a'.add (i * 6)) 6 = some cs ∧ k41.K W y cs) ∧ okL y) (fun i hi => by
      obtain ⟨cs', h1, h2⟩ := hx i (by omega)
      obtain ⟨y, hy, ho⟩ := open_line h2 (fun n hn => hz n (by
        simp only [DataW.weights, ht, List.mem_cons, List.mem_append]
        exact .inr (.inl (weightsAll_mem (d := D i) (List.mem_map.mpr ⟨i, List.mem_range.mpr hi, rfl⟩) _ hn))))
      rw [cells_line] at h1
      exact ⟨y, ⟨cs', h1, hy⟩, ho⟩)
    refine ⟨(List.range len).map f, by simp, ?_, ?_, by simpa using hl, by simp; omega⟩
    · refine ⟨by simp, by simp; omega, fun _ => ⟨a', rfl, fun j p hp => ?_⟩⟩
      have hj : j < len := by
        have := (List.getElem?_eq_some_iff.1 hp).1
        simpa using this
      have hpf : p = f j := by
        rw [List.getElem?_map, List.getElem?_range hj] at hp
        exact (Option.some.inj hp).symm
      subst hpf
      obtain ⟨⟨cs, h1, hK⟩, _⟩ := hf j hj
      obtain ⟨_, hlen, hc⟩ := World.cells?_some h1
      have hsz6 := k41.K_len hK
      refine ⟨cs, hsz6, hK, fun i u hu => ?_⟩
      have hi : i < 6 := by have := (List.getElem?_eq_some_iff.1 hu).1; rw [hsz6] at this; exact this
      rw [← hu, ← hc i hi, addr_add]
      rfl
    · intro y hy
      rw [List.mem_map] at hy
      obtain ⟨i, hi, rfl⟩ := hy
      exact (hf i (by simpa using hi)).2
theorem cells_product : Try.prog.cellsOf 24 = 2 := by kernel_rfl
set_option maxRecDepth 100000 in
/-- A product. -/
theorem open_product {H : Type} {enc : TypeId × Value → H} {W : World} {base : Nat} {spare : Nat → Bool} {held : Bool} {n : Nat} {cs : List Value} {x : DataW H × List MemPlace} (h : DataW.trod enc Try.prog W base spare held n 24 cs = some x) (hz : ∀ n ∈ x.1.weights Try.prog 24, n ≤ reachBytes) :
    ∃ (nm : ByteArray) (ls : List Ln) (A : Option Addr) (c : Nat), cs = [.string nm, .slice A ls.length c] ∧ nm.size ≤ 9223372036854775806 ∧ ls.length ≤ c ∧ Kd.C k41 W A ls.length ls ∧ ls.length < 1353245080339 ∧ ∀ y ∈ ls, okL y := by
  obtain ⟨y0, y1, m, rfl, hl, h0, h1⟩ := trod_struct2 Try.underlying24 h
  rw [cells_product] at hl
  match cs, hl with
  | [c0, c1], _ =>
    have k2 : Try.prog.cellsOf 9 = 1 := by kernel_rfl
    have k3 : Try.prog.cellsOf 22 = 1 := by kernel_rfl
    obtain ⟨s0, e0, hy0, _⟩ := DataW.trod_string Try.underlying9 h0
    simp only [k2] at e0
    simp at e0
    subst e0
    simp only [k3] at h1
    have h1' : DataW.trod enc Try.prog W base spare held m 22 [c1] = some y1 := h1
    obtain ⟨A, len, cap, rfl⟩ : ∃ A len cap, c1 = .slice A len cap := by
      rcases open_slice Try.underlying22 h1' with ⟨hcs, _⟩ | ⟨a', len', cap', m, n, D, Pl, hcs, _⟩
      · cases hcs; exact ⟨_, _, _, rfl⟩
      · cases hcs; exact ⟨_, _, _, rfl⟩
    obtain ⟨ls, rfl, g1, g2, g3, g4⟩ := open_lines Try.underlying22 h1' (fun n hn => hz n (by simp only [DataW.weights, Try.underlying24]; exact DataW.weights_mem_each (j := 1) rfl rfl n hn))
    refine ⟨s0, ls, A, cap, rfl, ?_, g3, g1, g4, g2⟩
    have hR : reachBytes = 140737488351232 := rfl
    have : s0.data.toList.length ≤ reachBytes := hz _ (by rw [hy0]; simp only [DataW.weights, Try.underlying24]; exact DataW.weights_mem_each (j := 0) rfl rfl _ (by simp [DataW.weights]))
    have e : s0.data.toList.length = s0.size := by simp
    omega
end Go.Proofs.Ytaogejkmkalnlaa.RN
