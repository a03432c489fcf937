/- Plain law, part 0: a printed function's answer for all fuels from one on. -/
import Derived.Test.YtpfnnamicbbobaaPAllx
import Derived.Test.YtpfnnamicbbobaaHS
namespace Go.Proofs.Ytpfnnamicbbobaa.PL
open Go.RowKit Go.Proofs.YtpfnnamicbbobaaW.PrintWords Go.Proofs.YtpfnnamicbbobaaW.PrintMore Go.Proofs.Ytpfnnamicbbobaa.HS Go.Proofs.Ytpfnnamicbbobaa.PAll
section
variable {α β : Type}
/-- From some fuel on a function answers v. -/
def Ev (g : Nat → Option α) (v : α) : Prop := ∃ k0, ∀ k, k0 ≤ k → g k = some v
theorem Ev.const {v : α} : Ev (fun _ => some v) v := ⟨0, fun _ _ => rfl⟩
theorem Ev.bind {g : Nat → Option α} {h : Nat → α → Option β} {v : α} {u : β} (hg : Ev g v) (hh : Ev (fun k => h k v) u) : Ev (fun k => (g k).bind (h k)) u := by
  obtain ⟨a, ha⟩ := hg
  obtain ⟨b, hb⟩ := hh
  exact ⟨max a b, fun k hk => by show (g k).bind (h k) = some u; rw [ha k (by omega), Option.bind_some]; exact hb k (by omega)⟩
theorem Ev.bindc {o : Option α} {h : Nat → α → Option β} {v : α} {u : β} (hg : o = some v) (hh : Ev (fun k => h k v) u) : Ev (fun k => o.bind (h k)) u := Ev.bind (g := fun _ => o) ⟨0, fun _ _ => hg⟩ hh
theorem Ev.step {g e : Nat → Option α} {v : α} (hs : ∀ k, g (k + 1) = e k) (he : Ev e v) : Ev g v := by
  obtain ⟨a, ha⟩ := he
  refine ⟨a + 1, fun k hk => ?_⟩
  obtain ⟨j, rfl⟩ : ∃ j, k = j + 1 := ⟨k - 1, by omega⟩
  rw [hs]
  exact ha j (by omega)
theorem Ev.congr {g e : Nat → Option α} {v : α} (hs : ∀ k, g k = e k) (he : Ev e v) : Ev g v := by
  obtain ⟨a, ha⟩ := he
  exact ⟨a, fun k hk => (hs k).trans (ha k hk)⟩
theorem Ev.get {g : Nat → Option α} {v : α} (h : Ev g v) : ∃ k, g k = some v := ⟨h.choose, h.choose_spec _ (Nat.le_refl _)⟩
theorem Ev.of {g : Nat → Option α} {v : α} (hm : ∀ k, LeO (g k) (g (k + 1))) {k0 : Nat} (h : g k0 = some v) : Ev g v :=
  ⟨k0, fun k hk => by
    induction k with
    | zero => obtain rfl : k0 = 0 := by omega
              exact h
    | succ k ih =>
      by_cases e : k0 = k + 1
      · exact e ▸ h
      · exact hm k v (ih (by omega))⟩
end
/-- A byte, as the list says it. -/
theorem bt_nat (s : ByteArray) (n : Nat) (h : n < s.size) : bt s (n : Int) = (s[n].toNat : Int) := (bt_at s n (by simpa using h)).symm
theorem toList_data (s : ByteArray) : s.toList = s.data.toList := ByteArray.toList_eq s
theorem w64 (n : Int) (h : -9223372036854775808 ≤ n) (h' : n ≤ 9223372036854775807) : wrap64 n = n := by unfold wrap64; omega
end Go.Proofs.Ytpfnnamicbbobaa.PL
