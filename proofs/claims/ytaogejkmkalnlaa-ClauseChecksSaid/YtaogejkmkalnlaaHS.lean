/- Plain words for clause and kind: what bytes are of which class, how many stand at the front. No program, no memory. -/
import Derived.WalkKit
import Derived.Lib.Hide
import Derived.Lib.Strings
namespace Go.Proofs.Ytaogejkmkalnlaa.HS
def digB (c : UInt8) : Bool := decide (48 ≤ c.toNat) && decide (c.toNat ≤ 57)
def letB (c : UInt8) : Bool := decide (97 ≤ c.toNat) && decide (c.toNat ≤ 122)
def innB (c : UInt8) : Bool := letB c || (digB c || decide (c.toNat = 95))
def spanN (q : UInt8 → Bool) (l : List UInt8) : Nat := (l.takeWhile q).length
theorem spanN_le (q : UInt8 → Bool) (l : List UInt8) : spanN q l ≤ l.length := (List.takeWhile_sublist _).length_le
theorem spanN_cons (q : UInt8 → Bool) (c : UInt8) (l : List UInt8) : spanN q (c :: l) = if q c then spanN q l + 1 else 0 := by
  unfold spanN; rw [List.takeWhile_cons]; split <;> simp
theorem drop_at (s : ByteArray) (k : Nat) (h : k < s.size) : s.data.toList.drop k = s[k] :: s.data.toList.drop (k + 1) := by
  rw [List.drop_eq_getElem_cons (by simpa using h)]; rfl
theorem spanN_at (q : UInt8 → Bool) (s : ByteArray) (k : Nat) (h : k < s.size) (hq : q s[k] = true) : spanN q (s.data.toList.drop k) = spanN q (s.data.toList.drop (k + 1)) + 1 := by
  rw [drop_at s k h, spanN_cons, if_pos hq]
theorem spanN_stop (q : UInt8 → Bool) (s : ByteArray) (k : Nat) (h : k < s.size) (hq : q s[k] = false) : spanN q (s.data.toList.drop k) = 0 := by
  rw [drop_at s k h, spanN_cons, if_neg (by simp [hq])]
theorem spanN_end (q : UInt8 → Bool) (s : ByteArray) (k : Nat) (h : s.size ≤ k) : spanN q (s.data.toList.drop k) = 0 := by
  unfold spanN
  rw [List.drop_eq_nil_of_le (by simpa using h)]; rfl
/-- How many bytes of a number stand at the front. -/
def figs (l : List UInt8) : Nat :=
  if 0 < spanN digB l ∧ l[spanN digB l]? = some 46 then
    if 0 < spanN digB (l.drop (spanN digB l + 1)) then spanN digB l + (spanN digB (l.drop (spanN digB l + 1)) + 1) else spanN digB l
  else spanN digB l
/-- Is it a name by its bytes? -/
def named (l : List UInt8) : Bool :=
  match l with
  | [] => false
  | c :: r => decide (r.length < 24) && (letB c && decide (spanN innB (c :: r) = r.length + 1))
theorem ret_int {k : IntKind} {a b : Int} (h : a = b) : Ending.returned (.int k a) = .returned (.int k b) := by rw [h]
theorem ret_bool {a b : Bool} (h : a = b) : Ending.returned (.bool a) = .returned (.bool b) := by rw [h]
end Go.Proofs.Ytaogejkmkalnlaa.HS
