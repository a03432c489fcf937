/- Plain law, part 2: numbers as they are written: the list's shape. -/
import Derived.Test.YtpfnnamicbbobaaHS
import Derived.Lib.Bytealg
import Derived.Lib.IndexLaws
namespace Go.Proofs.Ytpfnnamicbbobaa.PL
open Go.Proofs.Ytpfnnamicbbobaa.HS
/-- A number, or (sum) what stands behind a $, as it is written. -/
def numOK (sum : Bool) (t : List UInt8) : Bool :=
  (decide (t.takeWhile digB ≠ []) && !(decide (1 < (t.takeWhile digB).length) && decide (t.head? = some 48))) &&
  match t.dropWhile digB with
  | [] => !sum && decide (t.length ≤ 18)
  | c :: d => (decide (c = 46) && (decide (d ≠ []) && d.all digB)) && (decide (t.length ≤ 19) && (!sum || decide (d.length = 2)))
theorem tw_all (l : List UInt8) : (l.takeWhile digB).all digB = true := by
  induction l with
  | nil => rfl
  | cons c r ih =>
    rw [List.takeWhile_cons]
    split
    · rename_i h; rw [List.all_cons, h, ih]; rfl
    · rfl
theorem dw_head (l d : List UInt8) (c : UInt8) (h : l.dropWhile digB = c :: d) : digB c = false := by
  induction l with
  | nil => cases h
  | cons x r ih =>
    rw [List.dropWhile_cons] at h
    split at h
    · exact ih h
    · rename_i hx
      cases h
      simpa using hx
theorem parts_eq (l : List UInt8) : l = l.takeWhile digB ++ l.dropWhile digB := List.takeWhile_append_dropWhile.symm
theorem tw_app (ds r : List UInt8) (h : ds.all digB = true) : (ds ++ r).takeWhile digB = ds ++ r.takeWhile digB := by
  induction ds with
  | nil => rfl
  | cons c t ih =>
    rw [List.all_cons, Bool.and_eq_true] at h
    rw [List.cons_append, List.takeWhile_cons, if_pos h.1, ih h.2]; rfl
theorem dw_app (ds r : List UInt8) (h : ds.all digB = true) : (ds ++ r).dropWhile digB = r.dropWhile digB := by
  induction ds with
  | nil => rfl
  | cons c t ih =>
    rw [List.all_cons, Bool.and_eq_true] at h
    rw [List.cons_append, List.dropWhile_cons, if_pos h.1, ih h.2]
theorem dig46 (c : UInt8) (h : digB c = true) : (c == 46) = false := by
  cases hc : c == 46 with
  | false => rfl
  | true =>
    rw [beq_iff_eq] at hc
    subst hc
    exact absurd h (by decide)
theorem count_dig (ds : List UInt8) (h : ds.all digB = true) : ds.count 46 = 0 := by
  induction ds with
  | nil => rfl
  | cons c t ih =>
    rw [List.all_cons, Bool.and_eq_true] at h
    rw [List.count_cons, ih h.2, dig46 c h.1]; rfl
theorem index_dig (ds : List UInt8) (h : ds.all digB = true) : Lib.indexByte ds 46 = -1 := by
  induction ds with
  | nil => rfl
  | cons c t ih =>
    rw [List.all_cons, Bool.and_eq_true] at h
    rw [Lib.indexByte, dig46 c h.1, ih h.2]; rfl
theorem index_dot (ds d : List UInt8) (h : ds.all digB = true) : Lib.indexByte (ds ++ 46 :: d) 46 = ds.length := by
  induction ds with
  | nil => rfl
  | cons c t ih =>
    rw [List.all_cons, Bool.and_eq_true] at h
    rw [List.cons_append, Lib.indexByte, dig46 c h.1, ih h.2]
    rw [show (((t.length : Int)) == -1) = false by rw [beq_eq_false_iff_ne]; omega]
    simp
theorem figs_app (ds r : List UInt8) (h : ds.all digB = true) (hr : r.takeWhile digB = []) : figs (ds ++ r) = if 0 < ds.length ∧ r.head? = some 46 then (if 0 < spanN digB r.tail then ds.length + (spanN digB r.tail + 1) else ds.length) else ds.length := by
  have hs : spanN digB (ds ++ r) = ds.length := by unfold spanN; rw [tw_app ds r h, hr, List.append_nil]
  have hx : (ds ++ r)[ds.length]? = r.head? := by rw [List.getElem?_append_right (Nat.le_refl _), Nat.sub_self]; cases r <;> rfl
  have hd : (ds ++ r).drop (ds.length + 1) = r.tail := by rw [List.drop_append]; simp
  unfold figs
  rw [hs, hx, hd]
theorem span_all (l : List UInt8) : spanN digB l = l.length ↔ l.all digB = true := by
  constructor
  · intro h
    unfold spanN at h
    have e := parts_eq l
    have hl := congrArg List.length e
    rw [List.length_append] at hl
    have : l.dropWhile digB = [] := List.eq_nil_of_length_eq_zero (by omega)
    rw [this, List.append_nil] at e
    rw [e]
    exact tw_all l
  · intro h
    have := tw_app l [] h
    rw [List.append_nil] at this
    unfold spanN
    rw [this]; simp
/-- The three shapes of a text. -/
theorem shapes (t : List UInt8) : (t.all digB = true) ∨ (∃ ds d, t = ds ++ 46 :: d ∧ ds.all digB = true) ∨ (∃ ds c d, t = ds ++ c :: d ∧ ds.all digB = true ∧ digB c = false ∧ c ≠ 46) := by
  cases h : t.dropWhile digB with
  | nil =>
    left
    have e := parts_eq t
    rw [h, List.append_nil] at e
    rw [e]; exact tw_all t
  | cons c d =>
    right
    have e := parts_eq t
    rw [h] at e
    have hc := dw_head t d c h
    by_cases h46 : c = 46
    · subst h46; exact .inl ⟨_, _, e, tw_all t⟩
    · exact .inr ⟨_, c, d, e, tw_all t, hc, h46⟩
theorem numOK_dig (sum : Bool) (ds : List UInt8) (h : ds.all digB = true) : numOK sum ds = ((decide (ds ≠ []) && !(decide (1 < ds.length) && decide (ds.head? = some 48))) && (!sum && decide (ds.length ≤ 18))) := by
  have e1 := tw_app ds [] h
  have e2 := dw_app ds [] h
  rw [List.append_nil] at e1 e2
  simp only [List.takeWhile_nil, List.append_nil, List.dropWhile_nil] at e1 e2
  unfold numOK
  rw [e1, e2]
theorem numOK_app (sum : Bool) (ds : List UInt8) (c : UInt8) (d : List UInt8) (h : ds.all digB = true) (hc : digB c = false) : numOK sum (ds ++ c :: d) = ((decide (ds ≠ []) && !(decide (1 < ds.length) && decide (ds.head? = some 48))) && ((decide (c = 46) && (decide (d ≠ []) && d.all digB)) && (decide (ds.length + d.length ≤ 18) && (!sum || decide (d.length = 2))))) := by
  have e1 := tw_app ds (c :: d) h
  have e2 := dw_app ds (c :: d) h
  rw [List.takeWhile_cons, if_neg (by simp [hc]), List.append_nil] at e1
  rw [List.dropWhile_cons, if_neg (by simp [hc])] at e2
  unfold numOK
  rw [e1, e2]
  have e3 : decide ((ds ++ c :: d).length ≤ 19) = decide (ds.length + d.length ≤ 18) := decide_eq_decide.mpr (by simp; omega)
  rw [e3]
  cases ds with
  | nil => rfl
  | cons x r => rfl
end Go.Proofs.Ytpfnnamicbbobaa.PL
