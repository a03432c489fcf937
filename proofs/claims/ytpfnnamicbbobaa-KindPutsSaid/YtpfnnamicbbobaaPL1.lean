/- Plain law, part 1: names: kind.isName, tontinebase.Name, clause.named, tontineref17.Word, clause.word. -/
import Derived.Test.YtpfnnamicbbobaaPL0
namespace Go.Proofs.Ytpfnnamicbbobaa.PL
open Go.RowKit Go.Proofs.YtpfnnamicbbobaaW.PrintWords Go.Proofs.YtpfnnamicbbobaaW.PrintMore Go.Proofs.Ytpfnnamicbbobaa.HS Go.Proofs.Ytpfnnamicbbobaa.PAll
/-- What the inner loops say from a place on. -/
theorem inn_step (s : ByteArray) (k : Nat) (h : k < s.size) : ((s.data.toList.drop k).all innB) = (innB s[k] && ((s.data.toList.drop (k + 1)).all innB)) := by
  rw [drop_at s k h, List.all_cons]
theorem isName_l (s : ByteArray) (hs : s.size ≤ 9223372036854775807) : ∀ (m n : Nat), s.size - n = m → n ≤ s.size → Ev (fun k => kind_isName.l0 k s (s.size : Int) (n : Int)) ((s.data.toList.drop n).all innB) := by
  intro m
  induction m with
  | zero =>
    intro n hm hn
    refine Ev.step (fun k => by rw [kind_isName.l0]) ?_
    simp only [if_neg (show ¬ (n : Int) < (s.size : Int) by omega)]
    rw [List.drop_eq_nil_of_le (by simpa using (show s.size ≤ n by omega))]
    exact Ev.const
  | succ m ih =>
    intro n hm hn
    have hlt : n < s.size := by omega
    have hr := ih (n + 1) (by omega) (by omega)
    refine Ev.step (fun k => by rw [kind_isName.l0]) ?_
    simp only [if_pos (show (n : Int) < (s.size : Int) by omega), if_pos (show (0 : Int) ≤ (n : Int) by omega), bt_nat s n hlt, show wrap64 ((n : Int) + 1) = ((n + 1 : Nat) : Int) by rw [w64 _ (by omega) (by omega)]; rfl]
    rw [inn_step s n hlt]
    generalize hc : s[n] = c
    have hb : c.toNat < 256 := c.toNat_lt
    clear hc
    cases hi : innB c with
    | true =>
      have hi' : (97 ≤ c.toNat ∧ c.toNat ≤ 122) ∨ (48 ≤ c.toNat ∧ c.toNat ≤ 57) ∨ c.toNat = 95 := by simpa [innB, letB, digB] using hi
      clear hi
      rw [Bool.true_and]
      repeat' split
      all_goals first | exact hr | (exfalso; omega)
    | false =>
      have hi' : ¬ ((97 ≤ c.toNat ∧ c.toNat ≤ 122) ∨ (48 ≤ c.toNat ∧ c.toNat ≤ 57) ∨ c.toNat = 95) := fun q => by
        have : innB c = true := by simpa [innB, letB, digB] using q
        rw [hi] at this
        cases this
      clear hi
      rw [Bool.false_and]
      repeat' split
      all_goals first | exact Ev.const | (exfalso; omega)
theorem Name_l (s : ByteArray) (hs : s.size ≤ 9223372036854775807) : ∀ (m n : Nat), s.size - n = m → n ≤ s.size → Ev (fun k => tontinebase_Name.l0 k s (n : Int)) ((s.data.toList.drop n).all innB) := by
  intro m
  induction m with
  | zero =>
    intro n hm hn
    refine Ev.step (fun k => by rw [tontinebase_Name.l0]) ?_
    simp only [if_neg (show ¬ (n : Int) < (s.size : Int) by omega)]
    rw [List.drop_eq_nil_of_le (by simpa using (show s.size ≤ n by omega))]
    exact Ev.const
  | succ m ih =>
    intro n hm hn
    have hlt : n < s.size := by omega
    have hr := ih (n + 1) (by omega) (by omega)
    refine Ev.step (fun k => by rw [tontinebase_Name.l0]) ?_
    simp only [if_pos (show (n : Int) < (s.size : Int) by omega), if_pos (show (0 : Int) ≤ (n : Int) by omega), bt_nat s n hlt, show wrap64 ((n : Int) + 1) = ((n + 1 : Nat) : Int) by rw [w64 _ (by omega) (by omega)]; rfl]
    rw [inn_step s n hlt]
    generalize hc : s[n] = c
    have hb : c.toNat < 256 := c.toNat_lt
    clear hc
    cases hi : innB c with
    | true =>
      have hi' : (97 ≤ c.toNat ∧ c.toNat ≤ 122) ∨ (48 ≤ c.toNat ∧ c.toNat ≤ 57) ∨ c.toNat = 95 := by simpa [innB, letB, digB] using hi
      clear hi
      rw [Bool.true_and]
      repeat' split
      all_goals first | exact hr | (exfalso; omega)
    | false =>
      have hi' : ¬ ((97 ≤ c.toNat ∧ c.toNat ≤ 122) ∨ (48 ≤ c.toNat ∧ c.toNat ≤ 57) ∨ c.toNat = 95) := fun q => by
        have : innB c = true := by simpa [innB, letB, digB] using q
        rw [hi] at this
        cases this
      clear hi
      rw [Bool.false_and]
      repeat' split
      all_goals first | exact Ev.const | (exfalso; omega)
theorem spanN_all (q : UInt8 → Bool) (l : List UInt8) : decide (spanN q l = l.length) = l.all q := by
  induction l with
  | nil => rfl
  | cons c r ih =>
    rw [spanN_cons, List.all_cons]
    cases hq : q c with
    | true => rw [if_pos rfl, Bool.true_and, ← ih]; simp
    | false => simp
theorem named_eq (s : ByteArray) (c : UInt8) (h0 : 0 < s.size) (hc : s[0] = c) : named s.data.toList = (decide (s.size ≤ 24) && (letB c && s.data.toList.all innB)) := by
  have e : s.data.toList = c :: s.data.toList.drop 1 := by rw [← hc]; simpa using drop_at s 0 h0
  have hl : s.data.toList.length = s.size := by simp
  rw [← spanN_all]
  generalize s.data.toList = l at e hl ⊢
  generalize l.drop 1 = r at e
  subst e
  simp only [List.length_cons] at hl
  show (decide (r.length < 24) && (letB c && decide (spanN innB (c :: r) = r.length + 1))) = _
  rw [show decide (r.length < 24) = decide (s.size ≤ 24) from decide_eq_decide.mpr (by omega)]
  rfl
theorem named_nil (s : ByteArray) (h0 : ¬ 0 < s.size) : named s.data.toList = false := by
  rw [show s.data.toList = [] from List.eq_nil_of_length_eq_zero (by rw [show s.data.toList.length = s.size by simp]; omega)]
  rfl
theorem size_nil (s : ByteArray) : s.toList = ([] : List UInt8) ↔ ¬ 0 < s.size := by
  rw [toList_data]
  constructor
  · intro h
    have h2 : s.data.toList.length = 0 := by rw [h]; rfl
    rw [show s.data.toList.length = s.size by simp] at h2
    omega
  · intro h
    exact List.eq_nil_of_length_eq_zero (by rw [show s.data.toList.length = s.size by simp]; omega)
theorem isName_ev (s : ByteArray) (hs : s.size ≤ 9223372036854775807) : Ev (fun k => kind_isName.f k s) (named s.data.toList) := by
  unfold kind_isName.f
  by_cases h0 : 0 < s.size
  · have hn : ¬ s.toList = ([] : List UInt8) := fun e => (size_nil s).mp e h0
    simp only [if_neg hn, if_pos (show 0 < (s.size : Int) by omega)]
    have hb := bt_nat s 0 h0
    rw [named_eq s _ h0 rfl]
    have hl := isName_l s hs s.size 0 (by omega) (by omega)
    rw [List.drop_zero] at hl
    rw [show ((0 : Nat) : Int) = 0 from rfl] at hb
    simp only [show ((0 : Nat) : Int) = 0 from rfl] at hl
    generalize hc : s[0] = c at hb ⊢
    clear hc
    have hct : c.toNat < 256 := c.toNat_lt
    rw [show bt s 0 = (c.toNat : Int) from hb]
    by_cases h1 : (s.size : Int) > 24
    · simp only [if_pos h1]
      refine Ev.step (fun k => by rw [kind_isName.j0]) ?_
      simp only [if_pos]
      rw [decide_eq_false (show ¬ s.size ≤ 24 by omega), Bool.false_and]
      exact Ev.const
    · simp only [if_neg h1]
      rw [decide_eq_true (show s.size ≤ 24 by omega), Bool.true_and]
      by_cases h2 : (c.toNat : Int) < 97
      · simp only [if_pos h2]
        refine Ev.step (fun k => by rw [kind_isName.j0]) ?_
        simp only [if_pos]
        rw [show letB c = false by simp [letB]; omega, Bool.false_and]
        exact Ev.const
      · simp only [if_neg h2]
        refine Ev.step (fun k => by rw [kind_isName.j0]) ?_
        by_cases h3 : (c.toNat : Int) > 122
        · simp only [decide_eq_true h3, if_pos]
          rw [show letB c = false by simp [letB]; omega, Bool.false_and]
          exact Ev.const
        · simp only [decide_eq_false h3, if_neg (show ¬ (false = true) by decide)]
          rw [show letB c = true by simp [letB]; omega, Bool.true_and]
          exact hl
  · simp only [if_pos ((size_nil s).mpr h0)]
    refine Ev.step (fun k => by rw [kind_isName.j0]) ?_
    simp only [if_pos]
    rw [named_nil s h0]
    exact Ev.const
theorem Name_ev (s : ByteArray) (hs : s.size ≤ 9223372036854775807) : Ev (fun k => tontinebase_Name.f k s) (named s.data.toList) := by
  unfold tontinebase_Name.f
  by_cases h0 : 0 < s.size
  · simp only [if_neg (show ¬ (s.size : Int) < 1 by omega), if_pos (show 0 < (s.size : Int) by omega)]
    have hb := bt_nat s 0 h0
    rw [named_eq s _ h0 rfl]
    have hl := Name_l s hs s.size 0 (by omega) (by omega)
    rw [List.drop_zero] at hl
    rw [show ((0 : Nat) : Int) = 0 from rfl] at hb
    simp only [show ((0 : Nat) : Int) = 0 from rfl] at hl
    generalize hc : s[0] = c at hb ⊢
    clear hc
    have hct : c.toNat < 256 := c.toNat_lt
    rw [show bt s 0 = (c.toNat : Int) from hb]
    by_cases h1 : (s.size : Int) > 24
    · simp only [if_pos h1]
      refine Ev.step (fun k => by rw [tontinebase_Name.j0]) ?_
      simp only [if_pos]
      rw [decide_eq_false (show ¬ s.size ≤ 24 by omega), Bool.false_and]
      exact Ev.const
    · simp only [if_neg h1]
      rw [decide_eq_true (show s.size ≤ 24 by omega), Bool.true_and]
      by_cases h2 : (c.toNat : Int) < 97
      · simp only [if_pos h2]
        refine Ev.step (fun k => by rw [tontinebase_Name.j0]) ?_
        simp only [if_pos]
        rw [show letB c = false by simp [letB]; omega, Bool.false_and]
        exact Ev.const
      · simp only [if_neg h2]
        refine Ev.step (fun k => by rw [tontinebase_Name.j0]) ?_
        by_cases h3 : (c.toNat : Int) > 122
        · simp only [decide_eq_true h3, if_pos]
          rw [show letB c = false by simp [letB]; omega, Bool.false_and]
          exact Ev.const
        · simp only [decide_eq_false h3, if_neg (show ¬ (false = true) by decide)]
          rw [show letB c = true by simp [letB]; omega, Bool.true_and]
          exact hl
  · simp only [if_pos (show (s.size : Int) < 1 by omega)]
    refine Ev.step (fun k => by rw [tontinebase_Name.j0]) ?_
    simp only [if_pos]
    rw [named_nil s h0]
    exact Ev.const
end Go.Proofs.Ytpfnnamicbbobaa.PL
