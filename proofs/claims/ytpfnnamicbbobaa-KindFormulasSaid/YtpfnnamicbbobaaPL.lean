/- Plain law, part 0: a printed function's answer for all fuels from one on. -/
import Derived.Test.YtpfnnamicbbobaaPAllx
import Derived.Test.YtpfnnamicbbobaaHS
import Derived.Lib.Bytealg
import Derived.Lib.IndexLaws
import Derived.KernelRfl
namespace Go.Proofs.Ytpfnnamicbbobaa.PL
open Go.RowKit Go.Proofs.YtpfnnamicbbobaaW.PrintWords Go.Proofs.YtpfnnamicbbobaaW.PrintMore Go.Proofs.Ytpfnnamicbbobaa.HS Go.Proofs.Ytpfnnamicbbobaa.PAll
section
variable {α β : Type}
/-- From some fuel on a function answers v. -/
def Ev (g : Nat → Option α) (v : α) : Prop := ∃ k0, ∀ k, k0 ≤ k → g k = some v
theorem Ev.const {v : α} : Ev (fun _ => some v) v := ⟨0, fun _ _ => rfl⟩
theorem Ev.bind {g : Nat → Option α} {h : Nat → α → Option β} {v : α} {u : β} (hg : Ev g v) (hh : Ev (fun k => h k v) u) : Ev (fun k => (g k).bind (h k)) u := by
  obtain ⟨a, ha⟩ := hg
  obtain ⟨b, hb⟩ := hh
  exact ⟨max a b, fun k hk => by show (g k).bind (h k) = some u; rw [ha k (by omega), Option.bind_some]; exact hb k (by omega)⟩
theorem Ev.bindc {o : Option α} {h : Nat → α → Option β} {v : α} {u : β} (hg : o = some v) (hh : Ev (fun k => h k v) u) : Ev (fun k => o.bind (h k)) u := Ev.bind (g := fun _ => o) ⟨0, fun _ _ => hg⟩ hh
theorem Ev.step {g e : Nat → Option α} {v : α} (hs : ∀ k, g (k + 1) = e k) (he : Ev e v) : Ev g v := by
  obtain ⟨a, ha⟩ := he
  refine ⟨a + 1, fun k hk => ?_⟩
  obtain ⟨j, rfl⟩ : ∃ j, k = j + 1 := ⟨k - 1, by omega⟩
  rw [hs]
  exact ha j (by omega)
theorem Ev.congr {g e : Nat → Option α} {v : α} (hs : ∀ k, g k = e k) (he : Ev e v) : Ev g v := by
  obtain ⟨a, ha⟩ := he
  exact ⟨a, fun k hk => (hs k).trans (ha k hk)⟩
theorem Ev.get {g : Nat → Option α} {v : α} (h : Ev g v) : ∃ k, g k = some v := ⟨h.choose, h.choose_spec _ (Nat.le_refl _)⟩
theorem Ev.of {g : Nat → Option α} {v : α} (hm : ∀ k, LeO (g k) (g (k + 1))) {k0 : Nat} (h : g k0 = some v) : Ev g v :=
  ⟨k0, fun k hk => by
    induction k with
    | zero => obtain rfl : k0 = 0 := by omega
              exact h
    | succ k ih =>
      by_cases e : k0 = k + 1
      · exact e ▸ h
      · exact hm k v (ih (by omega))⟩
end
/-- A byte, as the list says it. -/
theorem bt_nat (s : ByteArray) (n : Nat) (h : n < s.size) : bt s (n : Int) = (s[n].toNat : Int) := (bt_at s n (by simpa using h)).symm
theorem toList_data (s : ByteArray) : s.toList = s.data.toList := ByteArray.toList_eq s
theorem w64 (n : Int) (h : -9223372036854775808 ≤ n) (h' : n ≤ 9223372036854775807) : wrap64 n = n := by unfold wrap64; omega
end Go.Proofs.Ytpfnnamicbbobaa.PL
/- Plain law, part 1: names: kind.isName, tontinebase.Name, clause.named, tontineref17.Word, clause.word. -/
namespace Go.Proofs.Ytpfnnamicbbobaa.PL
open Go.RowKit Go.Proofs.YtpfnnamicbbobaaW.PrintWords Go.Proofs.YtpfnnamicbbobaaW.PrintMore Go.Proofs.Ytpfnnamicbbobaa.HS Go.Proofs.Ytpfnnamicbbobaa.PAll
/-- What the inner loops say from a place on. -/
theorem inn_step (s : ByteArray) (k : Nat) (h : k < s.size) : ((s.data.toList.drop k).all innB) = (innB s[k] && ((s.data.toList.drop (k + 1)).all innB)) := by
  rw [drop_at s k h, List.all_cons]
theorem isName_l (s : ByteArray) (hs : s.size ≤ 9223372036854775807) : ∀ (m n : Nat), s.size - n = m → n ≤ s.size → Ev (fun k => kind_isName.l0 k s (s.size : Int) (n : Int)) ((s.data.toList.drop n).all innB) := by
  intro m
  induction m with
  | zero =>
    intro n hm hn
    refine Ev.step (fun k => by rw [kind_isName.l0]) ?_
    simp only [if_neg (show ¬ (n : Int) < (s.size : Int) by omega)]
    rw [List.drop_eq_nil_of_le (by simpa using (show s.size ≤ n by omega))]
    exact Ev.const
  | succ m ih =>
    intro n hm hn
    have hlt : n < s.size := by omega
    have hr := ih (n + 1) (by omega) (by omega)
    refine Ev.step (fun k => by rw [kind_isName.l0]) ?_
    simp only [if_pos (show (n : Int) < (s.size : Int) by omega), if_pos (show (0 : Int) ≤ (n : Int) by omega), bt_nat s n hlt, show wrap64 ((n : Int) + 1) = ((n + 1 : Nat) : Int) by rw [w64 _ (by omega) (by omega)]; rfl]
    rw [inn_step s n hlt]
    generalize hc : s[n] = c
    have hb : c.toNat < 256 := c.toNat_lt
    clear hc
    cases hi : innB c with
    | true =>
      have hi' : (97 ≤ c.toNat ∧ c.toNat ≤ 122) ∨ (48 ≤ c.toNat ∧ c.toNat ≤ 57) ∨ c.toNat = 95 := by simpa [innB, letB, digB] using hi
      clear hi
      rw [Bool.true_and]
      repeat' split
      all_goals first | exact hr | (exfalso; omega)
    | false =>
      have hi' : ¬ ((97 ≤ c.toNat ∧ c.toNat ≤ 122) ∨ (48 ≤ c.toNat ∧ c.toNat ≤ 57) ∨ c.toNat = 95) := fun q => by
        have : innB c = true := by simpa [innB, letB, digB] using q
        rw [hi] at this
        cases this
      clear hi
      rw [Bool.false_and]
      repeat' split
      all_goals first | exact Ev.const | (exfalso; omega)
theorem Name_l (s : ByteArray) (hs : s.size ≤ 9223372036854775807) : ∀ (m n : Nat), s.size - n = m → n ≤ s.size → Ev (fun k => tontinebase_Name.l0 k s (n : Int)) ((s.data.toList.drop n).all innB) := by
  intro m
  induction m with
  | zero =>
    intro n hm hn
    refine Ev.step (fun k => by rw [tontinebase_Name.l0]) ?_
    simp only [if_neg (show ¬ (n : Int) < (s.size : Int) by omega)]
    rw [List.drop_eq_nil_of_le (by simpa using (show s.size ≤ n by omega))]
    exact Ev.const
  | succ m ih =>
    intro n hm hn
    have hlt : n < s.size := by omega
    have hr := ih (n + 1) (by omega) (by omega)
    refine Ev.step (fun k => by rw [tontinebase_Name.l0]) ?_
    simp only [if_pos (show (n : Int) < (s.size : Int) by omega), if_pos (show (0 : Int) ≤ (n : Int) by omega), bt_nat s n hlt, show wrap64 ((n : Int) + 1) = ((n + 1 : Nat) : Int) by rw [w64 _ (by omega) (by omega)]; rfl]
    rw [inn_step s n hlt]
    generalize hc : s[n] = c
    have hb : c.toNat < 256 := c.toNat_lt
    clear hc
    cases hi : innB c with
    | true =>
      have hi' : (97 ≤ c.toNat ∧ c.toNat ≤ 122) ∨ (48 ≤ c.toNat ∧ c.toNat ≤ 57) ∨ c.toNat = 95 := by simpa [innB, letB, digB] using hi
      clear hi
      rw [Bool.true_and]
      repeat' split
      all_goals first | exact hr | (exfalso; omega)
    | false =>
      have hi' : ¬ ((97 ≤ c.toNat ∧ c.toNat ≤ 122) ∨ (48 ≤ c.toNat ∧ c.toNat ≤ 57) ∨ c.toNat = 95) := fun q => by
        have : innB c = true := by simpa [innB, letB, digB] using q
        rw [hi] at this
        cases this
      clear hi
      rw [Bool.false_and]
      repeat' split
      all_goals first | exact Ev.const | (exfalso; omega)
theorem spanN_all (q : UInt8 → Bool) (l : List UInt8) : decide (spanN q l = l.length) = l.all q := by
  induction l with
  | nil => rfl
  | cons c r ih =>
    rw [spanN_cons, List.all_cons]
    cases hq : q c with
    | true => rw [if_pos rfl, Bool.true_and, ← ih]; simp
    | false => simp
theorem named_eq (s : ByteArray) (c : UInt8) (h0 : 0 < s.size) (hc : s[0] = c) : named s.data.toList = (decide (s.size ≤ 24) && (letB c && s.data.toList.all innB)) := by
  have e : s.data.toList = c :: s.data.toList.drop 1 := by rw [← hc]; simpa using drop_at s 0 h0
  have hl : s.data.toList.length = s.size := by simp
  rw [← spanN_all]
  generalize s.data.toList = l at e hl ⊢
  generalize l.drop 1 = r at e
  subst e
  simp only [List.length_cons] at hl
  show (decide (r.length < 24) && (letB c && decide (spanN innB (c :: r) = r.length + 1))) = _
  rw [show decide (r.length < 24) = decide (s.size ≤ 24) from decide_eq_decide.mpr (by omega)]
  rfl
theorem named_nil (s : ByteArray) (h0 : ¬ 0 < s.size) : named s.data.toList = false := by
  rw [show s.data.toList = [] from List.eq_nil_of_length_eq_zero (by rw [show s.data.toList.length = s.size by simp]; omega)]
  rfl
theorem size_nil (s : ByteArray) : s.toList = ([] : List UInt8) ↔ ¬ 0 < s.size := by
  rw [toList_data]
  constructor
  · intro h
    have h2 : s.data.toList.length = 0 := by rw [h]; rfl
    rw [show s.data.toList.length = s.size by simp] at h2
    omega
  · intro h
    exact List.eq_nil_of_length_eq_zero (by rw [show s.data.toList.length = s.size by simp]; omega)
theorem isName_ev (s : ByteArray) (hs : s.size ≤ 9223372036854775807) : Ev (fun k => kind_isName.f k s) (named s.data.toList) := by
  unfold kind_isName.f
  by_cases h0 : 0 < s.size
  · have hn : ¬ s.toList = ([] : List UInt8) := fun e => (size_nil s).mp e h0
    simp only [if_neg hn, if_pos (show 0 < (s.size : Int) by omega)]
    have hb := bt_nat s 0 h0
    rw [named_eq s _ h0 rfl]
    have hl := isName_l s hs s.size 0 (by omega) (by omega)
    rw [List.drop_zero] at hl
    rw [show ((0 : Nat) : Int) = 0 from rfl] at hb
    simp only [show ((0 : Nat) : Int) = 0 from rfl] at hl
    generalize hc : s[0] = c at hb ⊢
    clear hc
    have hct : c.toNat < 256 := c.toNat_lt
    rw [show bt s 0 = (c.toNat : Int) from hb]
    by_cases h1 : (s.size : Int) > 24
    · simp only [if_pos h1]
      refine Ev.step (fun k => by rw [kind_isName.j0]) ?_
      simp only [if_pos]
      rw [decide_eq_false (show ¬ s.size ≤ 24 by omega), Bool.false_and]
      exact Ev.const
    · simp only [if_neg h1]
      rw [decide_eq_true (show s.size ≤ 24 by omega), Bool.true_and]
      by_cases h2 : (c.toNat : Int) < 97
      · simp only [if_pos h2]
        refine Ev.step (fun k => by rw [kind_isName.j0]) ?_
        simp only [if_pos]
        rw [show letB c = false by simp [letB]; omega, Bool.false_and]
        exact Ev.const
      · simp only [if_neg h2]
        refine Ev.step (fun k => by rw [kind_isName.j0]) ?_
        by_cases h3 : (c.toNat : Int) > 122
        · simp only [decide_eq_true h3, if_pos]
          rw [show letB c = false by simp [letB]; omega, Bool.false_and]
          exact Ev.const
        · simp only [decide_eq_false h3, if_neg (show ¬ (false = true) by decide)]
          rw [show letB c = true by simp [letB]; omega, Bool.true_and]
          exact hl
  · simp only [if_pos ((size_nil s).mpr h0)]
    refine Ev.step (fun k => by rw [kind_isName.j0]) ?_
    simp only [if_pos]
    rw [named_nil s h0]
    exact Ev.const
theorem Name_ev (s : ByteArray) (hs : s.size ≤ 9223372036854775807) : Ev (fun k => tontinebase_Name.f k s) (named s.data.toList) := by
  unfold tontinebase_Name.f
  by_cases h0 : 0 < s.size
  · simp only [if_neg (show ¬ (s.size : Int) < 1 by omega), if_pos (show 0 < (s.size : Int) by omega)]
    have hb := bt_nat s 0 h0
    rw [named_eq s _ h0 rfl]
    have hl := Name_l s hs s.size 0 (by omega) (by omega)
    rw [List.drop_zero] at hl
    rw [show ((0 : Nat) : Int) = 0 from rfl] at hb
    simp only [show ((0 : Nat) : Int) = 0 from rfl] at hl
    generalize hc : s[0] = c at hb ⊢
    clear hc
    have hct : c.toNat < 256 := c.toNat_lt
    rw [show bt s 0 = (c.toNat : Int) from hb]
    by_cases h1 : (s.size : Int) > 24
    · simp only [if_pos h1]
      refine Ev.step (fun k => by rw [tontinebase_Name.j0]) ?_
      simp only [if_pos]
      rw [decide_eq_false (show ¬ s.size ≤ 24 by omega), Bool.false_and]
      exact Ev.const
    · simp only [if_neg h1]
      rw [decide_eq_true (show s.size ≤ 24 by omega), Bool.true_and]
      by_cases h2 : (c.toNat : Int) < 97
      · simp only [if_pos h2]
        refine Ev.step (fun k => by rw [tontinebase_Name.j0]) ?_
        simp only [if_pos]
        rw [show letB c = false by simp [letB]; omega, Bool.false_and]
        exact Ev.const
      · simp only [if_neg h2]
        refine Ev.step (fun k => by rw [tontinebase_Name.j0]) ?_
        by_cases h3 : (c.toNat : Int) > 122
        · simp only [decide_eq_true h3, if_pos]
          rw [show letB c = false by simp [letB]; omega, Bool.false_and]
          exact Ev.const
        · simp only [decide_eq_false h3, if_neg (show ¬ (false = true) by decide)]
          rw [show letB c = true by simp [letB]; omega, Bool.true_and]
          exact hl
  · simp only [if_pos (show (s.size : Int) < 1 by omega)]
    refine Ev.step (fun k => by rw [tontinebase_Name.j0]) ?_
    simp only [if_pos]
    rw [named_nil s h0]
    exact Ev.const
end Go.Proofs.Ytpfnnamicbbobaa.PL
/- Plain law, part 2: numbers as they are written: the list's shape. -/
namespace Go.Proofs.Ytpfnnamicbbobaa.PL
open Go.Proofs.Ytpfnnamicbbobaa.HS
/-- A number, or (sum) what stands behind a $, as it is written. -/
def numOK (sum : Bool) (t : List UInt8) : Bool :=
  (decide (t.takeWhile digB ≠ []) && !(decide (1 < (t.takeWhile digB).length) && decide (t.head? = some 48))) &&
  match t.dropWhile digB with
  | [] => !sum && decide (t.length ≤ 18)
  | c :: d => (decide (c = 46) && (decide (d ≠ []) && d.all digB)) && (decide (t.length ≤ 19) && (!sum || decide (d.length = 2)))
theorem tw_all (l : List UInt8) : (l.takeWhile digB).all digB = true := by
  induction l with
  | nil => rfl
  | cons c r ih =>
    rw [List.takeWhile_cons]
    split
    · rename_i h; rw [List.all_cons, h, ih]; rfl
    · rfl
theorem dw_head (l d : List UInt8) (c : UInt8) (h : l.dropWhile digB = c :: d) : digB c = false := by
  induction l with
  | nil => cases h
  | cons x r ih =>
    rw [List.dropWhile_cons] at h
    split at h
    · exact ih h
    · rename_i hx
      cases h
      simpa using hx
theorem parts_eq (l : List UInt8) : l = l.takeWhile digB ++ l.dropWhile digB := List.takeWhile_append_dropWhile.symm
theorem tw_app (ds r : List UInt8) (h : ds.all digB = true) : (ds ++ r).takeWhile digB = ds ++ r.takeWhile digB := by
  induction ds with
  | nil => rfl
  | cons c t ih =>
    rw [List.all_cons, Bool.and_eq_true] at h
    rw [List.cons_append, List.takeWhile_cons, if_pos h.1, ih h.2]; rfl
theorem dw_app (ds r : List UInt8) (h : ds.all digB = true) : (ds ++ r).dropWhile digB = r.dropWhile digB := by
  induction ds with
  | nil => rfl
  | cons c t ih =>
    rw [List.all_cons, Bool.and_eq_true] at h
    rw [List.cons_append, List.dropWhile_cons, if_pos h.1, ih h.2]
theorem dig46 (c : UInt8) (h : digB c = true) : (c == 46) = false := by
  cases hc : c == 46 with
  | false => rfl
  | true =>
    rw [beq_iff_eq] at hc
    subst hc
    exact absurd h (by decide)
theorem count_dig (ds : List UInt8) (h : ds.all digB = true) : ds.count 46 = 0 := by
  induction ds with
  | nil => rfl
  | cons c t ih =>
    rw [List.all_cons, Bool.and_eq_true] at h
    rw [List.count_cons, ih h.2, dig46 c h.1]; rfl
theorem index_dig (ds : List UInt8) (h : ds.all digB = true) : Lib.indexByte ds 46 = -1 := by
  induction ds with
  | nil => rfl
  | cons c t ih =>
    rw [List.all_cons, Bool.and_eq_true] at h
    rw [Lib.indexByte, dig46 c h.1, ih h.2]; rfl
theorem index_dot (ds d : List UInt8) (h : ds.all digB = true) : Lib.indexByte (ds ++ 46 :: d) 46 = ds.length := by
  induction ds with
  | nil => rfl
  | cons c t ih =>
    rw [List.all_cons, Bool.and_eq_true] at h
    rw [List.cons_append, Lib.indexByte, dig46 c h.1, ih h.2]
    rw [show (((t.length : Int)) == -1) = false by rw [beq_eq_false_iff_ne]; omega]
    simp
theorem figs_app (ds r : List UInt8) (h : ds.all digB = true) (hr : r.takeWhile digB = []) : figs (ds ++ r) = if 0 < ds.length ∧ r.head? = some 46 then (if 0 < spanN digB r.tail then ds.length + (spanN digB r.tail + 1) else ds.length) else ds.length := by
  have hs : spanN digB (ds ++ r) = ds.length := by unfold spanN; rw [tw_app ds r h, hr, List.append_nil]
  have hx : (ds ++ r)[ds.length]? = r.head? := by rw [List.getElem?_append_right (Nat.le_refl _), Nat.sub_self]; cases r <;> rfl
  have hd : (ds ++ r).drop (ds.length + 1) = r.tail := by rw [List.drop_append]; simp
  unfold figs
  rw [hs, hx, hd]
theorem span_all (l : List UInt8) : spanN digB l = l.length ↔ l.all digB = true := by
  constructor
  · intro h
    unfold spanN at h
    have e := parts_eq l
    have hl := congrArg List.length e
    rw [List.length_append] at hl
    have : l.dropWhile digB = [] := List.eq_nil_of_length_eq_zero (by omega)
    rw [this, List.append_nil] at e
    rw [e]
    exact tw_all l
  · intro h
    have := tw_app l [] h
    rw [List.append_nil] at this
    unfold spanN
    rw [this]; simp
/-- The three shapes of a text. -/
theorem shapes (t : List UInt8) : (t.all digB = true) ∨ (∃ ds d, t = ds ++ 46 :: d ∧ ds.all digB = true) ∨ (∃ ds c d, t = ds ++ c :: d ∧ ds.all digB = true ∧ digB c = false ∧ c ≠ 46) := by
  cases h : t.dropWhile digB with
  | nil =>
    left
    have e := parts_eq t
    rw [h, List.append_nil] at e
    rw [e]; exact tw_all t
  | cons c d =>
    right
    have e := parts_eq t
    rw [h] at e
    have hc := dw_head t d c h
    by_cases h46 : c = 46
    · subst h46; exact .inl ⟨_, _, e, tw_all t⟩
    · exact .inr ⟨_, c, d, e, tw_all t, hc, h46⟩
theorem numOK_dig (sum : Bool) (ds : List UInt8) (h : ds.all digB = true) : numOK sum ds = ((decide (ds ≠ []) && !(decide (1 < ds.length) && decide (ds.head? = some 48))) && (!sum && decide (ds.length ≤ 18))) := by
  have e1 := tw_app ds [] h
  have e2 := dw_app ds [] h
  rw [List.append_nil] at e1 e2
  simp only [List.takeWhile_nil, List.append_nil, List.dropWhile_nil] at e1 e2
  unfold numOK
  rw [e1, e2]
theorem numOK_app (sum : Bool) (ds : List UInt8) (c : UInt8) (d : List UInt8) (h : ds.all digB = true) (hc : digB c = false) : numOK sum (ds ++ c :: d) = ((decide (ds ≠ []) && !(decide (1 < ds.length) && decide (ds.head? = some 48))) && ((decide (c = 46) && (decide (d ≠ []) && d.all digB)) && (decide (ds.length + d.length ≤ 18) && (!sum || decide (d.length = 2))))) := by
  have e1 := tw_app ds (c :: d) h
  have e2 := dw_app ds (c :: d) h
  rw [List.takeWhile_cons, if_neg (by simp [hc]), List.append_nil] at e1
  rw [List.dropWhile_cons, if_neg (by simp [hc])] at e2
  unfold numOK
  rw [e1, e2]
  have e3 : decide ((ds ++ c :: d).length ≤ 19) = decide (ds.length + d.length ≤ 18) := decide_eq_decide.mpr (by simp; omega)
  rw [e3]
  cases ds with
  | nil => rfl
  | cons x r => rfl
end Go.Proofs.Ytpfnnamicbbobaa.PL
/- Plain law, part 3: clause.number is numOK. -/
namespace Go.Proofs.Ytpfnnamicbbobaa.PL
open Go.RowKit Go.Proofs.YtpfnnamicbbobaaW.PrintWords Go.Proofs.YtpfnnamicbbobaaW.PrintMore Go.Proofs.Ytpfnnamicbbobaa.HS Go.Proofs.Ytpfnnamicbbobaa.PAll
theorem lsize (s : ByteArray) : s.data.toList.length = s.size := by simp
theorem count1 (s : ByteArray) : strings_Count.f s ⟨#[46]⟩ = some ((s.data.toList.count 46 : Nat) : Int) := rfl
theorem index1 (s : ByteArray) : stringslite_Index.f s ⟨#[46]⟩ = some (Lib.indexByte s.data.toList 46) := rfl
theorem ex_list (s : ByteArray) (a b : Nat) (_ : b ≤ s.size) : (s.extract a b).data.toList = (s.data.toList.drop a).take (b - a) := by
  rw [ByteArray.data_extract, Array.toList_extract, List.extract_eq_take_drop]
theorem ex_size (s : ByteArray) (a b : Nat) (h : b ≤ s.size) : (s.extract a b).size = b - a := by
  rw [ByteArray.size_extract]; omega
theorem many_eq (s : ByteArray) (hs : s.size ≤ 9223372036854775807) : clause_many.f s = some ((s.size : Int) - (s.data.toList.count 46 : Nat)) := by
  unfold clause_many.f
  rw [count1, Option.bind_some]
  have : s.data.toList.count 46 ≤ s.size := by rw [← lsize]; exact List.count_le_length
  rw [w64 _ (by omega) (by omega)]
/-- The three answers of Cut at a point. -/
theorem cut_none (s : ByteArray) (h : Lib.indexByte s.data.toList 46 = -1) : strings_Cut.f s ⟨#[46]⟩ = some (s, ⟨#[]⟩, false) := by
  unfold strings_Cut.f stringslite_Cut.f
  rw [index1, h]; rfl
theorem cut_some (s : ByteArray) (n : Nat) (hs : s.size ≤ 9223372036854775807) (hn : n < s.size) (h : Lib.indexByte s.data.toList 46 = n) : strings_Cut.f s ⟨#[46]⟩ = some (s.extract 0 n, s.extract (n + 1) s.size, true) := by
  unfold strings_Cut.f stringslite_Cut.f
  rw [index1, h, Option.bind_some]
  have hw : wrap64 ((n : Int) + ((⟨#[46]⟩ : ByteArray).size : Int)) = ((n + 1 : Nat) : Int) := by rw [show ((⟨#[46]⟩ : ByteArray).size) = 1 from rfl, w64 _ (by omega) (by omega)]; rfl
  rw [hw, if_pos (by omega), if_pos (by omega), if_pos (by omega), if_pos (by omega), if_pos (by omega)]
  rfl
/-- What 'early' and 'pennies' say. -/
theorem early_of (s p q : ByteArray) (b : Bool) (h : strings_Cut.f s ⟨#[46]⟩ = some (p, q, b)) : clause_early.f s = some (decide (1 < p.size) && decide (p.data.toList.head? = some 48)) := by
  unfold clause_early.f
  rw [h, Option.bind_some]
  show (if (p.size : Int) > 1 then (if 0 < (p.size : Int) then some (bt p 0 == 48) else none) else some false) = _
  by_cases h1 : 1 < p.size
  · rw [if_pos (by omega), if_pos (by omega), decide_eq_true h1, Bool.true_and]
    congr 1
    have e : p.data.toList.head? = some p[0] := by
      rw [show p.data.toList = p[0] :: p.data.toList.drop 1 by simpa using drop_at p 0 (by omega)]; rfl
    rw [e, show bt p 0 = (p[0].toNat : Int) from bt_nat p 0 (by omega)]
    rw [Bool.eq_iff_iff]
    simp only [beq_iff_eq, decide_eq_true_eq, Option.some.injEq]
    constructor
    · intro e; exact UInt8.toNat_inj.mp (by simpa using (show p[0].toNat = 48 by omega))
    · intro e; rw [e]; rfl
  · rw [if_neg (by omega), decide_eq_false h1, Bool.false_and]
theorem pennies_of (s p q : ByteArray) (b : Bool) (h : strings_Cut.f s ⟨#[46]⟩ = some (p, q, b)) : clause_pennies.f s = some (b && decide (q.size = 2)) := by
  unfold clause_pennies.f
  rw [h, Option.bind_some]
  cases b with
  | true => rw [if_pos rfl, Bool.true_and]; congr 1; rw [Bool.eq_iff_iff]; simp only [beq_iff_eq, decide_eq_true_eq]; omega
  | false => rfl
theorem amiss_of (s p q : ByteArray) (b sum : Bool) (hs : s.size ≤ 9223372036854775807) (h : strings_Cut.f s ⟨#[46]⟩ = some (p, q, b)) :
    ∃ e, clause_amiss.f s sum = some e ∧ (e == 0) = (decide ((s.size : Int) - (s.data.toList.count 46 : Nat) ≤ 18) && (!(decide (1 < p.size) && decide (p.data.toList.head? = some 48)) && (!sum || (b && decide (q.size = 2))))) := by
  unfold clause_amiss.f
  rw [many_eq s hs, Option.bind_some, early_of s p q b h, Option.bind_some, pennies_of s p q b h]
  by_cases h1 : (s.size : Int) - (s.data.toList.count 46 : Nat) > 18
  · rw [if_pos h1]
    exact ⟨_, rfl, by rw [decide_eq_false (by omega)]; rfl⟩
  · rw [if_neg h1, decide_eq_true (show (s.size : Int) - (s.data.toList.count 46 : Nat) ≤ 18 by omega), Bool.true_and]
    cases (decide (1 < p.size) && decide (p.data.toList.head? = some 48)) with
    | true => exact ⟨_, rfl, rfl⟩
    | false =>
      rw [if_neg (by decide)]
      cases sum with
      | false => exact ⟨_, rfl, rfl⟩
      | true =>
        rw [if_pos rfl, Option.bind_some]
        cases (b && decide (q.size = 2)) with
        | true => exact ⟨_, rfl, rfl⟩
        | false => exact ⟨_, rfl, rfl⟩
theorem number_eq (s : ByteArray) (sum : Bool) (hs : s.size ≤ 9223372036854775807) : clause_number.f s sum = some (numOK sum s.data.toList) := by
  have hl := lsize s
  unfold clause_number.f clause_figures.f
  rw [if_pos hs, Option.bind_some]
  rcases shapes s.data.toList with h | ⟨ds, d, e, h⟩ | ⟨ds, c, d, e, h, hc, h46⟩
  · have hf : figs s.data.toList = s.size := by
      have := figs_app s.data.toList [] h rfl
      rw [List.append_nil] at this
      rw [this, hl]; simp
    rw [hf, if_pos rfl, numOK_dig sum _ h]
    by_cases h0 : 0 < s.size
    · rw [if_neg (fun e => (size_nil s).mp e h0)]
      obtain ⟨x, hx, hx0⟩ := amiss_of s s ⟨#[]⟩ false sum hs (cut_none s (index_dig _ h))
      rw [hx, Option.bind_some, hx0, count_dig _ h, decide_eq_true (show s.data.toList ≠ [] by intro e; rw [e] at hl; simp at hl; omega)]
      congr 1
      rw [hl, show decide ((s.size : Int) - ((0 : Nat) : Int) ≤ 18) = decide (s.size ≤ 18) from decide_eq_decide.mpr (by omega)]
      cases (decide (1 < s.size) && decide (s.data.toList.head? = some 48)) <;> cases decide (s.size ≤ 18) <;> cases sum <;> rfl
    · rw [if_pos ((size_nil s).mpr h0), decide_eq_false (show ¬ s.data.toList ≠ [] from fun q => q (List.eq_nil_of_length_eq_zero (by omega)))]
      rfl
  · have hlen : s.size = ds.length + (d.length + 1) := by rw [← hl, e]; simp
    have hf : figs (ds ++ 46 :: d) = if 0 < ds.length then (if 0 < spanN digB d then ds.length + (spanN digB d + 1) else ds.length) else ds.length := by
      rw [figs_app ds (46 :: d) h rfl]
      by_cases q : 0 < ds.length
      · rw [if_pos ⟨q, rfl⟩, if_pos q]; rfl
      · rw [if_neg (fun z => q z.1), if_neg q]
    rw [e, hf, numOK_app sum ds 46 d h (by decide)]
    by_cases h1 : 0 < ds.length
    · rw [if_pos h1]
      by_cases h2 : 0 < spanN digB d
      · rw [if_pos h2]
        have hd : d ≠ [] := fun q => by rw [q] at h2; exact absurd h2 (by decide)
        by_cases h3 : spanN digB d = d.length
        · rw [if_pos (by omega), if_neg (fun q => (size_nil s).mp q (by omega))]
          have hi := index_dot ds d h
          rw [← e] at hi
          obtain ⟨x, hx, hx0⟩ := amiss_of s _ _ true sum hs (cut_some s ds.length hs (by omega) hi)
          rw [hx, Option.bind_some, hx0, ex_size _ _ _ (by omega), ex_size _ _ _ (Nat.le_refl _), ex_list _ _ _ (by omega), e, List.count_append, count_dig ds h, List.count_cons, count_dig d ((span_all d).mp h3)]
          rw [show (List.drop 0 (ds ++ 46 :: d)).take (ds.length - 0) = ds by simp]
          rw [decide_eq_true (show ds ≠ [] by intro q; rw [q] at h1; exact absurd h1 (by decide)), decide_eq_true hd, (span_all d).mp h3]
          congr 1
          rw [show decide ((s.size : Int) - ((0 + (0 + if (46 : UInt8) == 46 then 1 else 0) : Nat) : Int) ≤ 18) = decide (ds.length + d.length ≤ 18) from decide_eq_decide.mpr (by simp; omega), show decide (1 < ds.length - 0) = decide (1 < ds.length) from rfl, show decide (s.size - (ds.length + 1) = 2) = decide (d.length = 2) from decide_eq_decide.mpr (by omega)]
          cases (decide (1 < ds.length) && decide (ds.head? = some 48)) <;> cases decide (ds.length + d.length ≤ 18) <;> cases sum <;> cases decide (d.length = 2) <;> rfl
        · have := spanN_le digB d
          rw [if_neg (by omega)]
          rw [show d.all digB = false from Bool.eq_false_iff.mpr fun q => h3 ((span_all d).mpr q)]
          simp
      · rw [if_neg h2, if_neg (by omega)]
        have : (decide (d ≠ []) && d.all digB) = false := by
          cases hq : (decide (d ≠ []) && d.all digB) with
          | false => rfl
          | true =>
            rw [Bool.and_eq_true, decide_eq_true_eq] at hq
            have := (span_all d).mpr hq.2
            have h9 : d.length ≠ 0 := fun q => hq.1 (List.eq_nil_of_length_eq_zero q)
            omega
        rw [this]; simp
    · rw [if_neg h1, if_neg (by omega), decide_eq_false (show ¬ ds ≠ [] from fun q => q (List.eq_nil_of_length_eq_zero (by omega)))]
      rfl
  · have hlen : s.size = ds.length + (d.length + 1) := by rw [← hl, e]; simp
    have hf := figs_app ds (c :: d) h (by rw [List.takeWhile_cons, if_neg (by simp [hc])])
    rw [if_neg (by rintro ⟨_, q⟩; exact h46 (by simpa using q))] at hf
    rw [e, hf, if_neg (by omega), numOK_app sum ds c d h hc, decide_eq_false h46]
    simp
end Go.Proofs.Ytpfnnamicbbobaa.PL
/- Plain law, part 4: the document's Number and Sum are numOK. -/
namespace Go.Proofs.Ytpfnnamicbbobaa.PL
open Go.RowKit Go.Proofs.YtpfnnamicbbobaaW.PrintWords Go.Proofs.YtpfnnamicbbobaaW.PrintMore Go.Proofs.Ytpfnnamicbbobaa.HS Go.Proofs.Ytpfnnamicbbobaa.PAll
theorem bt_dig (s : ByteArray) (n : Nat) (h : n < s.size) : digB s[n] = (decide (48 ≤ bt s n) && decide (bt s n ≤ 57)) := by
  rw [bt_nat s n h]
  unfold digB
  rw [show decide (48 ≤ (s[n].toNat : Int)) = decide (48 ≤ s[n].toNat) from decide_eq_decide.mpr (by omega), show decide ((s[n].toNat : Int) ≤ 57) = decide (s[n].toNat ≤ 57) from decide_eq_decide.mpr (by omega)]
theorem bt_mid (s : ByteArray) (ds d : List UInt8) (c : UInt8) (e : s.data.toList = ds ++ c :: d) : bt s (ds.length : Int) = c.toNat := by
  have hl := lsize s
  have hlt : ds.length < s.size := by rw [← hl, e]; simp
  rw [bt_nat s _ hlt]
  have : s[ds.length] = c := by
    have h2 : s.data.toList[ds.length]? = some s[ds.length] := by rw [List.getElem?_eq_getElem (by omega)]; rfl
    rw [e, List.getElem?_append_right (Nat.le_refl _), Nat.sub_self] at h2
    simpa using h2.symm
  rw [this]
theorem digits_l (s : ByteArray) (hs : s.size ≤ 9223372036854775806) : ∀ (m n : Nat), s.size - n = m → n ≤ s.size → Ev (fun k => tontineref17_digits.l0 k s (n : Int)) ((n + spanN digB (s.data.toList.drop n) : Nat) : Int) := by
  intro m
  induction m with
  | zero =>
    intro n hm hn
    refine Ev.step (fun k => by rw [tontineref17_digits.l0]) ?_
    simp only [if_neg (show ¬ (n : Int) < (s.size : Int) by omega)]
    rw [spanN_end digB s n (by omega)]
    exact Ev.const
  | succ m ih =>
    intro n hm hn
    have hlt : n < s.size := by omega
    have hr := ih (n + 1) (by omega) (by omega)
    refine Ev.step (fun k => by rw [tontineref17_digits.l0]) ?_
    simp only [if_pos (show (n : Int) < (s.size : Int) by omega), if_pos (show (0 : Int) ≤ (n : Int) by omega), show wrap64 ((n : Int) + 1) = ((n + 1 : Nat) : Int) by rw [w64 _ (by omega) (by omega)]; rfl]
    have hd := bt_dig s n hlt
    by_cases h1 : bt s n ≥ 48
    · simp only [if_pos h1]
      by_cases h2 : bt s n ≤ 57
      · simp only [if_pos h2]
        rw [spanN_at digB s n hlt (by rw [hd, decide_eq_true h1, decide_eq_true h2]; rfl), show n + (spanN digB (s.data.toList.drop (n + 1)) + 1) = n + 1 + spanN digB (s.data.toList.drop (n + 1)) by omega]
        exact hr
      · simp only [if_neg h2]
        rw [spanN_stop digB s n hlt (by rw [hd, decide_eq_false h2, Bool.and_false])]
        exact Ev.const
    · simp only [if_neg h1]
      rw [spanN_stop digB s n hlt (by rw [hd, decide_eq_false h1, Bool.false_and])]
      exact Ev.const
theorem digits_ev (s : ByteArray) (hs : s.size ≤ 9223372036854775806) (n : Nat) (hn : n ≤ s.size) : Ev (fun k => tontineref17_digits.f k s (n : Int)) ((n + spanN digB (s.data.toList.drop n) : Nat) : Int) := by
  unfold tontineref17_digits.f
  exact digits_l s hs _ n rfl hn
/-- Figures, no 0 ahead. -/
def dgOK (l : List UInt8) : Bool := decide (l ≠ []) && !(decide (1 < l.length) && decide (l.head? = some 48))
theorem Digits_l (s : ByteArray) (hs : s.size ≤ 9223372036854775806) (ha : s.data.toList.all digB = true) : ∀ (m n : Nat), s.size - n = m → n ≤ s.size → Ev (fun k => tontinebase_Digits.l0 k s (n : Int)) (dgOK s.data.toList) := by
  intro m
  induction m with
  | zero =>
    intro n hm hn
    have hl := lsize s
    refine Ev.step (fun k => by rw [tontinebase_Digits.l0]) ?_
    simp only [if_neg (show ¬ (n : Int) < (s.size : Int) by omega), toList_data]
    by_cases h0 : 0 < s.size
    · have e : s.data.toList = s[0] :: s.data.toList.drop 1 := by simpa using drop_at s 0 h0
      simp only [if_pos (show 0 < (s.size : Int) by omega)]
      have hb := bt_nat s 0 h0
      rw [show ((0 : Nat) : Int) = 0 from rfl] at hb
      rw [hb]
      generalize s.data.toList = l at e hl ⊢
      generalize s[0] = c at e ⊢
      generalize l.drop 1 = r at e
      subst e
      simp only [List.length_cons] at hl
      by_cases h48 : c = 48
      · subst h48
        cases r with
        | nil => simp only [if_pos]; exact Ev.const
        | cons y r =>
          simp only [show ¬ ((48 : UInt8) :: y :: r = [48]) by simp, if_false, show ¬ ((48 : UInt8) :: y :: r = []) by simp]
          exact Ev.const
      · simp only [show ¬ (c :: r = [48]) by simp [h48], if_false, show ¬ (c :: r = []) by simp]
        rw [show dgOK (c :: r) = true by simp [dgOK, h48], show ((c.toNat : Int) != 48) = true from bne_iff_ne.mpr fun q => h48 (UInt8.toNat_inj.mp (by show c.toNat = 48; omega))]
        exact Ev.const
    · have : s.data.toList = [] := List.eq_nil_of_length_eq_zero (by omega)
      simp only [this, show ¬ (([] : List UInt8) = [48]) by simp, if_false, if_true]
      exact Ev.const
  | succ m ih =>
    intro n hm hn
    have hlt : n < s.size := by omega
    have hr := ih (n + 1) (by omega) (by omega)
    refine Ev.step (fun k => by rw [tontinebase_Digits.l0]) ?_
    simp only [if_pos (show (n : Int) < (s.size : Int) by omega), if_pos (show (0 : Int) ≤ (n : Int) by omega), show wrap64 ((n : Int) + 1) = ((n + 1 : Nat) : Int) by rw [w64 _ (by omega) (by omega)]; rfl]
    have hd := bt_dig s n hlt
    have : digB s[n] = true := by
      have h2 := List.all_eq_true.mp ha s[n]
      exact h2 (by have := List.getElem_mem (l := s.data.toList) (n := n) (by rw [lsize]; exact hlt); exact this)
    rw [this] at hd
    have hd2 := hd.symm
    rw [Bool.and_eq_true, decide_eq_true_eq, decide_eq_true_eq] at hd2
    simp only [if_neg (show ¬ bt s n < 48 by omega), if_neg (show ¬ bt s n > 57 by omega)]
    exact hr
theorem Digits_ev (s : ByteArray) (hs : s.size ≤ 9223372036854775806) (ha : s.data.toList.all digB = true) : Ev (fun k => tontinebase_Digits.f k s) (dgOK s.data.toList) := by
  unfold tontinebase_Digits.f
  exact Digits_l s hs ha s.size 0 (by omega) (by omega)
theorem Number_j1 (s : ByteArray) (hs : s.size ≤ 9223372036854775806) : Ev (fun k => tontineref17_Number.j1 k s) (numOK false s.data.toList) := by
  have hl := lsize s
  refine Ev.step (fun k => by rw [tontineref17_Number.j1]) ?_
  have hd := digits_ev s hs 0 (by omega)
  rw [List.drop_zero, Nat.zero_add] at hd
  refine Ev.bind hd ?_
  have hsp := spanN_le digB s.data.toList
  simp only [if_pos (show (0 : Int) ≤ ((spanN digB s.data.toList : Nat) : Int) by omega), if_pos (show ((spanN digB s.data.toList : Nat) : Int) ≤ (s.size : Int) by omega), Int.toNat_natCast]
  have he : (s.extract 0 (spanN digB s.data.toList)).data.toList = s.data.toList.takeWhile digB := by
    rw [ex_list _ _ _ (by omega), List.drop_zero, Nat.sub_zero]
    conv => lhs; rw [show s.data.toList.take (spanN digB s.data.toList) = (s.data.toList.takeWhile digB ++ s.data.toList.dropWhile digB).take (spanN digB s.data.toList) by rw [← parts_eq]]
    unfold spanN
    rw [List.take_left]
  have hD := Digits_ev (s.extract 0 (spanN digB s.data.toList)) (by rw [ex_size _ _ _ (by omega)]; omega) (by rw [he]; exact tw_all _)
  rw [he] at hD
  refine Ev.bind hD ?_
  rcases shapes s.data.toList with h | ⟨ds, d, e, h⟩ | ⟨ds, c, d, e, h, hc, h46⟩
  · have e1 := tw_app s.data.toList [] h
    rw [List.append_nil, List.takeWhile_nil, List.append_nil] at e1
    rw [(span_all _).mpr h, numOK_dig false _ h, e1, hl]
    show Ev (fun k => if dgOK s.data.toList = true then _ else _) (dgOK s.data.toList && (!false && decide (s.size ≤ 18)))
    cases dgOK s.data.toList with
    | false => simp only [Bool.false_and]; exact Ev.const
    | true =>
      simp only [if_true, if_neg (show ¬ (s.size : Int) < (s.size : Int) by omega)]
      rw [show (true && (!false && decide (s.size ≤ 18))) = decide ((s.size : Int) ≤ 18) by rw [Bool.true_and, Bool.not_false, Bool.true_and]; exact decide_eq_decide.mpr (by omega)]
      exact Ev.const
  · have e1 := tw_app ds (46 :: d) h
    rw [List.takeWhile_cons, if_neg (by decide), List.append_nil] at e1
    have hlen : s.size = ds.length + (d.length + 1) := by rw [← hl, e]; simp
    have hsn : spanN digB s.data.toList = ds.length := by rw [e]; unfold spanN; rw [e1]
    have hD2 := digits_ev s hs (ds.length + 1) (by omega)
    rw [show s.data.toList.drop (ds.length + 1) = d by rw [e, List.drop_append]; simp] at hD2
    rw [hsn]
    rw [show numOK false s.data.toList = (dgOK ds && ((decide ((46 : UInt8) = 46) && (decide (d ≠ []) && d.all digB)) && (decide (ds.length + d.length ≤ 18) && (!false || decide (d.length = 2))))) by rw [e]; exact numOK_app false ds 46 d h (by decide)]
    rw [e, e1, bt_mid s ds d 46 e]
    cases dgOK ds with
    | false => simp only [Bool.false_and]; exact Ev.const
    | true =>
      simp only [if_true, if_pos (show ((ds.length : Nat) : Int) < (s.size : Int) by omega), show (((46 : UInt8).toNat : Nat) : Int) = 46 from rfl, show wrap64 ((ds.length : Int) + 1) = ((ds.length + 1 : Nat) : Int) by rw [w64 _ (by omega) (by omega)]; rfl]
      refine Ev.bind hD2 ?_
      have := spanN_le digB d
      by_cases h3 : spanN digB d = d.length
      · simp only [if_pos (show ((ds.length + 1 + spanN digB d : Nat) : Int) = (s.size : Int) by omega), (span_all d).mp h3]
        by_cases h4 : d = []
        · subst h4
          simp only [if_pos (show ((ds.length + 1 : Nat) : Int) = (s.size : Int) by simp at hlen; omega)]
          exact Ev.const
        · have h5 : d.length ≠ 0 := fun q => h4 (List.eq_nil_of_length_eq_zero q)
          simp only [if_neg (show ¬ ((ds.length + 1 : Nat) : Int) = (s.size : Int) by omega)]
          rw [w64 _ (by omega) (by omega), decide_eq_true h4, show decide ((s.size : Int) - 1 ≤ 18) = decide (ds.length + d.length ≤ 18) from decide_eq_decide.mpr (by omega)]
          cases decide (ds.length + d.length ≤ 18) <;> exact Ev.const
      · simp only [if_neg (show ¬ ((ds.length + 1 + spanN digB d : Nat) : Int) = (s.size : Int) by omega), show d.all digB = false from Bool.eq_false_iff.mpr fun q => h3 ((span_all d).mpr q)]
        cases decide (d ≠ []) <;> exact Ev.const
  · have e1 := tw_app ds (c :: d) h
    rw [List.takeWhile_cons, if_neg (by simp [hc]), List.append_nil] at e1
    have hlen : s.size = ds.length + (d.length + 1) := by rw [← hl, e]; simp
    have hsn : spanN digB s.data.toList = ds.length := by rw [e]; unfold spanN; rw [e1]
    rw [hsn]
    rw [show numOK false s.data.toList = false by rw [e, numOK_app false ds c d h hc, decide_eq_false h46]; simp]
    rw [e, e1, bt_mid s ds d c e]
    have hcn : ¬ (c.toNat : Int) = 46 := fun q => h46 (UInt8.toNat_inj.mp (by show c.toNat = 46; omega))
    cases dgOK ds with
    | false => exact Ev.const
    | true => simp only [if_true, if_pos (show ((ds.length : Nat) : Int) < (s.size : Int) by omega), if_neg hcn]; exact Ev.const
end Go.Proofs.Ytpfnnamicbbobaa.PL
/- Plain law, part 5: texts of nodes: what the program says and what the document says. -/
namespace Go.Proofs.Ytpfnnamicbbobaa.PL
set_option linter.unusedSimpArgs false
open Go.RowKit Go.Proofs.YtpfnnamicbbobaaW.PrintWords Go.Proofs.YtpfnnamicbbobaaW.PrintMore Go.Proofs.Ytpfnnamicbbobaa.HS Go.Proofs.Ytpfnnamicbbobaa.PAll
/-- Without a % at the end. -/
def strip (s : ByteArray) : ByteArray := if 0 < s.size ∧ bt s ((s.size : Int) - 1) = 37 then s.extract 0 (s.size - 1) else s
theorem strip_le (s : ByteArray) : (strip s).size ≤ s.size := by
  unfold strip
  split
  · rw [ex_size _ _ _ (by omega)]; omega
  · exact Nat.le_refl _
theorem one_list (c x : UInt8) : (([c] : List UInt8) == [x]) = decide ((c.toNat : Int) = x.toNat) := by
  rw [Bool.eq_iff_iff, decide_eq_true_eq, beq_iff_eq]
  constructor
  · intro h; cases h; rfl
  · intro h; rw [UInt8.toNat_inj.mp (show c.toNat = x.toNat by omega)]
theorem trim_eq (s : ByteArray) (hs : s.size ≤ 9223372036854775806) : strings_TrimSuffix.f s ⟨#[37]⟩ = some (strip s) := by
  unfold strings_TrimSuffix.f stringslite_TrimSuffix.f stringslite_HasSuffix.f
  have h1 : ((⟨#[37]⟩ : ByteArray).size : Int) = 1 := rfl
  rw [h1]
  by_cases h0 : 0 < s.size
  · have hw : wrap64 ((s.size : Int) - 1) = ((s.size - 1 : Nat) : Int) := by rw [w64 _ (by omega) (by omega)]; omega
    rw [hw, if_pos (by omega), if_pos (by omega), if_pos (by omega), if_pos (by omega), if_pos (by omega), Int.toNat_natCast, Option.bind_some]
    have e : (s.extract (s.size - 1) s.size).toList = [s[s.size - 1]] := by
      rw [toList_data, ex_list _ _ _ (Nat.le_refl _), drop_at s (s.size - 1) (by omega), show s.size - (s.size - 1) = 1 by omega]; rfl
    rw [e, show (⟨#[37]⟩ : ByteArray).toList = [37] by rw [toList_data], one_list]
    have hb : bt s ((s.size : Int) - 1) = (s[s.size - 1].toNat : Int) := by rw [show ((s.size : Int) - 1) = ((s.size - 1 : Nat) : Int) by omega, bt_nat s (s.size - 1) (by omega)]
    rw [show (((37 : UInt8).toNat : Nat) : Int) = 37 from rfl]
    by_cases h2 : (s[s.size - 1].toNat : Int) = 37
    · have hst : strip s = s.extract 0 (s.size - 1) := if_pos ⟨h0, hb.trans h2⟩
      rw [hst, decide_eq_true h2]; rfl
    · have hst : strip s = s := if_neg (fun q => h2 (hb.symm.trans q.2))
      rw [hst, decide_eq_false h2]; rfl
  · rw [if_neg (by omega)]
    have hst : strip s = s := if_neg (fun q => h0 q.1)
    rw [hst]; rfl
theorem NumberF_ev (s : ByteArray) (hs : s.size ≤ 9223372036854775806) : Ev (fun k => tontineref17_Number.f k s) (numOK false (strip s).data.toList) := by
  unfold tontineref17_Number.f
  have hj := Number_j1 (strip s) (Nat.le_trans (strip_le s) hs)
  by_cases h0 : 0 < s.size
  · have hw : wrap64 ((s.size : Int) - 1) = ((s.size - 1 : Nat) : Int) := by rw [w64 _ (by omega) (by omega)]; omega
    simp only [if_neg (fun e => (size_nil s).mp e h0), hw, if_pos (show (0 : Int) ≤ ((s.size - 1 : Nat) : Int) by omega), if_pos (show ((s.size - 1 : Nat) : Int) < (s.size : Int) by omega)]
    refine Ev.step (fun k => by rw [tontineref17_Number.j0]) ?_
    have hb : bt s ((s.size : Int) - 1) = bt s ((s.size - 1 : Nat) : Int) := by rw [show ((s.size : Int) - 1) = ((s.size - 1 : Nat) : Int) by omega]
    by_cases h2 : bt s ((s.size - 1 : Nat) : Int) = 37
    · have hst : strip s = s.extract 0 (s.size - 1) := if_pos ⟨h0, hb.trans h2⟩
      rw [hst] at hj ⊢
      simp only [h2, beq_self_eq_true, if_true, hw, if_pos (show (0 : Int) ≤ ((s.size - 1 : Nat) : Int) by omega), if_pos (show ((s.size - 1 : Nat) : Int) ≤ (s.size : Int) by omega), Int.toNat_natCast]
      exact hj
    · have hst : strip s = s := if_neg (fun q => h2 (hb.symm.trans q.2))
      rw [hst] at hj ⊢
      simp only [beq_eq_false_iff_ne.mpr h2, show ¬ (false = true) by decide, if_false]
      exact hj
  · simp only [if_pos ((size_nil s).mpr h0)]
    refine Ev.step (fun k => by rw [tontineref17_Number.j0]) ?_
    have hst : strip s = s := if_neg (fun q => h0 q.1)
    rw [hst] at hj ⊢
    exact hj
/-- A sum, as it is written. -/
def sumOK (l : List UInt8) : Bool := decide (l.head? = some 36) && numOK true l.tail
theorem head_bt (s : ByteArray) (h0 : 0 < s.size) (c : UInt8) : decide (s.data.toList.head? = some c) = decide (bt s 0 = c.toNat) := by
  have e : s.data.toList.head? = some s[0] := by
    rw [show s.data.toList = s[0] :: s.data.toList.drop 1 by simpa using drop_at s 0 h0]; rfl
  rw [e, show bt s 0 = (s[0].toNat : Int) from bt_nat s 0 h0]
  exact decide_eq_decide.mpr ⟨fun q => by rw [Option.some.inj q], fun q => by rw [UInt8.toNat_inj.mp (show s[0].toNat = c.toNat by omega)]⟩
theorem cutp_eq (s : ByteArray) : strings_CutPrefix.f s ⟨#[36]⟩ = some (if s.data.toList.head? = some 36 then (s.extract 1 s.size, true) else (s, false)) := by
  unfold strings_CutPrefix.f stringslite_CutPrefix.f stringslite_HasPrefix.f
  have h1 : ((⟨#[36]⟩ : ByteArray).size : Int) = 1 := rfl
  rw [h1]
  by_cases h0 : 0 < s.size
  · rw [if_pos (by omega), if_pos (by omega), if_pos (by omega), if_pos (by omega), Option.bind_some]
    have e : (s.extract 0 ((1 : Int).toNat)).toList = [s[0]] := by
      rw [toList_data, ex_list _ _ _ (by show 1 ≤ s.size; omega), drop_at s 0 (by omega)]; rfl
    rw [e, show (⟨#[36]⟩ : ByteArray).toList = [36] by rw [toList_data], one_list]
    have hd := head_bt s h0 36
    rw [show bt s 0 = (s[0].toNat : Int) from bt_nat s 0 h0] at hd
    rw [← hd]
    by_cases h2 : s.data.toList.head? = some 36
    · rw [if_pos h2, decide_eq_true h2, if_pos rfl, if_pos (by omega)]; rfl
    · rw [if_neg h2, decide_eq_false h2]; rfl
  · rw [if_neg (by omega), Option.bind_some]
    have : s.data.toList = [] := List.eq_nil_of_length_eq_zero (by rw [lsize]; omega)
    rw [this]; rfl
theorem Sum_ev (s : ByteArray) (hs : s.size ≤ 9223372036854775806) : Ev (fun k => tontineref17_Sum.f k s) (sumOK s.data.toList) := by
  unfold tontineref17_Sum.f
  have hl := lsize s
  unfold sumOK
  by_cases h5 : (s.size : Int) < 5
  · simp only [if_pos h5]
    refine Ev.step (fun k => by rw [tontineref17_Sum.j0]) ?_
    simp only [if_true]
    have : (decide (s.data.toList.head? = some 36) && numOK true s.data.toList.tail) = false := by
      cases hx : s.data.toList with
      | nil => rfl
      | cons c t =>
        rw [hx] at hl
        simp only [List.length_cons] at hl
        rw [List.tail_cons]
        have : numOK true t = false := by
          rcases shapes t with h | ⟨ds, d, e, h⟩ | ⟨ds, c, d, e, h, hc, h46⟩
          · rw [numOK_dig true t h]; simp
          · rw [e, numOK_app true ds 46 d h (by decide)]
            rw [e] at hl
            simp only [List.length_append, List.length_cons] at hl
            by_cases h1 : ds = []
            · rw [decide_eq_false (fun q => q h1)]; rfl
            · have : ds.length ≠ 0 := fun q => h1 (List.eq_nil_of_length_eq_zero q)
              rw [show decide (d.length = 2) = false from decide_eq_false (by omega)]; simp
          · rw [e, numOK_app true ds c d h hc, decide_eq_false h46]; simp
        rw [this, Bool.and_false]
    rw [this]
    exact Ev.const
  · have h0 : 0 < s.size := by omega
    simp only [if_neg h5, if_pos (show 0 < (s.size : Int) by omega)]
    refine Ev.step (fun k => by rw [tontineref17_Sum.j0]) ?_
    rw [head_bt s h0 36, show (((36 : UInt8).toNat : Nat) : Int) = 36 from rfl]
    by_cases h36 : bt s 0 = 36
    · simp only [h36, bne_self_eq_false, show ¬ (false = true) by decide, if_false, decide_true, Bool.true_and]
      have hx : s.data.toList = s[0] :: s.data.toList.drop 1 := by simpa using drop_at s 0 h0
      obtain ⟨t, ht⟩ : ∃ t, t = s.data.toList.drop 1 := ⟨_, rfl⟩
      rw [show s.data.toList.tail = t by rw [ht, List.drop_one]]
      have htl : t.length + 1 = s.size := by rw [ht, List.length_drop, hl]; omega
      have hd := digits_ev s hs 1 (by omega)
      rw [← ht] at hd
      have hsp := spanN_le digB t
      refine Ev.bind (show Ev (fun k => tontineref17_digits.f k s 1) _ from hd) ?_
      simp only [if_pos (show (1 : Int) ≤ ((1 + spanN digB t : Nat) : Int) by omega), if_pos (show ((1 + spanN digB t : Nat) : Int) ≤ (s.size : Int) by omega), Int.toNat_natCast]
      have he : (s.extract 1 (1 + spanN digB t)).data.toList = t.takeWhile digB := by
        rw [ex_list _ _ _ (by omega), ← ht, show 1 + spanN digB t - 1 = (t.takeWhile digB).length by unfold spanN; omega]
        conv => lhs; rw [show t.take (t.takeWhile digB).length = (t.takeWhile digB ++ t.dropWhile digB).take (t.takeWhile digB).length by rw [← parts_eq]]
        rw [List.take_left]
      have hD := Digits_ev (s.extract 1 (1 + spanN digB t)) (by rw [ex_size _ _ _ (by omega)]; omega) (by rw [he]; exact tw_all _)
      rw [he] at hD
      refine Ev.bind hD ?_
      have hw3 : wrap64 ((s.size : Int) - 3) = (s.size : Int) - 3 := w64 _ (by omega) (by omega)
      simp only [hw3]
      rcases shapes t with h | ⟨ds, d, e, h⟩ | ⟨ds, c, d, e, h, hc, h46⟩
      · rw [(span_all _).mpr h, show numOK true t = false by rw [numOK_dig true t h]; simp]
        simp only [if_neg (show ¬ ((1 + t.length : Nat) : Int) = (s.size : Int) - 3 by omega)]
        cases dgOK (t.takeWhile digB) <;> exact Ev.const
      · have e1 := tw_app ds (46 :: d) h
        rw [List.takeWhile_cons, if_neg (by decide), List.append_nil] at e1
        have hlen : t.length = ds.length + (d.length + 1) := by rw [e]; simp
        have hsn : spanN digB t = ds.length := by rw [e]; unfold spanN; rw [e1]
        have hb : bt s ((1 + ds.length : Nat) : Int) = 46 := by
          have := bt_mid s (s[0] :: ds) d 46 (by rw [hx, ← ht, e]; rfl)
          rw [List.length_cons] at this
          rw [show 1 + ds.length = ds.length + 1 by omega, this]; rfl
        have hD2 := digits_ev s hs (1 + ds.length + 1) (by omega)
        rw [show s.data.toList.drop (1 + ds.length + 1) = d by rw [show 1 + ds.length + 1 = 1 + (ds.length + 1) by omega, ← List.drop_drop, ← ht, e, List.drop_append]; simp] at hD2
        rw [hsn]
        rw [show numOK true t = (dgOK ds && ((decide ((46 : UInt8) = 46) && (decide (d ≠ []) && d.all digB)) && (decide (ds.length + d.length ≤ 18) && (!true || decide (d.length = 2))))) by rw [e]; exact numOK_app true ds 46 d h (by decide)]
        rw [e, e1]
        cases dgOK ds with
        | false => simp only [Bool.false_and]; exact Ev.const
        | true =>
          simp only [if_true]
          by_cases h2 : d.length = 2
          · simp only [if_pos (show ((1 + ds.length : Nat) : Int) = (s.size : Int) - 3 by omega), if_pos (show (0 : Int) ≤ ((1 + ds.length : Nat) : Int) by omega), if_pos (show ((1 + ds.length : Nat) : Int) < (s.size : Int) by omega), hb, if_true, show wrap64 (((1 + ds.length : Nat) : Int) + 1) = ((1 + ds.length + 1 : Nat) : Int) by rw [w64 _ (by omega) (by omega)]; rfl]
            refine Ev.bind hD2 ?_
            have := spanN_le digB d
            have h4 : d ≠ [] := fun q => by rw [q] at h2; cases h2
            rw [w64 ((s.size : Int) - 2) (by omega) (by omega), decide_eq_true h2, decide_eq_true h4]
            by_cases h3 : spanN digB d = d.length
            · simp only [if_pos (show ((1 + ds.length + 1 + spanN digB d : Nat) : Int) = (s.size : Int) by omega), (span_all d).mp h3]
              rw [show decide ((s.size : Int) - 2 ≤ 18) = decide (ds.length + d.length ≤ 18) from decide_eq_decide.mpr (by omega)]
              cases decide (ds.length + d.length ≤ 18) <;> exact Ev.const
            · simp only [if_neg (show ¬ ((1 + ds.length + 1 + spanN digB d : Nat) : Int) = (s.size : Int) by omega), show d.all digB = false from Bool.eq_false_iff.mpr fun q => h3 ((span_all d).mpr q)]
              exact Ev.const
          · simp only [if_neg (show ¬ ((1 + ds.length : Nat) : Int) = (s.size : Int) - 3 by omega)]
            rw [decide_eq_false h2]
            simp only [Bool.not_true, Bool.false_or, Bool.and_false]
            exact Ev.const
      · have e1 := tw_app ds (c :: d) h
        rw [List.takeWhile_cons, if_neg (by simp [hc]), List.append_nil] at e1
        have hlen : t.length = ds.length + (d.length + 1) := by rw [e]; simp
        have hsn : spanN digB t = ds.length := by rw [e]; unfold spanN; rw [e1]
        have hb : bt s ((1 + ds.length : Nat) : Int) = c.toNat := by
          have := bt_mid s (s[0] :: ds) d c (by rw [hx, ← ht, e]; rfl)
          rw [List.length_cons] at this
          rw [show 1 + ds.length = ds.length + 1 by omega, this]
        have hcn : ¬ (c.toNat : Int) = 46 := fun q => h46 (UInt8.toNat_inj.mp (by show c.toNat = 46; omega))
        rw [hsn, show numOK true t = false by rw [e, numOK_app true ds c d h hc, decide_eq_false h46]; simp]
        rw [e, e1]
        cases dgOK ds with
        | false => exact Ev.const
        | true =>
          simp only [if_true]
          by_cases h2 : ((1 + ds.length : Nat) : Int) = (s.size : Int) - 3
          · simp only [if_pos h2, if_pos (show (0 : Int) ≤ ((1 + ds.length : Nat) : Int) by omega), if_pos (show ((1 + ds.length : Nat) : Int) < (s.size : Int) by omega), hb, if_neg hcn]
            exact Ev.const
          · simp only [if_neg h2]
            exact Ev.const
    · simp only [bne_iff_ne.mpr h36, if_true, decide_eq_false h36, Bool.false_and]
      exact Ev.const
end Go.Proofs.Ytpfnnamicbbobaa.PL
/- Plain law, part 6: nodes. -/
namespace Go.Proofs.Ytpfnnamicbbobaa.PL
set_option linter.unusedSimpArgs false
open Go.RowKit Go.Proofs.YtpfnnamicbbobaaW.PrintWords Go.Proofs.YtpfnnamicbbobaaW.PrintMore Go.Proofs.Ytpfnnamicbbobaa.HS Go.Proofs.Ytpfnnamicbbobaa.PAll
def wordOK (s : ByteArray) : Bool := named s.data.toList && !Ytpfnnamicbbobaa.HB.keptB s
def textOK (op : Int) (s : ByteArray) : Bool := if op = 1 then numOK false (strip s).data.toList else if op = 2 then sumOK s.data.toList else if op = 5 then wordOK s else (s.toList == ([] : List UInt8))
/-- How many parts; -1: as many as it says, one at least. -/
def pcount (op : Int) : Int := if 1 ≤ op ∧ op ≤ 5 then 0 else if op = 6 ∨ op = 7 then 1 else if op = 20 then 3 else if op = 21 ∨ op = 22 then -1 else 2
def nodeOK (op n : Int) (s : ByteArray) : Bool := (decide (1 ≤ op ∧ op ≤ 23) && (decide (0 ≤ pcount op ∧ n = pcount op) || decide (pcount op < 0 ∧ 1 ≤ n))) && textOK op s
theorem parts_ev (op : Int) : Ev (fun k => clause_parts.f k op) (pcount op) := by
  unfold clause_parts.f
  have last : ¬ (1 ≤ op ∧ op ≤ 5) → Ev (fun k => clause_parts.j0 k op false) (pcount op) := by
    intro h
    refine Ev.step (fun k => by rw [clause_parts.j0]) ?_
    unfold pcount
    rw [if_neg h]
    by_cases h6 : op = 6
    · simp only [if_pos h6]
      refine Ev.step (fun k => by rw [clause_parts.j1]) ?_
      subst h6
      exact Ev.const
    · simp only [if_neg h6]
      refine Ev.step (fun k => by rw [clause_parts.j1]) ?_
      by_cases h7 : op = 7
      · subst h7; exact Ev.const
      · simp only [beq_eq_false_iff_ne.mpr h7, Bool.false_eq_true, if_false]
        rw [if_neg (show ¬ (op = 6 ∨ op = 7) by omega)]
        by_cases h20 : op = 20
        · simp only [if_pos h20]; exact Ev.const
        · simp only [if_neg h20]
          by_cases h21 : op = 21
          · simp only [if_pos h21]; rw [if_pos (.inl h21)]; exact Ev.const
          · simp only [if_neg h21]
            by_cases h22 : op = 22
            · simp only [if_pos h22]; rw [if_pos (.inr h22)]; exact Ev.const
            · simp only [if_neg h22]; rw [if_neg (by omega)]; exact Ev.const
  by_cases h : 1 ≤ op ∧ op ≤ 5
  · have first : Ev (fun k => clause_parts.j0 k op true) (pcount op) := by
      refine Ev.step (fun k => by rw [clause_parts.j0]) ?_
      unfold pcount
      rw [if_pos h]
      exact Ev.const
    have : op = 1 ∨ op = 2 ∨ op = 3 ∨ op = 4 ∨ op = 5 := by omega
    rcases this with rfl | rfl | rfl | rfl | rfl <;> exact first
  · simp only [if_neg (show ¬ op = 1 by omega), if_neg (show ¬ op = 2 by omega), if_neg (show ¬ op = 3 by omega), if_neg (show ¬ op = 4 by omega), beq_eq_false_iff_ne.mpr (show op ≠ 5 by omega)]
    exact last h
/-- Words between blanks. -/
def joined : List (List UInt8) → List UInt8
  | [] => [32]
  | w :: r => 32 :: (w ++ joined r)
def no32 (l : List UInt8) : Bool := l.all fun c => c != 32
theorem joined_head (ws : List (List UInt8)) : ∃ R, joined ws = 32 :: R := by cases ws <;> exact ⟨_, rfl⟩
theorem pre_eq : ∀ (s w R : List UInt8), no32 s = true → no32 w = true → (s ++ [32]).isPrefixOf (w ++ 32 :: R) = (w == s)
  | [], [], R, _, _ => by simp [List.isPrefixOf]
  | [], d :: w, R, _, hw => by
    rw [no32, List.all_cons, Bool.and_eq_true] at hw
    have : (32 == d) = false := by rw [beq_eq_false_iff_ne]; intro e; rw [← e] at hw; exact absurd hw.1 (by decide)
    simp [List.isPrefixOf, this]
  | c :: s, [], R, hs, _ => by
    rw [no32, List.all_cons, Bool.and_eq_true] at hs
    have : (c == 32) = false := by rw [beq_eq_false_iff_ne]; intro e; rw [e] at hs; exact absurd hs.1 (by decide)
    simp [List.isPrefixOf, this]
  | c :: s, d :: w, R, hs, hw => by
    rw [no32, List.all_cons, Bool.and_eq_true] at hs hw
    have ih := pre_eq s w R hs.2 hw.2
    rw [List.cons_append, List.cons_append, List.isPrefixOf, ih, List.cons_beq_cons, Bool.beq_comm (a := c) (b := d)]
theorem has_cons (b : UInt8) (l sub : List UInt8) : Lib.contains (b :: l) sub = (sub.isPrefixOf (b :: l) || Lib.contains l sub) := by
  unfold Lib.contains
  rw [Lib.index]
  have := Lib.index_ge l sub
  split
  · rename_i h; rw [h]; rfl
  · rename_i h
    rw [Bool.eq_false_iff.mpr h, Bool.false_or]
    split
    · rename_i h2; rw [beq_iff_eq] at h2; rw [h2]
    · rename_i h2; rw [beq_iff_eq] at h2; exact decide_eq_decide.mpr (by omega)
theorem has_skip (s : List UInt8) : ∀ (w l : List UInt8), no32 w = true → Lib.contains (w ++ l) (32 :: s) = Lib.contains l (32 :: s)
  | [], l, _ => rfl
  | d :: w, l, hw => by
    rw [no32, List.all_cons, Bool.and_eq_true] at hw
    have : (32 == d) = false := by rw [beq_eq_false_iff_ne]; intro e; rw [← e] at hw; exact absurd hw.1 (by decide)
    rw [List.cons_append, has_cons, has_skip s w l hw.2, List.isPrefixOf, this]; rfl
theorem has_joined (s : List UInt8) (hs : no32 s = true) : ∀ ws : List (List UInt8), (ws.all no32) = true → Lib.contains (joined ws) (32 :: (s ++ [32])) = ws.any fun w => w == s
  | [], _ => by
    cases s with
    | nil => rfl
    | cons c t =>
      rw [joined, has_cons]
      simp [List.isPrefixOf, Lib.contains, Lib.index]
  | w :: r, h => by
    rw [List.all_cons, Bool.and_eq_true] at h
    obtain ⟨R, hR⟩ := joined_head r
    rw [joined, has_cons, has_skip _ w _ h.1, has_joined s hs r h.2, List.any_cons]
    rw [hR, List.isPrefixOf, pre_eq s w R hs h.1]
    rfl
theorem no32_inn (l : List UInt8) (h : l.all innB = true) : no32 l = true := by
  rw [List.all_eq_true] at h
  unfold no32
  rw [List.all_eq_true]
  intro c hc
  have := h c hc
  rw [bne_iff_ne]
  intro e
  subst e
  exact absurd this (by decide)
theorem named_small (s : ByteArray) (h : named s.data.toList = true) : s.size ≤ 24 ∧ no32 s.data.toList = true := by
  by_cases h0 : 0 < s.size
  · rw [named_eq s _ h0 rfl, Bool.and_eq_true, Bool.and_eq_true, decide_eq_true_eq] at h
    exact ⟨h.1, no32_inn _ h.2.2⟩
  · rw [named_nil s h0] at h; cases h
theorem kept_eq (s : ByteArray) (h : no32 s.data.toList = true) : Lib.contains Ytpfnnamicbbobaa.HB.keptText (32 :: (s.data.toList ++ [32])) = Ytpfnnamicbbobaa.HB.keptB s := by
  have e : Ytpfnnamicbbobaa.HB.keptText = joined (Ytpfnnamicbbobaa.HB.keptWs.map fun x => x.data.toList) := by decide
  rw [e, has_joined _ h _ (by decide), List.any_map]
  unfold Ytpfnnamicbbobaa.HB.keptB
  congr 1
  funext x
  simp only [Function.comp, toList_data]
theorem word_eq (s : ByteArray) (hs : s.size ≤ 9223372036854775806) : clause_word.f s = some (wordOK s) := by
  unfold clause_word.f clause_named.f
  rw [if_pos (by omega), Option.bind_some]
  unfold wordOK
  cases h : named s.data.toList with
  | false => rfl
  | true =>
    have hn := named_small s h
    rw [if_pos rfl]
    unfold clause_isKept.f
    rw [if_pos hn.1, Option.bind_some, kept_eq s hn.2]
    rfl
theorem Word_ev (s : ByteArray) (hs : s.size ≤ 9223372036854775806) : Ev (fun k => tontineref17_Word.f k s) (wordOK s) := by
  unfold tontineref17_Word.f wordOK
  refine Ev.bind (Name_ev s (by omega)) ?_
  cases named s.data.toList with
  | false => exact Ev.const
  | true => exact Ev.const
theorem text_eq (op n : Int) (s : ByteArray) (hs : s.size ≤ 9223372036854775806) : clause_text.f op n s = some (textOK op s) := by
  unfold clause_text.f textOK
  have hst := strip_le s
  by_cases h1 : op = 1
  · rw [if_pos h1, if_pos h1, trim_eq s hs, Option.bind_some, number_eq _ false (by omega)]; rfl
  · rw [if_neg h1, if_neg h1]
    by_cases h2 : op = 2
    · rw [if_pos h2, if_pos h2, cutp_eq s, Option.bind_some]
      unfold sumOK
      by_cases h3 : s.data.toList.head? = some 36
      · rw [if_pos h3, decide_eq_true h3, Bool.true_and]
        have hx : 0 < s.size := by
          by_cases h0 : 0 < s.size
          · exact h0
          · rw [show s.data.toList = [] from List.eq_nil_of_length_eq_zero (by rw [lsize]; omega)] at h3; cases h3
        show (if true = true then (clause_number.f (s.extract 1 s.size) true).bind fun t => some t else some false) = _
        rw [if_pos rfl, number_eq _ true (by rw [ex_size _ _ _ (Nat.le_refl _)]; omega), ex_list _ _ _ (Nat.le_refl _), List.take_of_length_le (by rw [List.length_drop, lsize]; omega), List.drop_one]; rfl
      · rw [if_neg h3, decide_eq_false h3]; rfl
    · rw [if_neg h2, if_neg h2]
      by_cases h5 : op = 5
      · rw [if_pos h5, if_pos h5, word_eq s hs]; rfl
      · rw [if_neg h5, if_neg h5]
theorem node_ev (op n : Int) (s : ByteArray) (hs : s.size ≤ 9223372036854775806) : Ev (fun k => clause_node.f k op n s) (nodeOK op n s) := by
  unfold clause_node.f
  refine Ev.bind (parts_ev op) ?_
  simp only [text_eq op n s hs, Option.bind_some]
  unfold nodeOK
  by_cases h1 : op ≥ 1
  · by_cases h2 : op ≤ 23
    · rw [decide_eq_true (show 1 ≤ op ∧ op ≤ 23 from ⟨h1, h2⟩), Bool.true_and]
      simp only [if_pos h1, if_pos h2]
      by_cases h3 : pcount op ≥ 0
      · simp only [if_pos h3, if_neg (show ¬ pcount op < 0 by omega)]
        rw [decide_eq_false (show ¬ (pcount op < 0 ∧ 1 ≤ n) by omega), Bool.or_false]
        by_cases h4 : n = pcount op
        · simp only [if_pos h4]; rw [decide_eq_true ⟨h3, h4⟩, Bool.true_and]; exact Ev.const
        · simp only [if_neg h4]; rw [decide_eq_false (fun q => h4 q.2), Bool.false_and]; exact Ev.const
      · simp only [if_neg h3, if_pos (show pcount op < 0 by omega)]
        rw [decide_eq_false (show ¬ (0 ≤ pcount op ∧ n = pcount op) by omega), Bool.false_or]
        by_cases h4 : n ≥ 1
        · simp only [if_pos h4]; rw [decide_eq_true (show pcount op < 0 ∧ 1 ≤ n by omega), Bool.true_and]; exact Ev.const
        · simp only [if_neg h4]; rw [decide_eq_false (show ¬ (pcount op < 0 ∧ 1 ≤ n) by omega), Bool.false_and]; exact Ev.const
    · simp only [if_pos h1, if_neg h2]
      rw [decide_eq_false (fun q => h2 q.2), Bool.false_and, Bool.false_and]; exact Ev.const
  · simp only [if_neg h1]
    rw [decide_eq_false (fun q => h1 q.1), Bool.false_and, Bool.false_and]; exact Ev.const
/-- The document's count. -/
def rcount (op n : Int) : Int := if 1 ≤ op ∧ op ≤ 5 then 0 else if op = 6 ∨ op = 7 then 1 else if (8 ≤ op ∧ op ≤ 19) ∨ op = 23 then 2 else if op = 20 then 3 else if (op = 21 ∨ op = 22) ∧ n ≥ 1 then n else -1
theorem count_ev (op n : Int) (s : ByteArray) : Ev (fun k => tontineref17_count.f k op n s) (rcount op n) := by
  have c2 : ¬ (1 ≤ op ∧ op ≤ 5) → ¬ (op = 6 ∨ op = 7) → ∀ b, b = decide ((8 ≤ op ∧ op ≤ 19) ∨ op = 23) → Ev (fun k => tontineref17_count.j2 k b op n s) (rcount op n) := by
    intro h1 h2 b hb
    refine Ev.step (fun k => by rw [tontineref17_count.j2]) ?_
    unfold rcount
    rw [if_neg h1, if_neg h2, hb]
    by_cases h3 : (8 ≤ op ∧ op ≤ 19) ∨ op = 23
    · rw [if_pos h3, decide_eq_true h3]; exact Ev.const
    · rw [if_neg h3, decide_eq_false h3]
      simp only [Bool.false_eq_true, if_false]
      by_cases h4 : op = 20
      · simp only [if_pos h4]; exact Ev.const
      · simp only [if_neg h4]
        by_cases h5 : op = 21
        · simp only [if_pos h5]
          by_cases h6 : n ≥ 1
          · simp only [if_pos h6]; rw [if_pos ⟨.inl h5, h6⟩]; exact Ev.const
          · simp only [if_neg h6]; rw [if_neg (fun q => h6 q.2)]; exact Ev.const
        · simp only [if_neg h5]
          by_cases h7 : op = 22
          · simp only [if_pos h7]
            by_cases h6 : n ≥ 1
            · simp only [if_pos h6]; rw [if_pos ⟨.inr h7, h6⟩]; exact Ev.const
            · simp only [if_neg h6]; rw [if_neg (fun q => h6 q.2)]; exact Ev.const
          · simp only [if_neg h7]; rw [if_neg (by omega)]; exact Ev.const
  have c1 : ¬ (1 ≤ op ∧ op ≤ 5) → ∀ b, b = decide (op = 6 ∨ op = 7) → Ev (fun k => tontineref17_count.j1 k b op n s) (rcount op n) := by
    intro h1 b hb
    refine Ev.step (fun k => by rw [tontineref17_count.j1]) ?_
    rw [hb]
    by_cases h2 : op = 6 ∨ op = 7
    · rw [decide_eq_true h2]
      unfold rcount
      rw [if_neg h1, if_pos h2]; exact Ev.const
    · rw [decide_eq_false h2]
      simp only [Bool.false_eq_true, if_false]
      by_cases h3 : op ≥ 8
      · simp only [if_pos h3]
        by_cases h4 : op ≤ 19
        · simp only [if_pos h4]; exact c2 h1 h2 _ (decide_eq_true (.inl ⟨h3, h4⟩)).symm
        · simp only [if_neg h4]
          exact c2 h1 h2 _ (by rw [Bool.eq_iff_iff]; simp only [beq_iff_eq, decide_eq_true_eq]; omega)
      · simp only [if_neg h3]
        exact c2 h1 h2 _ (by rw [Bool.eq_iff_iff]; simp only [beq_iff_eq, decide_eq_true_eq]; omega)
  have c0 : ∀ b, b = decide (1 ≤ op ∧ op ≤ 5) → Ev (fun k => tontineref17_count.j0 k b op n s) (rcount op n) := by
    intro b hb
    refine Ev.step (fun k => by rw [tontineref17_count.j0]) ?_
    rw [hb]
    by_cases h1 : 1 ≤ op ∧ op ≤ 5
    · rw [decide_eq_true h1]
      unfold rcount
      rw [if_pos h1]; exact Ev.const
    · rw [decide_eq_false h1]
      simp only [Bool.false_eq_true, if_false]
      by_cases h6 : op = 6
      · simp only [if_pos h6]; exact c1 h1 _ (decide_eq_true (.inl h6)).symm
      · simp only [if_neg h6]
        exact c1 h1 _ (by rw [Bool.eq_iff_iff]; simp only [beq_iff_eq, decide_eq_true_eq]; omega)
  unfold tontineref17_count.f
  by_cases h : op ≥ 1
  · simp only [if_pos h]; exact c0 _ (decide_eq_decide.mpr (by omega))
  · simp only [if_neg h]; exact c0 _ (decide_eq_false (by omega)).symm
theorem rnode_ev (op n : Int) (s : ByteArray) (hs : s.size ≤ 9223372036854775806) : Ev (fun k => tontineref17_node.f k op n s) (nodeOK op n s) := by
  have j1 : Ev (fun k => tontineref17_node.j0 k true op n s) false := by
    refine Ev.step (fun k => by rw [tontineref17_node.j0]) ?_
    exact Ev.const
  have j2 : Ev (fun k => tontineref17_node.j0 k false op n s) (textOK op s) := by
    refine Ev.step (fun k => by rw [tontineref17_node.j0]) ?_
    simp only [Bool.false_eq_true, if_false]
    unfold textOK
    by_cases h1 : op = 1
    · simp only [if_pos h1]; exact Ev.bind (NumberF_ev s hs) Ev.const
    · simp only [if_neg h1]
      by_cases h2 : op = 2
      · simp only [if_pos h2]; exact Ev.bind (Sum_ev s hs) Ev.const
      · simp only [if_neg h2]
        by_cases h5 : op = 5
        · simp only [if_pos h5]; exact Ev.bind (Word_ev s hs) Ev.const
        · simp only [if_neg h5]; exact Ev.const
  have hc : (decide (1 ≤ op ∧ op ≤ 23) && (decide (0 ≤ pcount op ∧ n = pcount op) || decide (pcount op < 0 ∧ 1 ≤ n))) = (decide (0 ≤ rcount op n) && decide (rcount op n = n)) := by
    rw [Bool.eq_iff_iff]
    simp only [Bool.and_eq_true, Bool.or_eq_true, decide_eq_true_eq]
    unfold pcount rcount
    repeat' split
    all_goals omega
  unfold tontineref17_node.f nodeOK
  rw [hc]
  refine Ev.bind (count_ev op n s) ?_
  by_cases h : rcount op n < 0
  · simp only [if_pos h]
    rw [decide_eq_false (show ¬ 0 ≤ rcount op n by omega), Bool.false_and, Bool.false_and]
    exact j1
  · simp only [if_neg h]
    rw [decide_eq_true (show 0 ≤ rcount op n by omega), Bool.true_and]
    refine Ev.bind (count_ev op n s) ?_
    by_cases h2 : rcount op n = n
    · rw [decide_eq_true h2, Bool.true_and]; simp only [show (rcount op n != n) = false from bne_eq_false_iff_eq.mpr h2]; exact j2
    · rw [decide_eq_false h2, Bool.false_and]; simp only [bne_iff_ne.mpr h2]; exact j1
end Go.Proofs.Ytpfnnamicbbobaa.PL
/- Plain law, part 7: whole formulas: clause.CheckFormula and the document's. -/
namespace Go.Proofs.Ytpfnnamicbbobaa.PL
set_option linter.unusedSimpArgs false
open Go.RowKit Go.Proofs.YtpfnnamicbbobaaW.PrintWords Go.Proofs.YtpfnnamicbbobaaW.PrintMore Go.Proofs.Ytpfnnamicbbobaa.HS Go.Proofs.Ytpfnnamicbbobaa.PAll
abbrev Nd := S56
/-- Texts are no longer than a memory bears. -/
def small (l : List Nd) : Prop := ∀ x ∈ l, x.f2.size ≤ 9223372036854775806
def mxs (b : Int) (l : List Int) : Int := l.foldl mx b
/-- How deep the formulas on the stack are; none: a node is wrong. -/
def wgo : List Nd → List Int → Option (List Int)
  | [], st => some st
  | x :: r, st => if nodeOK x.f0 x.f1 x.f2 = true ∧ x.f1 ≤ st.length then wgo r (st.take (st.length - x.f1.toNat) ++ [wrap64 (mxs 0 (st.drop (st.length - x.f1.toNat)) + 1)]) else none
def wres : Option (List Int) → Int × Bool
  | some [d] => (d, true)
  | _ => (0, false)
theorem nodeOK_n (op n : Int) (s : ByteArray) (h : nodeOK op n s = true) : 0 ≤ n := by
  unfold nodeOK at h
  simp only [Bool.and_eq_true, Bool.or_eq_true, decide_eq_true_eq] at h
  omega
theorem rd_drop (l : List Nd) (j : Nat) (h : j < l.length) : l.drop j = rd_T56 l (j : Int) :: l.drop (j + 1) := by
  rw [List.drop_eq_getElem_cons h]
  simp [rd_T56, List.getD_eq_getElem?_getD, h]
theorem rd_mem (l : List Nd) (j : Nat) (h : j < l.length) : rd_T56 l (j : Int) ∈ l := by
  have := List.mem_of_mem_drop (rd_drop l j h ▸ List.mem_cons_self)
  exact this
theorem rdi_drop (l : List Int) (j : Nat) (h : j < l.length) : l.drop j = rd l (j : Int) :: l.drop (j + 1) := by
  rw [List.drop_eq_getElem_cons h]
  simp [rd, List.getD_eq_getElem?_getD, h]
theorem succ64 (j n : Nat) (h : j < n) (hn : n ≤ 9223372036854775807) : wrap64 ((j : Int) + 1) = ((j + 1 : Nat) : Int) := by rw [w64 _ (by omega) (by omega)]; rfl
section
variable (l : List Nd) (hl : l.length ≤ 8796093022208)
theorem whole_l1 (st : List Int) (j : Nat) (x0 x1 : Int) (x2 : ByteArray) (V : Int × Bool) (h1 : 0 ≤ x1) (h2 : x1 ≤ st.length) (hst : st.length ≤ 8796093022208) (ys : List Int) (hys : ys.length ≤ 8796093022208) :
    ∀ (m i : Nat) (b : Int), ys.length - i = m → i ≤ ys.length → Ev (fun k => clause_whole.l0 k (st.take (st.length - x1.toNat) ++ [wrap64 (mxs b (ys.drop i) + 1)]) l (l.length : Int) (wrap64 ((j : Int) + 1))) V →
    Ev (fun k => clause_whole.l1 k st b l (l.length : Int) (j : Int) ys (ys.length : Int) (i : Int) x0 x1 x2) V := by
  intro m
  induction m with
  | zero =>
    intro i b hm hi h
    rw [List.drop_eq_nil_of_le (by omega)] at h
    refine Ev.step (fun k => by rw [clause_whole.l1]) ?_
    have hw : wrap64 ((st.length : Int) - x1) = ((st.length - x1.toNat : Nat) : Int) := by rw [w64 _ (by omega) (by omega)]; omega
    simp only [if_neg (show ¬ (i : Int) < (ys.length : Int) by omega), hw, if_pos (show (0 : Int) ≤ ((st.length - x1.toNat : Nat) : Int) by omega), if_pos (show ((st.length - x1.toNat : Nat) : Int) ≤ (st.length : Int) by omega), Int.toNat_natCast, Option.bind_some,
      if_pos (show (st.take (st.length - x1.toNat)).length < 17592186044416 by rw [List.length_take]; omega)]
    exact h
  | succ m ih =>
    intro i b hm hi h
    have hlt : i < ys.length := by omega
    rw [rdi_drop ys i hlt] at h
    have := ih (i + 1) (mx b (rd ys i)) (by omega) (by omega) h
    refine Ev.step (fun k => by rw [clause_whole.l1]) ?_
    simp only [if_pos (show (i : Int) < (ys.length : Int) by omega), if_pos (show (0 : Int) ≤ (i : Int) by omega), succ64 i _ hlt (by omega)]
    exact this
include hl in
theorem whole_l (hs : small l) : ∀ (m j : Nat) (st : List Int), l.length - j = m → j ≤ l.length → st.length ≤ j → Ev (fun k => clause_whole.l0 k st l (l.length : Int) (j : Int)) (wres (wgo (l.drop j) st)) := by
  intro m
  induction m with
  | zero =>
    intro j st hm hj hst
    rw [List.drop_eq_nil_of_le (by omega)]
    refine Ev.step (fun k => by rw [clause_whole.l0]) ?_
    simp only [if_neg (show ¬ (j : Int) < (l.length : Int) by omega)]
    match st with
    | [] => exact Ev.const
    | [d] => exact Ev.const
    | a :: b :: r =>
      simp only [if_neg (show ¬ (((a :: b :: r : List Int).length : Nat) : Int) = 1 by simp; omega)]
      exact Ev.const
  | succ m ih =>
    intro j st hm hj hst
    have hlt : j < l.length := by omega
    have hmem := rd_mem l j hlt
    rw [rd_drop l j hlt]
    refine Ev.step (fun k => by rw [clause_whole.l0]) ?_
    generalize hx : rd_T56 l (j : Int) = x at hmem ⊢
    simp only [if_pos (show (j : Int) < (l.length : Int) by omega), if_pos (show (0 : Int) ≤ (j : Int) by omega), hx]
    refine Ev.bind (node_ev x.f0 x.f1 x.f2 (hs x hmem)) ?_
    unfold wgo
    have no : Ev (fun k => clause_whole.j1 k st l (l.length : Int) (j : Int) true x.f0 x.f1 x.f2) (0, false) := by
      refine Ev.step (fun k => by rw [clause_whole.j1]) ?_
      exact Ev.const
    cases hn : nodeOK x.f0 x.f1 x.f2 with
    | false =>
      rw [if_neg (by simp)]
      exact no
    | true =>
      have h0 := nodeOK_n _ _ _ hn
      by_cases h1 : x.f1 ≤ st.length
      · rw [if_pos ⟨rfl, h1⟩, decide_eq_false (show ¬ x.f1 > (st.length : Int) by omega)]
        simp only [if_true]
        refine Ev.step (fun k => by rw [clause_whole.j1]) ?_
        have hw : wrap64 ((st.length : Int) - x.f1) = ((st.length - x.f1.toNat : Nat) : Int) := by rw [w64 _ (by omega) (by omega)]; omega
        simp only [Bool.false_eq_true, if_false, hw, if_pos (show (0 : Int) ≤ ((st.length - x.f1.toNat : Nat) : Int) by omega), if_pos (show ((st.length - x.f1.toNat : Nat) : Int) ≤ (st.length : Int) by omega), Int.toNat_natCast, Option.bind_some]
        refine whole_l1 l st j x.f0 x.f1 x.f2 _ h0 h1 (by omega) _ (by rw [List.length_drop]; omega) _ 0 0 rfl (by omega) ?_
        rw [List.drop_zero, succ64 j _ hlt (by omega)]
        exact ih (j + 1) _ (by omega) (by omega) (by rw [List.length_append, List.length_take, List.length_singleton]; omega)
      · rw [if_neg (fun q => h1 q.2), decide_eq_true (show x.f1 > (st.length : Int) by omega)]
        exact no
include hl in
theorem whole_ev (hs : small l) : Ev (fun k => clause_whole.f k l) (wres (wgo l [])) := by
  unfold clause_whole.f
  exact whole_l l hl hs l.length 0 [] (by omega) (by omega) (by simp)
def rres (n : Nat) : Option (List Int) → Bool × Int
  | some [d] => if (n : Int) > 1024 then (false, 0) else (true, d)
  | _ => (false, 0)
theorem right_l1 (st : List Int) (j : Nat) (x1 : Int) (V : Bool × Int) (hst : st.length ≤ 8796093022208) :
    ∀ (m i : Nat) (b : Int), st.length - i = m → i ≤ st.length → Ev (fun k => tontineref17_Right.l0 k l (st.take (st.length - x1.toNat) ++ [wrap64 (mxs b (st.drop i) + 1)]) (wrap64 ((j : Int) + 1))) V →
    Ev (fun k => tontineref17_Right.l1 k l st (j : Int) ((st.length - x1.toNat : Nat) : Int) b (i : Int)) V := by
  intro m
  induction m with
  | zero =>
    intro i b hm hi h
    rw [List.drop_eq_nil_of_le (by omega)] at h
    refine Ev.step (fun k => by rw [tontineref17_Right.l1]) ?_
    simp only [if_neg (show ¬ (i : Int) < (st.length : Int) by omega), if_pos (show (0 : Int) ≤ ((st.length - x1.toNat : Nat) : Int) by omega), if_pos (show ((st.length - x1.toNat : Nat) : Int) ≤ (st.length : Int) by omega), Int.toNat_natCast, Option.bind_some,
      if_pos (show (st.take (st.length - x1.toNat)).length < 17592186044416 by rw [List.length_take]; omega)]
    exact h
  | succ m ih =>
    intro i b hm hi h
    have hlt : i < st.length := by omega
    rw [rdi_drop st i hlt] at h
    have := ih (i + 1) (mx b (rd st i)) (by omega) (by omega) h
    refine Ev.step (fun k => by rw [tontineref17_Right.l1]) ?_
    simp only [if_pos (show (i : Int) < (st.length : Int) by omega), if_pos (show (0 : Int) ≤ (i : Int) by omega), succ64 i _ hlt (by omega)]
    exact this
include hl in
theorem right_l (hs : small l) : ∀ (m j : Nat) (st : List Int), l.length - j = m → j ≤ l.length → st.length ≤ j → Ev (fun k => tontineref17_Right.l0 k l st (j : Int)) (rres l.length (wgo (l.drop j) st)) := by
  intro m
  induction m with
  | zero =>
    intro j st hm hj hst
    rw [List.drop_eq_nil_of_le (by omega)]
    refine Ev.step (fun k => by rw [tontineref17_Right.l0]) ?_
    simp only [if_neg (show ¬ (j : Int) < (l.length : Int) by omega)]
    match st with
    | [] => exact Ev.const
    | [d] =>
      unfold rres wgo
      by_cases h : (l.length : Int) > 1024
      · simp only [h, if_true]; exact Ev.const
      · simp only [h, if_false]; exact Ev.const
    | a :: b :: r =>
      simp only [if_neg (show ¬ (((a :: b :: r : List Int).length : Nat) : Int) = 1 by simp; omega)]
      exact Ev.const
  | succ m ih =>
    intro j st hm hj hst
    have hlt : j < l.length := by omega
    have hmem := rd_mem l j hlt
    rw [rd_drop l j hlt]
    refine Ev.step (fun k => by rw [tontineref17_Right.l0]) ?_
    generalize hx : rd_T56 l (j : Int) = x at hmem ⊢
    simp only [if_pos (show (j : Int) < (l.length : Int) by omega), if_pos (show (0 : Int) ≤ (j : Int) by omega), hx]
    refine Ev.bind (rnode_ev x.f0 x.f1 x.f2 (hs x hmem)) ?_
    unfold wgo
    have no : Ev (fun k => tontineref17_Right.j1 k l st (j : Int) true) (false, 0) := by
      refine Ev.step (fun k => by rw [tontineref17_Right.j1]) ?_
      exact Ev.const
    cases hn : nodeOK x.f0 x.f1 x.f2 with
    | false =>
      rw [if_neg (by simp)]
      exact no
    | true =>
      have h0 := nodeOK_n _ _ _ hn
      by_cases h1 : x.f1 ≤ st.length
      · rw [if_pos ⟨rfl, h1⟩, decide_eq_false (show ¬ x.f1 > (st.length : Int) by omega)]
        simp only [if_true]
        refine Ev.step (fun k => by rw [tontineref17_Right.j1]) ?_
        have hw : wrap64 ((st.length : Int) - x.f1) = ((st.length - x.f1.toNat : Nat) : Int) := by rw [w64 _ (by omega) (by omega)]; omega
        simp only [Bool.false_eq_true, if_false, if_pos (show (0 : Int) ≤ (j : Int) by omega), if_pos (show (j : Int) < (l.length : Int) by omega), hx, hw]
        refine right_l1 l st j x.f1 _ (by omega) _ _ 0 rfl (by omega) ?_
        rw [succ64 j _ hlt (by omega)]
        exact ih (j + 1) _ (by omega) (by omega) (by rw [List.length_append, List.length_take, List.length_singleton]; omega)
      · rw [if_neg (fun q => h1 q.2), decide_eq_true (show x.f1 > (st.length : Int) by omega)]
        exact no
include hl in
theorem right_ev (hs : small l) : Ev (fun k => tontineref17_Right.f k l) (rres l.length (wgo l [])) := by
  unfold tontineref17_Right.f
  exact right_l l hl hs l.length 0 [] (by omega) (by omega) (by simp)
end
/-- What CheckFormula says. -/
def checkF (l : List Nd) : Int := if l.length > 1024 then 3 else if (wres (wgo l [])).2 = true then (if mx 0 (wres (wgo l [])).1 > 64 then 173 else 0) else 5
theorem check_ev (l : List Nd) (hs : small l) : Ev (fun k => clause_CheckFormula.f k l) (checkF l) := by
  unfold clause_CheckFormula.f clause_worst.f checkF
  by_cases h : l.length > 1024
  · rw [if_pos h, decide_eq_true (show (l.length : Int) > 1024 by omega)]
    exact Ev.const
  · rw [if_neg h, decide_eq_false (show ¬ (l.length : Int) > 1024 by omega)]
    simp only [Bool.false_eq_true, if_false]
    have hw := whole_ev l (by omega) hs
    refine Ev.bind (v := _) (h := fun _ t => some t) ?_ Ev.const
    refine Ev.step (fun k => by rw [clause_worst.l0]) ?_
    simp only [show ((([l] : List (List Nd)).length : Nat) : Int) = 1 from rfl, if_pos (show (0 : Int) < 1 by omega), if_pos (show (0 : Int) ≤ 0 by omega), show rd_L23 [l] 0 = l from rfl]
    refine Ev.bind hw ?_
    cases hb : (wres (wgo l [])).2 with
    | false => exact Ev.const
    | true =>
      simp only [if_true]
      refine Ev.step (fun k => by rw [clause_worst.l0]) ?_
      simp only [show wrap64 (0 + 1) = 1 by rw [w64 _ (by omega) (by omega)]; rfl, if_neg (show ¬ (1 : Int) < 1 by omega)]
      by_cases h2 : mx 0 (wres (wgo l [])).1 > 64
      · simp only [if_pos h2]; exact Ev.const
      · simp only [if_neg h2]; exact Ev.const
theorem rcheck_ev (l : List Nd) (hs : small l) : Ev (fun k => tontineref17_CheckFormula.f k l) (checkF l) := by
  unfold tontineref17_CheckFormula.f checkF
  by_cases h : l.length > 1024
  · simp only [if_pos h, if_pos (show (l.length : Int) > 1024 by omega)]
    exact Ev.const
  · rw [if_neg h]
    simp only [if_neg (show ¬ (l.length : Int) > 1024 by omega)]
    refine Ev.bind (right_ev l (by omega) hs) ?_
    unfold rres wres
    match wgo l [] with
    | none => exact Ev.const
    | some [] => exact Ev.const
    | some [d] =>
      simp only [if_neg (show ¬ (l.length : Int) > 1024 by omega), if_true]
      by_cases h2 : d > 64
      · simp only [if_pos h2]
        rw [if_pos (show mx 0 d > 64 by unfold mx; split <;> omega)]; exact Ev.const
      · simp only [if_neg h2]
        rw [if_neg (show ¬ mx 0 d > 64 by unfold mx; split <;> omega)]; exact Ev.const
    | some (a :: b :: r) => exact Ev.const
end Go.Proofs.Ytpfnnamicbbobaa.PL
/- Plain law, part 8: the chapter's two examples; copies; the same formulas. -/
namespace Go.Proofs.Ytpfnnamicbbobaa.PL
set_option linter.unusedSimpArgs false
open Go.RowKit Go.Proofs.YtpfnnamicbbobaaW.PrintWords Go.Proofs.YtpfnnamicbbobaaW.PrintMore Go.Proofs.Ytpfnnamicbbobaa.HS Go.Proofs.Ytpfnnamicbbobaa.PAll
theorem works_60 : tontinelaw18_works.f 60 = some true := by kernel_rfl
theorem works_ev : Ev (fun k => tontinelaw18_works.f k) true := Ev.of (tontinelaw18_works.mono) works_60
theorem checkF_len (l : List Nd) (h : checkF l = 0) : l.length ≤ 1024 := by
  unfold checkF at h
  split at h
  · cases h
  · omega
theorem same_l (l : List Nd) (hl : l.length ≤ 9223372036854775807) : ∀ (m j : Nat), l.length - j = m → j ≤ l.length → Ev (fun k => tontinelaw18_same.l0 k l l (l.length : Int) (j : Int)) true := by
  intro m
  induction m with
  | zero =>
    intro j hm hj
    refine Ev.step (fun k => by rw [tontinelaw18_same.l0]) ?_
    simp only [if_neg (show ¬ (j : Int) < (l.length : Int) by omega)]
    exact Ev.const
  | succ m ih =>
    intro j hm hj
    have hlt : j < l.length := by omega
    refine Ev.step (fun k => by rw [tontinelaw18_same.l0]) ?_
    simp only [if_pos (show (j : Int) < (l.length : Int) by omega), if_pos (show (0 : Int) ≤ (j : Int) by omega), beq_self_eq_true, Bool.not_true, Bool.or_false, Bool.false_eq_true, if_false, succ64 j _ hlt hl]
    exact ih (j + 1) (by omega) (by omega)
theorem same_ev (l : List Nd) (hl : l.length ≤ 9223372036854775807) : Ev (fun k => tontinelaw18_same.f k l l) true := by
  unfold tontinelaw18_same.f
  simp only [if_true]
  exact same_l l hl l.length 0 (by omega) (by omega)
theorem copied_eq (l : List Nd) (hl : l.length < 4398046511104) : tontinelaw18_copied.f l = some l := by
  unfold tontinelaw18_copied.f
  rw [Option.bind_some, if_pos (by simpa using hl)]; rfl
end Go.Proofs.Ytpfnnamicbbobaa.PL
/- Plain law, part 10: the type of a node: kind.node answers what the document's made does. -/
namespace Go.Proofs.Ytpfnnamicbbobaa.PL
set_option linter.unusedSimpArgs false
open Go.RowKit Go.Proofs.YtpfnnamicbbobaaW.PrintWords Go.Proofs.YtpfnnamicbbobaaW.PrintMore Go.Proofs.Ytpfnnamicbbobaa.HS Go.Proofs.Ytpfnnamicbbobaa.PAll Go.Proofs.Ytpfnnamicbbobaa.HD
theorem plain_eq (a : Int) : kind_plain.f a = some (calcB a) := by
  unfold kind_plain.f calcB
  by_cases h : a = 1
  · simp [h]
  · simp [h]
theorem when_eq (b : Bool) (t : Int) : kind_when.f b t = some (whenS b t) := by
  unfold kind_when.f whenS
  cases b <;> rfl
theorem product_eq (k : Nat) (a b : Int) : kind_product.f (k + 1) a b = some (mul2 a b) := by
  unfold kind_product.f mul2 whenS
  simp only [kind_product.j0, plain_eq, calcB, Option.bind_some]
  by_cases h1 : a = 1 <;> by_cases h2 : b = 1 <;> by_cases h3 : a = 2 <;> by_cases h4 : b = 2 <;> simp [h1, h2, h3, h4] <;> (try omega)
theorem quotient_eq (k : Nat) (a b : Int) : kind_quotient.f (k + 1) a b = some (div2 a b) := by
  unfold kind_quotient.f div2 whenS
  simp only [kind_quotient.j0, plain_eq, calcB, Option.bind_some]
  by_cases h1 : a = 1 <;> by_cases h2 : b = 1 <;> by_cases h3 : a = 2 <;> by_cases h4 : b = 2 <;> simp [h1, h2, h3, h4] <;> (try omega)
theorem alike_eq (a : Int) (r : List Int) : kind_alike.f (a :: r) = some (calcB a && !(r.any fun x => x != a)) := by
  unfold kind_alike.f Ytpfnnamicbbobaa.HC.odd calcB
  simp
theorem most_eq (a : Int) (r : List Int) : mostN a (a :: r) = whenS (calcB a && !(r.any fun x => x != a)) a := by
  unfold mostN whenS
  cases h : (r.any fun x => x != a) <;> simp [h, whenS]
theorem rd0 (a : Int) (r : List Int) : rd (a :: r) 0 = a := rfl
theorem rd1 (a b : Int) (r : List Int) : rd (a :: b :: r) 1 = b := rfl
theorem rd2 (a b c : Int) (r : List Int) : rd (a :: b :: c :: r) 2 = c := rfl
theorem pos1 (a : Int) (r : List Int) : (0 : Int) < (((a :: r : List Int).length : Nat) : Int) := by rw [List.length_cons]; omega
theorem pos2 (a b : Int) (r : List Int) : (1 : Int) < (((a :: b :: r : List Int).length : Nat) : Int) := by rw [List.length_cons, List.length_cons]; omega
theorem pos3 (a b c : Int) (r : List Int) : (2 : Int) < (((a :: b :: c :: r : List Int).length : Nat) : Int) := by rw [List.length_cons, List.length_cons, List.length_cons]; omega
theorem bne2 (a b : Int) : (!(b != a)) = (b == a) := by unfold bne; simp
theorem beq_sw (a b : Int) : (a == b) = (b == a) := by
  rw [Bool.eq_iff_iff, beq_iff_eq, beq_iff_eq]
  exact eq_comm
/-- The type of a node by those of its parts. -/
def madeS (a0 : Int) (l1 : List Int) : Option Int :=
  match l1 with
  | [] => if a0 = 1 then some (1) else if a0 = 2 then some (2) else if a0 = 3 then some (3) else if a0 = 4 then some (3) else none
  | [a] => if a0 = 6 then some (whenS (calcB a) a) else if a0 = 7 then some (whenS (a == 3) 3) else if a0 = 21 ∨ a0 = 22 then some (mostN a l1) else none
  | [a, b] => if a0 = 8 then some (mul2 a b) else if a0 = 9 then some (div2 a b) else if a0 = 10 then some (whenS (calcB a && b == a) a) else if a0 = 11 then some (whenS (calcB a && b == a) a) else if a0 = 12 then some (whenS (calcB a && b == a) 3) else if a0 = 13 then some (whenS (calcB a && b == a) 3) else if a0 = 14 then some (whenS (calcB a && b == a) 3) else if a0 = 15 then some (whenS (calcB a && b == a) 3) else if a0 = 16 then some (whenS (b == a) 3) else if a0 = 17 then some (whenS (b == a) 3) else if a0 = 18 then some (whenS (a == 3 && b == 3) 3) else if a0 = 19 then some (whenS (a == 3 && b == 3) 3) else if a0 = 23 then some (whenS (calcB a && b == a) a) else if a0 = 21 ∨ a0 = 22 then some (mostN a l1) else none
  | [a, b, d] => if a0 = 20 then some (whenS (a == 3 && d == b) b) else if a0 = 21 ∨ a0 = 22 then some (mostN a l1) else none
  | a :: _ :: _ :: _ :: _ => if a0 = 21 ∨ a0 = 22 then some (mostN a l1) else none
theorem node_is (op : Int) (l : List Int) (t : Int) (h : madeS op l = some t) : kind_node.f 6 op l = some t := by
  unfold madeS at h
  match l with
  | [] =>
    have hc : op = 1 ∨ op = 2 ∨ op = 3 ∨ op = 4 ∨ (op ≠ 1 ∧ op ≠ 2 ∧ op ≠ 3 ∧ op ≠ 4) := by omega
    rcases hc with rfl | rfl | rfl | rfl | hne
    all_goals first
      | (simp only [Int.reduceEq, ↓reduceIte, or_true, true_or, or_false, false_or, reduceCtorEq] at h; done)
      | (simp only [Int.reduceEq, ↓reduceIte, or_true, true_or, or_false, false_or] at h
         obtain rfl := Option.some.inj h
         simp [kind_node.f, kind_node.j0, kind_node.j1, kind_node.j2, kind_node.j3, when_eq, product_eq, quotient_eq, alike_eq, most_eq, rd0, rd1, rd2, pos1, pos2, pos3, bne2] <;> first | omega | (rw [beq_sw]; done) | (by_cases q : a = 3 <;> simp [q, beq_sw b d, whenS]) | (by_cases q : a = 3 <;> simp [q, whenS]))
      | (exfalso; revert h; simp [hne])
  | [a] =>
    have hc : op = 6 ∨ op = 7 ∨ op = 21 ∨ op = 22 ∨ (op ≠ 6 ∧ op ≠ 7 ∧ op ≠ 21 ∧ op ≠ 22) := by omega
    rcases hc with rfl | rfl | rfl | rfl | hne
    all_goals first
      | (simp only [Int.reduceEq, ↓reduceIte, or_true, true_or, or_false, false_or, reduceCtorEq] at h; done)
      | (simp only [Int.reduceEq, ↓reduceIte, or_true, true_or, or_false, false_or] at h
         obtain rfl := Option.some.inj h
         simp [kind_node.f, kind_node.j0, kind_node.j1, kind_node.j2, kind_node.j3, when_eq, product_eq, quotient_eq, alike_eq, most_eq, rd0, rd1, rd2, pos1, pos2, pos3, bne2] <;> first | omega | (rw [beq_sw]; done) | (by_cases q : a = 3 <;> simp [q, beq_sw b d, whenS]) | (by_cases q : a = 3 <;> simp [q, whenS]))
      | (exfalso; revert h; simp [hne])
  | [a, b] =>
    have hc : op = 8 ∨ op = 9 ∨ op = 10 ∨ op = 11 ∨ op = 12 ∨ op = 13 ∨ op = 14 ∨ op = 15 ∨ op = 16 ∨ op = 17 ∨ op = 18 ∨ op = 19 ∨ op = 21 ∨ op = 22 ∨ op = 23 ∨ (op ≠ 8 ∧ op ≠ 9 ∧ op ≠ 10 ∧ op ≠ 11 ∧ op ≠ 12 ∧ op ≠ 13 ∧ op ≠ 14 ∧ op ≠ 15 ∧ op ≠ 16 ∧ op ≠ 17 ∧ op ≠ 18 ∧ op ≠ 19 ∧ op ≠ 21 ∧ op ≠ 22 ∧ op ≠ 23) := by omega
    rcases hc with rfl | rfl | rfl | rfl | rfl | rfl | rfl | rfl | rfl | rfl | rfl | rfl | rfl | rfl | rfl | hne
    all_goals first
      | (simp only [Int.reduceEq, ↓reduceIte, or_true, true_or, or_false, false_or, reduceCtorEq] at h; done)
      | (simp only [Int.reduceEq, ↓reduceIte, or_true, true_or, or_false, false_or] at h
         obtain rfl := Option.some.inj h
         simp [kind_node.f, kind_node.j0, kind_node.j1, kind_node.j2, kind_node.j3, when_eq, product_eq, quotient_eq, alike_eq, most_eq, rd0, rd1, rd2, pos1, pos2, pos3, bne2] <;> first | omega | (rw [beq_sw]; done) | (by_cases q : a = 3 <;> simp [q, beq_sw b d, whenS]) | (by_cases q : a = 3 <;> simp [q, whenS]))
      | (exfalso; revert h; simp [hne])
  | [a, b, d] =>
    have hc : op = 20 ∨ op = 21 ∨ op = 22 ∨ (op ≠ 20 ∧ op ≠ 21 ∧ op ≠ 22) := by omega
    rcases hc with rfl | rfl | rfl | hne
    all_goals first
      | (simp only [Int.reduceEq, ↓reduceIte, or_true, true_or, or_false, false_or, reduceCtorEq] at h; done)
      | (simp only [Int.reduceEq, ↓reduceIte, or_true, true_or, or_false, false_or] at h
         obtain rfl := Option.some.inj h
         simp [kind_node.f, kind_node.j0, kind_node.j1, kind_node.j2, kind_node.j3, when_eq, product_eq, quotient_eq, alike_eq, most_eq, rd0, rd1, rd2, pos1, pos2, pos3, bne2] <;> first | omega | (rw [beq_sw]; done) | (by_cases q : a = 3 <;> simp [q, beq_sw b d, whenS]) | (by_cases q : a = 3 <;> simp [q, whenS]))
      | (exfalso; revert h; simp [hne])
  | a :: b :: d :: e :: r =>
    have hc : op = 21 ∨ op = 22 ∨ (op ≠ 21 ∧ op ≠ 22) := by omega
    rcases hc with rfl | rfl | hne
    all_goals first
      | (simp only [Int.reduceEq, ↓reduceIte, or_true, true_or, or_false, false_or, reduceCtorEq] at h; done)
      | (simp only [Int.reduceEq, ↓reduceIte, or_true, true_or, or_false, false_or] at h
         obtain rfl := Option.some.inj h
         simp [kind_node.f, kind_node.j0, kind_node.j1, kind_node.j2, kind_node.j3, when_eq, product_eq, quotient_eq, alike_eq, most_eq, rd0, rd1, rd2, pos1, pos2, pos3, bne2] <;> first | omega | (rw [beq_sw]; done) | (by_cases q : a = 3 <;> simp [q, beq_sw b d, whenS]) | (by_cases q : a = 3 <;> simp [q, whenS]))
      | (exfalso; revert h; simp [hne])
/-- The type of a right node, by those of its parts. -/
def typ (op : Int) (l : List Int) : Int := (madeS op l).getD 0
theorem made_some (op n : Int) (s : ByteArray) (l : List Int) (hn : nodeOK op n s = true) (h5 : op ≠ 5) (hl : (l.length : Int) = n) : madeS op l = some (typ op l) := by
  unfold nodeOK at hn
  simp only [Bool.and_eq_true, Bool.or_eq_true, decide_eq_true_eq] at hn
  obtain ⟨⟨⟨g1, g2⟩, g3⟩, -⟩ := hn
  suffices h : ∃ t, madeS op l = some t by
    obtain ⟨t, h⟩ := h
    unfold typ
    rw [h]; rfl
  have hc : op = 1 ∨ op = 2 ∨ op = 3 ∨ op = 4 ∨ op = 6 ∨ op = 7 ∨ op = 8 ∨ op = 9 ∨ op = 10 ∨ op = 11 ∨ op = 12 ∨ op = 13 ∨ op = 14 ∨ op = 15 ∨ op = 16 ∨ op = 17 ∨ op = 18 ∨ op = 19 ∨ op = 20 ∨ op = 21 ∨ op = 22 ∨ op = 23 := by omega
  match l with
  | [] => rcases hc with rfl | rfl | rfl | rfl | rfl | rfl | rfl | rfl | rfl | rfl | rfl | rfl | rfl | rfl | rfl | rfl | rfl | rfl | rfl | rfl | rfl | rfl <;> simp [pcount] at g3 hl <;> first | omega | exact ⟨_, rfl⟩
  | [a] => rcases hc with rfl | rfl | rfl | rfl | rfl | rfl | rfl | rfl | rfl | rfl | rfl | rfl | rfl | rfl | rfl | rfl | rfl | rfl | rfl | rfl | rfl | rfl <;> simp [pcount] at g3 hl <;> first | omega | exact ⟨_, rfl⟩
  | [a, b] => rcases hc with rfl | rfl | rfl | rfl | rfl | rfl | rfl | rfl | rfl | rfl | rfl | rfl | rfl | rfl | rfl | rfl | rfl | rfl | rfl | rfl | rfl | rfl <;> simp [pcount] at g3 hl <;> first | omega | exact ⟨_, rfl⟩
  | [a, b, c] => rcases hc with rfl | rfl | rfl | rfl | rfl | rfl | rfl | rfl | rfl | rfl | rfl | rfl | rfl | rfl | rfl | rfl | rfl | rfl | rfl | rfl | rfl | rfl <;> simp [pcount] at g3 hl <;> first | omega | exact ⟨_, rfl⟩
  | a :: b :: c :: d :: r => rcases hc with rfl | rfl | rfl | rfl | rfl | rfl | rfl | rfl | rfl | rfl | rfl | rfl | rfl | rfl | rfl | rfl | rfl | rfl | rfl | rfl | rfl | rfl <;> simp [pcount] at g3 hl <;> first | omega | exact ⟨_, rfl⟩
theorem node_typ (op n : Int) (s : ByteArray) (l : List Int) (hn : nodeOK op n s = true) (h5 : op ≠ 5) (hl : (l.length : Int) = n) : Ev (fun k => kind_node.f k op l) (typ op l) :=
  Ev.of (kind_node.mono op l) (node_is op l _ (made_some op n s l hn h5 hl))
theorem made_eq (k : Nat) (op : Int) (l : List Int) : tontineref18_made.f k op l = madeS op l := by
  unfold tontineref18_made.f madeS
  rfl
theorem made_typ (op n : Int) (s : ByteArray) (l : List Int) (hn : nodeOK op n s = true) (h5 : op ≠ 5) (hl : (l.length : Int) = n) : Ev (fun k => tontineref18_made.f k op l) (typ op l) :=
  ⟨0, fun k _ => (made_eq k op l).trans (made_some op n s l hn h5 hl)⟩
end Go.Proofs.Ytpfnnamicbbobaa.PL
/- Plain law, part 11: words that are handed in, and what they stand for: known and looked, the map and find. -/
namespace Go.Proofs.Ytpfnnamicbbobaa.PL
set_option linter.unusedSimpArgs false
open Go.RowKit Go.Proofs.YtpfnnamicbbobaaW.PrintWords Go.Proofs.YtpfnnamicbbobaaW.PrintMore Go.Proofs.Ytpfnnamicbbobaa.HS Go.Proofs.Ytpfnnamicbbobaa.PAll Go.Proofs.Ytpfnnamicbbobaa.HM
abbrev Wd := S59
def smallW (l : List Wd) : Prop := ∀ x ∈ l, x.f0.size ≤ 9223372036854775806
theorem bytes_ext (a b : ByteArray) : a.toList = b.toList ↔ a = b := by
  rw [toList_data, toList_data]
  constructor
  · intro h
    exact ByteArray.ext (Array.toList_inj.mp h)
  · intro h; rw [h]
theorem rdw_drop (l : List Wd) (j : Nat) (h : j < l.length) : l.drop j = rd_T59 l (j : Int) :: l.drop (j + 1) := by
  rw [List.drop_eq_getElem_cons h]
  simp [rd_T59, List.getD_eq_getElem?_getD, h]
theorem rdw_take (l : List Wd) (j : Nat) (h : j < l.length) : l.take (j + 1) = l.take j ++ [rd_T59 l (j : Int)] := by
  rw [List.take_succ_eq_append_getElem h]
  simp [rd_T59, List.getD_eq_getElem?_getD, h]
theorem rdw_mem (l : List Wd) (j : Nat) (h : j < l.length) : rd_T59 l (j : Int) ∈ l :=
  List.mem_of_mem_drop (rdw_drop l j h ▸ List.mem_cons_self)
def wordOKt (x : Wd) : Bool := named x.f0.data.toList && (decide (1 ≤ x.f1) && decide (x.f1 ≤ 3))
def wordsOK (ws : List Wd) : Bool := ws.all wordOKt
def mfold (m : List (ByteArray × Int)) (ws : List Wd) : List (ByteArray × Int) := ws.foldl (fun m x => mput m x.f0 x.f1) m
/-- What a name stands for: the last one counts; 0: nothing. -/
def fnd (ws : List Wd) (s : ByteArray) : Int := ws.foldl (fun a x => if s = x.f0 then x.f1 else a) 0
theorem mget_fold (s : ByteArray) : ∀ (ws : List Wd) (m : List (ByteArray × Int)), (mget (mfold m ws) s).getD 0 = ws.foldl (fun a x => if s = x.f0 then x.f1 else a) ((mget m s).getD 0)
  | [], m => rfl
  | x :: r, m => by
    have := mget_fold s r (mput m x.f0 x.f1)
    rw [mget_put] at this
    unfold mfold at this ⊢
    rw [List.foldl_cons, List.foldl_cons, this]
    by_cases h : s = x.f0 <;> simp [h]
theorem mgetD_fold (ws : List Wd) (b : Nat) : (fun s => mgetD ⟨b, mfold [] ws⟩ s) = fnd ws := by
  funext s
  show (mget (mfold [] ws) s).getD 0 = _
  rw [mget_fold]; rfl
theorem fnd_take (ws : List Wd) (j : Nat) (h : j < ws.length) (s : ByteArray) : fnd (ws.take (j + 1)) s = if s = (rd_T59 ws (j : Int)).f0 then (rd_T59 ws (j : Int)).f1 else fnd (ws.take j) s := by
  rw [rdw_take ws j h]
  unfold fnd
  rw [List.foldl_append]; rfl
theorem find_l (ws : List Wd) (hw : ws.length ≤ 9223372036854775807) (s : ByteArray) : ∀ j, j ≤ ws.length → Ev (fun k => tontineref18_find.l0 k ws s ((j : Int) - 1)) (fnd (ws.take j) s)
  | 0, _ => by
    refine Ev.step (fun k => by rw [tontineref18_find.l0]) ?_
    simp only [if_neg (show ¬ ((0 : Nat) : Int) - 1 ≥ 0 by omega)]
    exact Ev.const
  | j + 1, h => by
    refine Ev.step (fun k => by rw [tontineref18_find.l0]) ?_
    have e : ((j + 1 : Nat) : Int) - 1 = (j : Int) := by omega
    have ih := find_l ws hw s j (by omega)
    simp only [e, if_pos (show (j : Int) ≥ 0 by omega), if_pos (show (0 : Int) ≤ (j : Int) by omega), if_pos (show (j : Int) < (ws.length : Int) by omega), bytes_ext]
    rw [fnd_take ws j (by omega)]
    by_cases hq : s = (rd_T59 ws (j : Int)).f0
    · simp only [if_pos hq, if_pos hq.symm]; exact Ev.const
    · simp only [if_neg hq, if_neg (fun q => hq (Eq.symm q)), w64 ((j : Int) - 1) (by omega) (by omega)]; exact ih
theorem find_ev (ws : List Wd) (hw : ws.length ≤ 9223372036854775807) (s : ByteArray) : Ev (fun k => tontineref18_find.f k ws s) (fnd ws s) := by
  unfold tontineref18_find.f
  have := find_l ws hw s ws.length (by omega)
  rw [List.take_length] at this
  rw [w64 _ (by omega) (by omega)]
  exact this
theorem go_ev : ∀ (ws : List Wd) (m : List (ByteArray × Int)), smallW ws → Ev (fun k => kind_known.go k ws m) (if wordsOK ws = true then some (mfold m ws) else none)
  | [], m, _ => Ev.const
  | x :: r, m, hs => by
    have ih := go_ev r (mput m x.f0 x.f1) (fun y hy => hs y (List.mem_cons_of_mem _ hy))
    refine Ev.congr (e := fun k => (kind_isName.f k x.f0).bind fun b => if b = true ∧ 1 ≤ x.f1 ∧ x.f1 ≤ 3 then kind_known.go k r (mput m x.f0 x.f1) else some none) (fun k => rfl) ?_
    refine Ev.bind (isName_ev x.f0 (by have := hs x List.mem_cons_self; omega)) ?_
    have e : wordsOK (x :: r) = (wordOKt x && wordsOK r) := rfl
    by_cases hc : named x.f0.data.toList = true ∧ 1 ≤ x.f1 ∧ x.f1 ≤ 3
    · simp only [if_pos hc]
      have : wordOKt x = true := by unfold wordOKt; simp [hc.1, hc.2.1, hc.2.2]
      rw [e, this, Bool.true_and]
      exact ih
    · simp only [if_neg hc]
      have : wordOKt x = false := by
        rw [Bool.eq_false_iff]
        intro q
        unfold wordOKt at q
        simp only [Bool.and_eq_true, decide_eq_true_eq] at q
        exact hc ⟨q.1, q.2.1, q.2.2⟩
      rw [e, this, Bool.false_and]
      exact Ev.const
/-- What is wrong with a formula and words. -/
def lookS (l : List Nd) (ws : List Wd) : Int := if checkF l = 0 then (if ws.length > 4096 then 3 else if wordsOK ws = true then 0 else 5) else checkF l
theorem known_ev (l : List Nd) (ws : List Wd) (hs : small l) (hw : smallW ws) : Ev (fun k => kind_known.f k l ws) (lookS l ws, if lookS l ws = 0 then mfold [] ws else []) := by
  unfold kind_known.f lookS
  refine Ev.bind (check_ev l hs) ?_
  by_cases h : checkF l = 0
  · simp only [if_pos h]
    by_cases h2 : ws.length > 4096
    · simp only [if_pos h2]; exact Ev.const
    · simp only [if_neg h2]
      refine Ev.bind (go_ev ws [] hw) ?_
      cases hq : wordsOK ws with
      | true => exact Ev.const
      | false => exact Ev.const
  · simp only [if_neg h]
    exact Ev.const
theorem looked_l (l : List Wd) (hl : l.length ≤ 9223372036854775807) (hs : smallW l) : ∀ (m j : Nat), l.length - j = m → j ≤ l.length → Ev (fun k => tontineref18_looked.l0 k l (j : Int)) (if wordsOK (l.drop j) = true then 0 else 5) := by
  intro m
  induction m with
  | zero =>
    intro j hm hj
    rw [List.drop_eq_nil_of_le (by omega)]
    refine Ev.step (fun k => by rw [tontineref18_looked.l0]) ?_
    simp only [if_neg (show ¬ (j : Int) < (l.length : Int) by omega)]
    exact Ev.const
  | succ m ih =>
    intro j hm hj
    have hlt : j < l.length := by omega
    have hmem := rdw_mem l j hlt
    have ih := ih (j + 1) (by omega) (by omega)
    rw [rdw_drop l j hlt]
    refine Ev.step (fun k => by rw [tontineref18_looked.l0]) ?_
    generalize hx : rd_T59 l (j : Int) = x at hmem ⊢
    simp only [if_pos (show (j : Int) < (l.length : Int) by omega), if_pos (show (0 : Int) ≤ (j : Int) by omega), hx, succ64 j _ hlt hl]
    refine Ev.bind (Name_ev x.f0 (by have := hs x hmem; omega)) ?_
    have e : wordsOK (x :: l.drop (j + 1)) = (wordOKt x && wordsOK (l.drop (j + 1))) := rfl
    rw [e]
    unfold wordOKt
    cases hn : named x.f0.data.toList with
    | false => exact Ev.const
    | true =>
      by_cases h1 : x.f1 < 1
      · simp only [if_pos h1, if_true]
        rw [decide_eq_false (show ¬ 1 ≤ x.f1 by omega)]; exact Ev.const
      · by_cases h3 : x.f1 > 3
        · simp only [if_neg h1, if_pos h3, if_true]
          rw [decide_eq_true (show 1 ≤ x.f1 by omega), decide_eq_false (show ¬ x.f1 ≤ 3 by omega)]; exact Ev.const
        · simp only [if_neg h1, if_neg h3, if_true]
          rw [decide_eq_true (show 1 ≤ x.f1 by omega), decide_eq_true (show x.f1 ≤ 3 by omega)]
          exact ih
theorem looked_ev (l : List Nd) (ws : List Wd) (hs : small l) (hw : smallW ws) : Ev (fun k => tontineref18_looked.f k l ws) (lookS l ws) := by
  unfold tontineref18_looked.f lookS
  refine Ev.bind (rcheck_ev l hs) ?_
  by_cases h : checkF l = 0
  · simp only [if_pos h]
    by_cases h2 : ws.length > 4096
    · simp only [if_pos h2, if_pos (show (ws.length : Int) > 4096 by omega)]; exact Ev.const
    · simp only [if_neg h2, if_neg (show ¬ (ws.length : Int) > 4096 by omega)]
      have := looked_l ws (by omega) hw ws.length 0 (by omega) (by omega)
      exact this
  · simp only [if_neg h]
    exact Ev.const
end Go.Proofs.Ytpfnnamicbbobaa.PL
/- Plain law, part 12: the types of a right formula's nodes: each and typed; Each and Of of both. -/
namespace Go.Proofs.Ytpfnnamicbbobaa.PL
set_option linter.unusedSimpArgs false
open Go.RowKit Go.Proofs.YtpfnnamicbbobaaW.PrintWords Go.Proofs.YtpfnnamicbbobaaW.PrintMore Go.Proofs.Ytpfnnamicbbobaa.HS Go.Proofs.Ytpfnnamicbbobaa.PAll Go.Proofs.Ytpfnnamicbbobaa.HM
/-- A node's type, where names stand for g and the types st are on the stack. -/
def nty (g : ByteArray → Int) (st : List Int) (x : Nd) : Int := if x.f0 = 5 then g x.f2 else typ x.f0 (st.drop (st.length - x.f1.toNat))
def push (st : List Int) (x : Nd) (t : Int) : List Int := st.take (st.length - x.f1.toNat) ++ [t]
/-- The types of all nodes; the place and the error, if one is wrong. -/
def tgo (g : ByteArray → Int) : List Nd → Int → List Int → List Int → List Int × Int × Int
  | [], _, all, _ => (all, 0, 0)
  | x :: r, i, all, st => if nty g st x = 0 then ([], i, if x.f0 = 5 then 181 else 180) else tgo g r (i + 1) (all ++ [nty g st x]) (push st x (nty g st x))
theorem wgo_cons {x : Nd} {r : List Nd} {sd d : List Int} (h : wgo (x :: r) sd = some d) : nodeOK x.f0 x.f1 x.f2 = true ∧ 0 ≤ x.f1 ∧ x.f1 ≤ sd.length ∧ ∃ y, wgo r (sd.take (sd.length - x.f1.toNat) ++ [y]) = some d := by
  unfold wgo at h
  split at h
  · rename_i hc
    exact ⟨hc.1, nodeOK_n _ _ _ hc.1, hc.2, _, h⟩
  · cases h
theorem push_len (st : List Int) (x : Nd) (t : Int) : (push st x t).length = st.length - x.f1.toNat + 1 := by
  unfold push
  rw [List.length_append, List.length_take, List.length_singleton]; omega
section
variable (l : List Nd) (hl : l.length ≤ 1024)
include hl
theorem each_l (M : MapV) : ∀ (m j : Nat) (sd st all d : List Int), l.length - j = m → j ≤ l.length → wgo (l.drop j) sd = some d → sd.length = st.length → st.length ≤ j → all.length ≤ j →
    Ev (fun k => kind_each.l0 k M all st l (l.length : Int) (j : Int)) (tgo (fun s => mgetD M s) (l.drop j) j all st) := by
  intro m
  induction m with
  | zero =>
    intro j sd st all d hm hj hw hsd hst hall
    rw [List.drop_eq_nil_of_le (by omega)]
    refine Ev.step (fun k => by rw [kind_each.l0]) ?_
    simp only [if_neg (show ¬ (j : Int) < (l.length : Int) by omega)]
    exact Ev.const
  | succ m ih =>
    intro j sd st all d hm hj hw hsd hst hall
    have hlt : j < l.length := by omega
    rw [rd_drop l j hlt] at hw ⊢
    refine Ev.step (fun k => by rw [kind_each.l0]) ?_
    generalize hx : rd_T56 l (j : Int) = x at hw ⊢
    obtain ⟨hn, h0, h1, y, hw⟩ := wgo_cons hw
    have ew : wrap64 ((st.length : Int) - x.f1) = ((st.length - x.f1.toNat : Nat) : Int) := by rw [w64 _ (by omega) (by omega)]; omega
    simp only [if_pos (show (j : Int) < (l.length : Int) by omega), if_pos (show (0 : Int) ≤ (j : Int) by omega), hx, ew, if_pos (show (0 : Int) ≤ ((st.length - x.f1.toNat : Nat) : Int) by omega),
      if_pos (show ((st.length - x.f1.toNat : Nat) : Int) ≤ (st.length : Int) by omega), Int.toNat_natCast, Option.bind_some]
    unfold tgo
    have go : ∀ t : Int, nty (fun s => mgetD M s) st x = t → Ev (fun k => if (st.take (st.length - x.f1.toNat)).length < 17592186044416 then (if all.length < 17592186044416 then kind_each.l0 k M (all ++ [t]) (st.take (st.length - x.f1.toNat) ++ [t]) l (l.length : Int) (wrap64 ((j : Int) + 1)) else none) else none) (tgo (fun s => mgetD M s) (l.drop (j + 1)) ((j : Int) + 1) (all ++ [nty (fun s => mgetD M s) st x]) (push st x (nty (fun s => mgetD M s) st x))) := by
      intro t ht
      rw [ht]
      simp only [if_pos (show (st.take (st.length - x.f1.toNat)).length < 17592186044416 by rw [List.length_take]; omega), if_pos (show all.length < 17592186044416 by omega), succ64 j _ hlt (by omega)]
      refine ih (j + 1) _ (push st x t) (all ++ [t]) d (by omega) (by omega) hw ?_ ?_ ?_
      · rw [push_len, List.length_append, List.length_take, List.length_singleton]; omega
      · rw [push_len]; omega
      · rw [List.length_append, List.length_singleton]; omega
    by_cases h5 : x.f0 = 5
    · have e : nty (fun s => mgetD M s) st x = mgetD M x.f2 := if_pos h5
      simp only [if_pos h5]
      by_cases hz : mgetD M x.f2 = 0
      · rw [if_pos (e.trans hz)]
        simp only [if_pos hz]; exact Ev.const
      · rw [if_neg (fun q => hz (e.symm.trans q))]
        simp only [if_neg hz]
        exact go _ e
    · have e : nty (fun s => mgetD M s) st x = typ x.f0 (st.drop (st.length - x.f1.toNat)) := if_neg h5
      simp only [if_neg h5]
      refine Ev.bind (node_typ x.f0 x.f1 x.f2 _ hn h5 (by rw [List.length_drop]; omega)) ?_
      by_cases hz : typ x.f0 (st.drop (st.length - x.f1.toNat)) = 0
      · rw [if_pos (e.trans hz)]
        simp only [if_pos hz]; exact Ev.const
      · rw [if_neg (fun q => hz (e.symm.trans q))]
        simp only [if_neg hz]
        exact go _ e
end
theorem rparts_is (op n : Int) (s : ByteArray) (hn : nodeOK op n s = true) : tontineref18_parts.f 3 op n s = some n := by
  unfold nodeOK at hn
  simp only [Bool.and_eq_true, Bool.or_eq_true, decide_eq_true_eq] at hn
  obtain ⟨⟨⟨g1, g2⟩, g3⟩, -⟩ := hn
  have hc : op = 1 ∨ op = 2 ∨ op = 3 ∨ op = 4 ∨ op = 5 ∨ op = 6 ∨ op = 7 ∨ op = 8 ∨ op = 9 ∨ op = 10 ∨ op = 11 ∨ op = 12 ∨ op = 13 ∨ op = 14 ∨ op = 15 ∨ op = 16 ∨ op = 17 ∨ op = 18 ∨ op = 19 ∨ op = 20 ∨ op = 21 ∨ op = 22 ∨ op = 23 := by omega
  rcases hc with rfl | rfl | rfl | rfl | rfl | rfl | rfl | rfl | rfl | rfl | rfl | rfl | rfl | rfl | rfl | rfl | rfl | rfl | rfl | rfl | rfl | rfl | rfl <;> simp [pcount] at g3 <;> simp [tontineref18_parts.f, tontineref18_parts.j0, tontineref18_parts.j1] <;> omega
theorem rparts_ev (op n : Int) (s : ByteArray) (hn : nodeOK op n s = true) : Ev (fun k => tontineref18_parts.f k op n s) n := Ev.of (tontineref18_parts.mono op n s) (rparts_is op n s hn)
section
variable (l : List Nd) (hl : l.length ≤ 1024) (ws : List Wd) (hw0 : ws.length ≤ 4096)
include hl hw0
theorem typed_l : ∀ (m j : Nat) (sd st all d : List Int), l.length - j = m → j ≤ l.length → wgo (l.drop j) sd = some d → sd.length = st.length → st.length ≤ j → all.length ≤ j →
    Ev (fun k => tontineref18_typed.l0 k l ws all st (j : Int)) (tgo (fnd ws) (l.drop j) j all st) := by
  intro m
  induction m with
  | zero =>
    intro j sd st all d hm hj hw hsd hst hall
    rw [List.drop_eq_nil_of_le (by omega)]
    refine Ev.step (fun k => by rw [tontineref18_typed.l0]) ?_
    simp only [if_neg (show ¬ (j : Int) < (l.length : Int) by omega)]
    exact Ev.const
  | succ m ih =>
    intro j sd st all d hm hj hw hsd hst hall
    have hlt : j < l.length := by omega
    rw [rd_drop l j hlt] at hw ⊢
    refine Ev.step (fun k => by rw [tontineref18_typed.l0]) ?_
    generalize hx : rd_T56 l (j : Int) = x at hw ⊢
    obtain ⟨hn, h0, h1, y, hw⟩ := wgo_cons hw
    have ew : wrap64 ((st.length : Int) - x.f1) = ((st.length - x.f1.toNat : Nat) : Int) := by rw [w64 _ (by omega) (by omega)]; omega
    simp only [if_pos (show (j : Int) < (l.length : Int) by omega), if_pos (show (0 : Int) ≤ (j : Int) by omega), hx]
    refine Ev.bind (rparts_ev x.f0 x.f1 x.f2 hn) ?_
    simp only [ew, if_pos (show (0 : Int) ≤ ((st.length - x.f1.toNat : Nat) : Int) by omega),
      if_pos (show ((st.length - x.f1.toNat : Nat) : Int) ≤ (st.length : Int) by omega), Int.toNat_natCast, Option.bind_some, List.nil_append, List.length_nil]
    unfold tgo
    have go : ∀ t : Int, nty (fnd ws) st x = t → Ev (fun k => if 0 + (st.take (st.length - x.f1.toNat)).length < 17592186044416 then (if (st.take (st.length - x.f1.toNat)).length < 17592186044416 then (if all.length < 17592186044416 then tontineref18_typed.l0 k l ws (all ++ [t]) (st.take (st.length - x.f1.toNat) ++ [t]) (wrap64 ((j : Int) + 1)) else none) else none) else none) (tgo (fnd ws) (l.drop (j + 1)) ((j : Int) + 1) (all ++ [nty (fnd ws) st x]) (push st x (nty (fnd ws) st x))) := by
      intro t ht
      rw [ht]
      have hlen : (st.take (st.length - x.f1.toNat)).length < 17592186044416 := by rw [List.length_take]; omega
      simp only [Nat.zero_add, if_pos hlen, if_pos (show all.length < 17592186044416 by omega), succ64 j _ hlt (by omega)]
      refine ih (j + 1) _ (push st x t) (all ++ [t]) d (by omega) (by omega) hw ?_ ?_ ?_
      · rw [push_len, List.length_append, List.length_take, List.length_singleton]; omega
      · rw [push_len]; omega
      · rw [List.length_append, List.length_singleton]; omega
    by_cases h5 : x.f0 = 5
    · have e : nty (fnd ws) st x = fnd ws x.f2 := if_pos h5
      simp only [if_pos h5]
      refine Ev.bind (find_ev ws (by omega) x.f2) ?_
      by_cases hz : fnd ws x.f2 = 0
      · rw [if_pos (e.trans hz)]
        simp only [if_pos hz]; exact Ev.const
      · rw [if_neg (fun q => hz (e.symm.trans q))]
        simp only [if_neg hz]
        exact go _ e
    · have e : nty (fnd ws) st x = typ x.f0 (st.drop (st.length - x.f1.toNat)) := if_neg h5
      simp only [if_neg h5]
      refine Ev.bind (made_typ x.f0 x.f1 x.f2 _ hn h5 (by rw [List.length_drop]; omega)) ?_
      by_cases hz : typ x.f0 (st.drop (st.length - x.f1.toNat)) = 0
      · rw [if_pos (e.trans hz)]
        simp only [if_pos hz]; exact Ev.const
      · rw [if_neg (fun q => hz (e.symm.trans q))]
        simp only [if_neg hz]
        exact go _ e
end
theorem checkF_ok (l : List Nd) (h : checkF l = 0) : l.length ≤ 1024 ∧ ∃ d, wgo l [] = some [d] ∧ mx 0 d ≤ 64 := by
  refine ⟨checkF_len l h, ?_⟩
  unfold checkF at h
  split at h
  · cases h
  · split at h
    · rename_i hq
      split at h
      · cases h
      · rename_i hd
        unfold wres at hq hd
        split at hq
        · rename_i d he
          rw [he] at hd
          exact ⟨d, he, by simpa using hd⟩
        · cases hq
    · cases h
theorem lookS_ok (l : List Nd) (ws : List Wd) (h : lookS l ws = 0) : checkF l = 0 ∧ ws.length ≤ 4096 ∧ wordsOK ws = true := by
  unfold lookS at h
  split at h
  · rename_i h1
    split at h
    · cases h
    · split at h
      · rename_i h2 h3; exact ⟨h1, by omega, h3⟩
      · cases h
  · rename_i h1; exact absurd h h1
/-- What Each answers. -/
def eachS (l : List Nd) (ws : List Wd) : List Int × Int × Int := if lookS l ws = 0 then tgo (fnd ws) l 0 [] [] else ([], 0, lookS l ws)
theorem each_ev (l : List Nd) (ws : List Wd) (hs : small l) (hw : smallW ws) : Ev (fun k => kind_Each.f k l ws) (eachS l ws) := by
  unfold kind_Each.f eachS
  refine Ev.bind (known_ev l ws hs hw) ?_
  by_cases h : lookS l ws = 0
  · simp only [if_pos h]
    obtain ⟨hc, -, -⟩ := lookS_ok l ws h
    obtain ⟨h1, d, hd, -⟩ := checkF_ok l hc
    unfold kind_each.f
    have := each_l l h1 ⟨0, mfold [] ws⟩ l.length 0 [] [] [] [d] (by omega) (by omega) hd rfl (by simp) (by simp)
    rw [mgetD_fold] at this
    exact this
  · simp only [if_neg h]; exact Ev.const
theorem reach_ev (l : List Nd) (ws : List Wd) (hs : small l) (hw : smallW ws) : Ev (fun k => tontineref18_Each.f k l ws) (eachS l ws) := by
  unfold tontineref18_Each.f eachS
  refine Ev.bind (looked_ev l ws hs hw) ?_
  by_cases h : lookS l ws = 0
  · simp only [if_pos h]
    obtain ⟨hc, hw4, -⟩ := lookS_ok l ws h
    obtain ⟨h1, d, hd, -⟩ := checkF_ok l hc
    unfold tontineref18_typed.f
    exact Ev.bind (typed_l l h1 ws hw4 l.length 0 [] [] [] [d] (by omega) (by omega) hd rfl (by simp) (by simp)) Ev.const
  · simp only [if_neg h]; exact Ev.const
theorem tgo_ok (g : ByteArray → Int) : ∀ (l : List Nd) (i : Int) (all st : List Int), (tgo g l i all st).2.2 = 0 → (tgo g l i all st).2.1 = 0 ∧ (tgo g l i all st).1.length = all.length + l.length
  | [], i, all, st, _ => ⟨rfl, by simp [tgo]⟩
  | x :: r, i, all, st, h => by
    unfold tgo at h ⊢
    by_cases hz : nty g st x = 0
    · rw [if_pos hz] at h
      exfalso
      by_cases h5 : x.f0 = 5 <;> simp [h5] at h
    · rw [if_neg hz] at h ⊢
      obtain ⟨a, b⟩ := tgo_ok g r _ _ _ h
      exact ⟨a, by rw [b, List.length_append, List.length_singleton, List.length_cons]; omega⟩
theorem tgo_bad (g : ByteArray → Int) : ∀ (l : List Nd) (i : Int) (all st : List Int), (tgo g l i all st).2.2 ≠ 0 → (tgo g l i all st).1 = []
  | [], i, all, st, h => absurd rfl h
  | x :: r, i, all, st, h => by
    unfold tgo at h ⊢
    by_cases hz : nty g st x = 0
    · rw [if_pos hz]
    · rw [if_neg hz] at h ⊢
      exact tgo_bad g r _ _ _ h
theorem eachS_ok (l : List Nd) (ws : List Wd) (h : (eachS l ws).2.2 = 0) : lookS l ws = 0 ∧ eachS l ws = tgo (fnd ws) l 0 [] [] ∧ (eachS l ws).2.1 = 0 ∧ (eachS l ws).1.length = l.length ∧ 0 < l.length ∧ l.length ≤ 1024 := by
  have hk : lookS l ws = 0 := by
    by_cases hk : lookS l ws = 0
    · exact hk
    · unfold eachS at h
      rw [if_neg hk] at h
      exact h
  have e : eachS l ws = tgo (fnd ws) l 0 [] [] := if_pos hk
  obtain ⟨hc, -, -⟩ := lookS_ok l ws hk
  obtain ⟨h1, d, hd, -⟩ := checkF_ok l hc
  rw [e] at h ⊢
  obtain ⟨a, b⟩ := tgo_ok _ _ _ _ _ h
  refine ⟨hk, rfl, a, by simpa using b, ?_, h1⟩
  cases l with
  | nil => unfold wgo at hd; cases hd
  | cons x r => simp
theorem eachS_bad (l : List Nd) (ws : List Wd) (h : (eachS l ws).2.2 ≠ 0) : (eachS l ws).1 = [] := by
  unfold eachS at h ⊢
  split at h
  · rename_i hq; rw [if_pos hq]; exact tgo_bad _ _ _ _ _ h
  · rename_i hq; rw [if_neg hq]
/-- What Of answers. -/
def ofS (l : List Nd) (ws : List Wd) : Int × Int × Int := if (eachS l ws).2.2 = 0 then (rd (eachS l ws).1 ((l.length : Int) - 1), 0, 0) else (0, (eachS l ws).2.1, (eachS l ws).2.2)
theorem of_ev (l : List Nd) (ws : List Wd) (hs : small l) (hw : smallW ws) : Ev (fun k => kind_Of.f k l ws) (ofS l ws) := by
  unfold kind_Of.f ofS
  refine Ev.bind (each_ev l ws hs hw) ?_
  by_cases h : (eachS l ws).2.2 = 0
  · obtain ⟨-, -, h1, h2, h3, h4⟩ := eachS_ok l ws h
    simp only [if_pos h, h, h1, h2, beq_self_eq_true, Bool.not_true, Bool.or_false, Bool.false_eq_true, if_false]
    rw [w64 _ (by omega) (by omega)]
    simp only [if_pos (show (0 : Int) ≤ (l.length : Int) - 1 by omega), if_pos (show (l.length : Int) - 1 < (l.length : Int) by omega)]
    exact Ev.const
  · simp only [if_neg h, beq_eq_false_iff_ne.mpr h, Bool.not_false, Bool.or_true, if_true]
    exact Ev.const
theorem rof_ev (l : List Nd) (ws : List Wd) (hs : small l) (hw : smallW ws) : Ev (fun k => tontineref18_Of.f k l ws) (ofS l ws) := by
  unfold tontineref18_Of.f ofS
  refine Ev.bind (reach_ev l ws hs hw) ?_
  by_cases h : (eachS l ws).2.2 = 0
  · obtain ⟨-, -, h1, h2, h3, h4⟩ := eachS_ok l ws h
    simp only [if_pos h, h1, h2]
    rw [w64 _ (by omega) (by omega)]
    simp only [if_pos (show (0 : Int) ≤ (l.length : Int) - 1 by omega), if_pos (show (l.length : Int) - 1 < (l.length : Int) by omega), h]
    exact Ev.const
  · simp only [if_neg h]
    exact Ev.const
end Go.Proofs.Ytpfnnamicbbobaa.PL
/- Plain law, part 13: the words that a formula uses; KindFormulas. -/
namespace Go.Proofs.Ytpfnnamicbbobaa.PL
set_option linter.unusedSimpArgs false
open Go.RowKit Go.Proofs.YtpfnnamicbbobaaW.PrintWords Go.Proofs.YtpfnnamicbbobaaW.PrintMore Go.Proofs.Ytpfnnamicbbobaa.HS Go.Proofs.Ytpfnnamicbbobaa.PAll Go.Proofs.Ytpfnnamicbbobaa.HM
instance memDec (s : ByteArray) (xs : List ByteArray) : Decidable (s ∈ xs) := decidable_of_iff ((xs.any fun y => decide (y = s)) = true) (by simp)
theorem rdb_drop (l : List ByteArray) (j : Nat) (h : j < l.length) : l.drop j = rdOf ByteArray.empty l (j : Int) :: l.drop (j + 1) := by
  rw [List.drop_eq_getElem_cons h]
  simp [rdOf, List.getD_eq_getElem?_getD, h]
theorem index_l (xs : List ByteArray) (hx : xs.length ≤ 9223372036854775807) (s : ByteArray) : ∀ (m j : Nat), xs.length - j = m → j ≤ xs.length →
    ∃ r : Int, Ev (fun k => slices_Index_string_string.l0 k xs s (xs.length : Int) (j : Int)) r ∧ (r ≥ 0 ↔ s ∈ xs.drop j) := by
  intro m
  induction m with
  | zero =>
    intro j hm hj
    rw [List.drop_eq_nil_of_le (by omega)]
    refine ⟨-1, Ev.step (fun k => by rw [slices_Index_string_string.l0]) ?_, by simp⟩
    simp only [if_neg (show ¬ (j : Int) < (xs.length : Int) by omega)]
    exact Ev.const
  | succ m ih =>
    intro j hm hj
    have hlt : j < xs.length := by omega
    rw [rdb_drop xs j hlt]
    by_cases hq : s = rdOf ByteArray.empty xs (j : Int)
    · refine ⟨(j : Int), Ev.step (fun k => by rw [slices_Index_string_string.l0]) ?_, ⟨fun _ => by rw [← hq]; exact List.mem_cons_self, fun _ => by omega⟩⟩
      simp only [if_pos (show (j : Int) < (xs.length : Int) by omega), if_pos (show (0 : Int) ≤ (j : Int) by omega), bytes_ext, if_pos hq]
      exact Ev.const
    · obtain ⟨r, hr, hm'⟩ := ih (j + 1) (by omega) (by omega)
      refine ⟨r, Ev.step (fun k => by rw [slices_Index_string_string.l0]) ?_, ?_⟩
      · simp only [if_pos (show (j : Int) < (xs.length : Int) by omega), if_pos (show (0 : Int) ≤ (j : Int) by omega), bytes_ext, if_neg hq, succ64 j _ hlt hx]
        exact hr
      · rw [hm', List.mem_cons]
        exact ⟨.inr, fun h => h.resolve_left hq⟩
theorem contains_ev (xs : List ByteArray) (hx : xs.length ≤ 9223372036854775807) (s : ByteArray) : Ev (fun k => slices_Contains_string_string.f k xs s) (decide (s ∈ xs)) := by
  unfold slices_Contains_string_string.f slices_Index_string_string.f
  obtain ⟨r, hr, hm⟩ := index_l xs hx s xs.length 0 (by omega) (by omega)
  rw [List.drop_zero] at hm
  refine Ev.bind hr ?_
  rw [show decide (s ∈ xs) = decide (r ≥ 0) by simp only [hm]]
  exact Ev.const
def use1 (acc : List ByteArray) (x : Nd) : List ByteArray := if x.f0 = 5 ∧ ¬ x.f2 ∈ acc then acc ++ [x.f2] else acc
/-- The words that a formula uses, each once. -/
def usesGo (l : List Nd) (acc : List ByteArray) : List ByteArray := l.foldl use1 acc
def hasN (l : List Nd) (s : ByteArray) : Bool := l.any fun y => decide (y.f0 = 5 ∧ y.f2 = s)
theorem use1_len (acc : List ByteArray) (x : Nd) : (use1 acc x).length ≤ acc.length + 1 := by
  unfold use1
  split
  · rw [List.length_append, List.length_singleton]; omega
  · omega
theorem mem_uses (s : ByteArray) : ∀ (l : List Nd) (acc : List ByteArray), s ∈ usesGo l acc ↔ s ∈ acc ∨ hasN l s = true
  | [], acc => by simp [usesGo, hasN]
  | x :: r, acc => by
    have ih := mem_uses s r (use1 acc x)
    have e1 : usesGo (x :: r) acc = usesGo r (use1 acc x) := rfl
    have e2 : hasN (x :: r) s = (decide (x.f0 = 5 ∧ x.f2 = s) || hasN r s) := rfl
    rw [e1, ih, e2, Bool.or_eq_true, decide_eq_true_eq]
    unfold use1
    by_cases h5 : x.f0 = 5
    · by_cases hm : x.f2 ∈ acc
      · rw [if_neg (fun q => q.2 hm)]
        constructor
        · rintro (h | h)
          · exact .inl h
          · exact .inr (.inr h)
        · rintro (h | ⟨-, rfl⟩ | h)
          · exact .inl h
          · exact .inl hm
          · exact .inr h
      · rw [if_pos ⟨h5, hm⟩, List.mem_append, List.mem_singleton]
        constructor
        · rintro ((h | h) | h)
          · exact .inl h
          · exact .inr (.inl ⟨h5, h.symm⟩)
          · exact .inr (.inr h)
        · rintro (h | ⟨-, h⟩ | h)
          · exact .inl (.inl h)
          · exact .inl (.inr h.symm)
          · exact .inr h
    · rw [if_neg (fun q => h5 q.1)]
      constructor
      · rintro (h | h)
        · exact .inl h
        · exact .inr (.inr h)
      · rintro (h | ⟨h, -⟩ | h)
        · exact .inl h
        · exact absurd h h5
        · exact .inr h
theorem rd_take (l : List Nd) (j : Nat) (h : j < l.length) : l.take (j + 1) = l.take j ++ [rd_T56 l (j : Int)] := by
  rw [List.take_succ_eq_append_getElem h]
  simp [rd_T56, List.getD_eq_getElem?_getD, h]
section
variable (l : List Nd) (hl : l.length ≤ 1024)
include hl
theorem uses_l : ∀ (m j : Nat) (acc : List ByteArray), l.length - j = m → j ≤ l.length → acc.length ≤ j → Ev (fun k => kind_uses.l0 k acc l (l.length : Int) (j : Int)) (usesGo (l.drop j) acc) := by
  intro m
  induction m with
  | zero =>
    intro j acc hm hj ha
    rw [List.drop_eq_nil_of_le (by omega)]
    refine Ev.step (fun k => by rw [kind_uses.l0]) ?_
    simp only [if_neg (show ¬ (j : Int) < (l.length : Int) by omega)]
    exact Ev.const
  | succ m ih =>
    intro j acc hm hj ha
    have hlt : j < l.length := by omega
    rw [rd_drop l j hlt]
    refine Ev.step (fun k => by rw [kind_uses.l0]) ?_
    generalize hx : rd_T56 l (j : Int) = x
    simp only [if_pos (show (j : Int) < (l.length : Int) by omega), if_pos (show (0 : Int) ≤ (j : Int) by omega), hx, succ64 j _ hlt (by omega)]
    rw [show usesGo (x :: l.drop (j + 1)) acc = usesGo (l.drop (j + 1)) (use1 acc x) from rfl]
    have hu := use1_len acc x
    have ih := ih (j + 1) (use1 acc x) (by omega) (by omega) (by omega)
    by_cases h5 : x.f0 = 5
    · simp only [if_pos h5]
      refine Ev.bind (contains_ev acc (by omega) x.f2) ?_
      by_cases hm : x.f2 ∈ acc
      · rw [show use1 acc x = acc from if_neg (fun q => q.2 hm)] at ih ⊢
        simp only [decide_eq_true hm, if_true]; exact ih
      · rw [show use1 acc x = acc ++ [x.f2] from if_pos ⟨h5, hm⟩] at ih ⊢
        simp only [decide_eq_false hm, Bool.false_eq_true, if_false, if_pos (show acc.length < 8796093022208 by omega)]; exact ih
    · rw [show use1 acc x = acc from if_neg (fun q => h5 q.1)] at ih ⊢
      simp only [if_neg h5]; exact ih
omit hl in
theorem ruses_l (s : ByteArray) (hl : l.length ≤ 9223372036854775807) : ∀ (m j : Nat), l.length - j = m → j ≤ l.length → Ev (fun k => tontineref18_uses.l0 k l s (j : Int)) (hasN (l.drop j) s) := by
  intro m
  induction m with
  | zero =>
    intro j hm hj
    rw [List.drop_eq_nil_of_le (by omega)]
    refine Ev.step (fun k => by rw [tontineref18_uses.l0]) ?_
    simp only [if_neg (show ¬ (j : Int) < (l.length : Int) by omega)]
    exact Ev.const
  | succ m ih =>
    intro j hm hj
    have hlt : j < l.length := by omega
    rw [rd_drop l j hlt]
    refine Ev.step (fun k => by rw [tontineref18_uses.l0]) ?_
    generalize hx : rd_T56 l (j : Int) = x
    simp only [if_pos (show (j : Int) < (l.length : Int) by omega), if_pos (show (0 : Int) ≤ (j : Int) by omega), hx, succ64 j _ hlt (by omega), bytes_ext]
    have ih := ih (j + 1) (by omega) (by omega)
    rw [show hasN (x :: l.drop (j + 1)) s = (decide (x.f0 = 5 ∧ x.f2 = s) || hasN (l.drop (j + 1)) s) from rfl]
    by_cases h5 : x.f0 = 5
    · by_cases hs : x.f2 = s
      · simp only [if_pos h5, if_pos hs, decide_eq_true (show x.f0 = 5 ∧ x.f2 = s from ⟨h5, hs⟩), Bool.true_or]; exact Ev.const
      · simp only [if_pos h5, if_neg hs, decide_eq_false (show ¬ (x.f0 = 5 ∧ x.f2 = s) from fun q => hs q.2), Bool.false_or]; exact ih
    · simp only [if_neg h5, decide_eq_false (show ¬ (x.f0 = 5 ∧ x.f2 = s) from fun q => h5 q.1), Bool.false_or]; exact ih
omit hl in
theorem ruses_ev (s : ByteArray) (hl : l.length ≤ 9223372036854775807) : Ev (fun k => tontineref18_uses.f k l s) (hasN l s) := by
  unfold tontineref18_uses.f
  exact ruses_l l s hl l.length 0 (by omega) (by omega)
theorem rUses_l : ∀ (m j : Nat) (acc : List ByteArray), l.length - j = m → j ≤ l.length → acc = usesGo (l.take j) [] → acc.length ≤ j → Ev (fun k => tontineref18_Uses.l0 k l acc (j : Int)) (usesGo (l.drop j) acc, 0) := by
  intro m
  induction m with
  | zero =>
    intro j acc hm hj he ha
    rw [List.drop_eq_nil_of_le (by omega)]
    refine Ev.step (fun k => by rw [tontineref18_Uses.l0]) ?_
    simp only [if_neg (show ¬ (j : Int) < (l.length : Int) by omega)]
    exact Ev.const
  | succ m ih =>
    intro j acc hm hj he ha
    have hlt : j < l.length := by omega
    have ht := rd_take l j hlt
    rw [rd_drop l j hlt]
    refine Ev.step (fun k => by rw [tontineref18_Uses.l0]) ?_
    generalize hx : rd_T56 l (j : Int) = x at ht ⊢
    simp only [if_pos (show (j : Int) < (l.length : Int) by omega), if_pos (show (0 : Int) ≤ (j : Int) by omega), if_pos (show (j : Int) ≤ (l.length : Int) by omega), hx, succ64 j _ hlt (by omega), Int.toNat_natCast]
    rw [show usesGo (x :: l.drop (j + 1)) acc = usesGo (l.drop (j + 1)) (use1 acc x) from rfl]
    have hu := use1_len acc x
    have ih := ih (j + 1) (use1 acc x) (by omega) (by omega) (by rw [ht, he]; unfold usesGo; rw [List.foldl_append]; rfl) (by omega)
    by_cases h5 : x.f0 = 5
    · simp only [if_pos h5]
      refine Ev.bind (ruses_ev (l.take j) x.f2 (by rw [List.length_take]; omega)) ?_
      have hmm : x.f2 ∈ acc ↔ hasN (l.take j) x.f2 = true := by rw [he, mem_uses]; simp
      by_cases hm : x.f2 ∈ acc
      · rw [show use1 acc x = acc from if_neg (fun q => q.2 hm)] at ih ⊢
        simp only [hmm.mp hm, if_true]; exact ih
      · rw [show use1 acc x = acc ++ [x.f2] from if_pos ⟨h5, hm⟩] at ih ⊢
        simp only [Bool.eq_false_iff.mpr (fun q => hm (hmm.mpr q)), Bool.false_eq_true, if_false, if_pos (show acc.length < 8796093022208 by omega)]; exact ih
    · rw [show use1 acc x = acc from if_neg (fun q => h5 q.1)] at ih ⊢
      simp only [if_neg h5]; exact ih
end
/-- What Uses answers. -/
def usesS (l : List Nd) : List ByteArray × Int := if checkF l = 0 then (usesGo l [], 0) else ([], checkF l)
theorem uses_ev (l : List Nd) (hs : small l) : Ev (fun k => kind_Uses.f k l) (usesS l) := by
  unfold kind_Uses.f usesS
  refine Ev.bind (check_ev l hs) ?_
  by_cases h : checkF l = 0
  · simp only [if_pos h]
    have := uses_l l (checkF_len l h) l.length 0 [] (by omega) (by omega) (by simp)
    unfold kind_uses.f
    exact Ev.bind this Ev.const
  · simp only [if_neg h]; exact Ev.const
theorem rUses_ev (l : List Nd) (hs : small l) : Ev (fun k => tontineref18_Uses.f k l) (usesS l) := by
  unfold tontineref18_Uses.f usesS
  refine Ev.bind (rcheck_ev l hs) ?_
  by_cases h : checkF l = 0
  · simp only [if_pos h]
    exact rUses_l l (checkF_len l h) l.length 0 [] (by omega) (by omega) (by simp [usesGo]) (by simp)
  · simp only [if_neg h]; exact Ev.const
theorem usesGo_len : ∀ (l : List Nd) (acc : List ByteArray), (usesGo l acc).length ≤ acc.length + l.length
  | [], acc => by simp [usesGo]
  | x :: r, acc => by
    have := usesGo_len r (use1 acc x)
    have h2 := use1_len acc x
    rw [show usesGo (x :: r) acc = usesGo r (use1 acc x) from rfl, List.length_cons]; omega
theorem usesS_len (l : List Nd) : (usesS l).1.length ≤ 1024 := by
  unfold usesS
  split
  · rename_i h
    have := usesGo_len l []
    have h2 := checkF_len l h
    simp at this ⊢; omega
  · simp
theorem ints_l (l : List Int) (hl : l.length ≤ 9223372036854775807) : ∀ (m j : Nat), l.length - j = m → j ≤ l.length → Ev (fun k => tontinelaw18_ints.l0 k l l (l.length : Int) (j : Int)) true := by
  intro m
  induction m with
  | zero =>
    intro j hm hj
    refine Ev.step (fun k => by rw [tontinelaw18_ints.l0]) ?_
    simp only [if_neg (show ¬ (j : Int) < (l.length : Int) by omega)]
    exact Ev.const
  | succ m ih =>
    intro j hm hj
    have hlt : j < l.length := by omega
    refine Ev.step (fun k => by rw [tontinelaw18_ints.l0]) ?_
    simp only [if_pos (show (j : Int) < (l.length : Int) by omega), if_pos (show (0 : Int) ≤ (j : Int) by omega), if_true, succ64 j _ hlt hl]
    exact ih (j + 1) (by omega) (by omega)
theorem ints_ev (l : List Int) (hl : l.length ≤ 9223372036854775807) : Ev (fun k => tontinelaw18_ints.f k l l) true := by
  unfold tontinelaw18_ints.f
  simp only [if_true]
  exact ints_l l hl l.length 0 (by omega) (by omega)
theorem words_l (l : List Wd) (hl : l.length ≤ 9223372036854775807) : ∀ (m j : Nat), l.length - j = m → j ≤ l.length → Ev (fun k => tontinelaw18_words.l0 k l l (l.length : Int) (j : Int)) true := by
  intro m
  induction m with
  | zero =>
    intro j hm hj
    refine Ev.step (fun k => by rw [tontinelaw18_words.l0]) ?_
    simp only [if_neg (show ¬ (j : Int) < (l.length : Int) by omega)]
    exact Ev.const
  | succ m ih =>
    intro j hm hj
    have hlt : j < l.length := by omega
    refine Ev.step (fun k => by rw [tontinelaw18_words.l0]) ?_
    simp only [if_pos (show (j : Int) < (l.length : Int) by omega), if_pos (show (0 : Int) ≤ (j : Int) by omega), beq_self_eq_true, Bool.not_true, Bool.or_false, Bool.false_eq_true, if_false, succ64 j _ hlt hl]
    exact ih (j + 1) (by omega) (by omega)
theorem words_ev (l : List Wd) (hl : l.length ≤ 9223372036854775807) : Ev (fun k => tontinelaw18_words.f k l l) true := by
  unfold tontinelaw18_words.f
  simp only [if_true]
  exact words_l l hl l.length 0 (by omega) (by omega)
theorem eachS_len (l : List Nd) (ws : List Wd) : (eachS l ws).1.length ≤ 1024 := by
  by_cases h : (eachS l ws).2.2 = 0
  · obtain ⟨-, -, -, h2, -, h4⟩ := eachS_ok l ws h
    omega
  · rw [eachS_bad l ws h]; simp
theorem fault_eq (a b : Int) : tontinelaw18_fault.f a b a b = some true := by
  unfold tontinelaw18_fault.f
  simp
theorem forms_l (l : List Nd) (ws : List Wd) (hl : l.length ≤ 9223372036854775807) (hw : ws.length ≤ 9223372036854775807) (us : List ByteArray) (hu : us.length ≤ 1024) : ∀ (m j : Nat), us.length - j = m → j ≤ us.length → Ev (fun k => tontinelaw18_KindFormulas.l0 k l ws l ws us us (us.length : Int) (j : Int)) true := by
  intro m
  induction m with
  | zero =>
    intro j hm hj
    refine Ev.step (fun k => by rw [tontinelaw18_KindFormulas.l0]) ?_
    simp only [if_neg (show ¬ (j : Int) < (us.length : Int) by omega)]
    refine Ev.bind (same_ev l hl) ?_
    simp only [if_true]
    refine Ev.bind (words_ev ws hw) ?_
    simp only [if_true]
    exact Ev.bind works_ev Ev.const
  | succ m ih =>
    intro j hm hj
    have hlt : j < us.length := by omega
    refine Ev.step (fun k => by rw [tontinelaw18_KindFormulas.l0]) ?_
    simp only [if_pos (show (j : Int) < (us.length : Int) by omega), if_pos (show (0 : Int) ≤ (j : Int) by omega), if_true, succ64 j _ hlt (by omega)]
    exact ih (j + 1) (by omega) (by omega)
theorem kindFormulas_ev (l : List Nd) (ws : List Wd) (hs : small l) (hll : l.length < 4398046511104) (hw : smallW ws) (hwl : ws.length < 5864062014805) : Ev (fun k => tontinelaw18_KindFormulas.f k l ws) true := by
  unfold tontinelaw18_KindFormulas.f
  refine Ev.bindc (copied_eq l hll) ?_
  refine Ev.bindc (v := ([] : List Wd)) rfl ?_
  simp only [List.length_nil, Nat.zero_add, if_pos hwl, List.nil_append, Option.bind_some]
  refine Ev.bind (of_ev l ws hs hw) ?_
  refine Ev.bind (rof_ev l ws hs hw) ?_
  simp only [if_true, fault_eq, Option.bind_some, Bool.not_true]
  refine Ev.step (fun k => by rw [tontinelaw18_KindFormulas.j0]) ?_
  simp only [Bool.false_eq_true, if_false]
  refine Ev.bind (each_ev l ws hs hw) ?_
  refine Ev.bind (reach_ev l ws hs hw) ?_
  have hel := eachS_len l ws
  refine Ev.bind (ints_ev _ (by omega)) ?_
  simp only [if_true, fault_eq, Option.bind_some, Bool.not_true]
  refine Ev.step (fun k => by rw [tontinelaw18_KindFormulas.j1]) ?_
  simp only [Bool.false_eq_true, if_false]
  refine Ev.bind (uses_ev l hs) ?_
  refine Ev.bind (rUses_ev l hs) ?_
  simp only [if_true, bne_self_eq_false]
  refine Ev.step (fun k => by rw [tontinelaw18_KindFormulas.j2]) ?_
  simp only [Bool.false_eq_true, if_false]
  exact forms_l l ws (by omega) (by omega) _ (usesS_len l) _ 0 rfl (by omega)
end Go.Proofs.Ytpfnnamicbbobaa.PL
