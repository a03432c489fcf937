/- Plain law, part 0: a printed function's answer for all fuels from one on. -/
import Derived.Test.YtpfnnamicbbobaaPAllx
import Derived.Test.YtpfnnamicbbobaaHS
import Derived.Lib.Bytealg
import Derived.Lib.IndexLaws
import Derived.KernelRfl
namespace Go.Proofs.Ytpfnnamicbbobaa.PL
open Go.RowKit Go.Proofs.YtpfnnamicbbobaaW.PrintWords Go.Proofs.YtpfnnamicbbobaaW.PrintMore Go.Proofs.Ytpfnnamicbbobaa.HS Go.Proofs.Ytpfnnamicbbobaa.PAll
section
variable {α β : Type}
/-- From some fuel on a function answers v. -/
def Ev (g : Nat → Option α) (v : α) : Prop := ∃ k0, ∀ k, k0 ≤ k → g k = some v
theorem Ev.const {v : α} : Ev (fun _ => some v) v := ⟨0, fun _ _ => rfl⟩
theorem Ev.bind {g : Nat → Option α} {h : Nat → α → Option β} {v : α} {u : β} (hg : Ev g v) (hh : Ev (fun k => h k v) u) : Ev (fun k => (g k).bind (h k)) u := by
  obtain ⟨a, ha⟩ := hg
  obtain ⟨b, hb⟩ := hh
  exact ⟨max a b, fun k hk => by show (g k).bind (h k) = some u; rw [ha k (by omega), Option.bind_some]; exact hb k (by omega)⟩
theorem Ev.step {g e : Nat → Option α} {v : α} (hs : ∀ k, g (k + 1) = e k) (he : Ev e v) : Ev g v := by
  obtain ⟨a, ha⟩ := he
  refine ⟨a + 1, fun k hk => ?_⟩
  obtain ⟨j, rfl⟩ : ∃ j, k = j + 1 := ⟨k - 1, by omega⟩
  rw [hs]
  exact ha j (by omega)
theorem Ev.congr {g e : Nat → Option α} {v : α} (hs : ∀ k, g k = e k) (he : Ev e v) : Ev g v := by
  obtain ⟨a, ha⟩ := he
  exact ⟨a, fun k hk => (hs k).trans (ha k hk)⟩
theorem Ev.get {g : Nat → Option α} {v : α} (h : Ev g v) : ∃ k, g k = some v := ⟨h.choose, h.choose_spec _ (Nat.le_refl _)⟩
theorem Ev.of {g : Nat → Option α} {v : α} (hm : ∀ k, LeO (g k) (g (k + 1))) {k0 : Nat} (h : g k0 = some v) : Ev g v :=
  ⟨k0, fun k hk => by
    induction k with
    | zero => obtain rfl : k0 = 0 := by omega
              exact h
    | succ k ih =>
      by_cases e : k0 = k + 1
      · exact e ▸ h
      · exact hm k v (ih (by omega))⟩
end
/-- A byte, as the list says it. -/
theorem bt_nat (s : ByteArray) (n : Nat) (h : n < s.size) : bt s (n : Int) = (s[n].toNat : Int) := (bt_at s n (by simpa using h)).symm
theorem toList_data (s : ByteArray) : s.toList = s.data.toList := ByteArray.toList_eq s
theorem w64 (n : Int) (h : -9223372036854775808 ≤ n) (h' : n ≤ 9223372036854775807) : wrap64 n = n := by unfold wrap64; omega
end Go.Proofs.Ytpfnnamicbbobaa.PL
/- Plain law, part 1: names: kind.isName, tontinebase.Name, clause.named, tontineref17.Word, clause.word. -/
namespace Go.Proofs.Ytpfnnamicbbobaa.PL
open Go.RowKit Go.Proofs.YtpfnnamicbbobaaW.PrintWords Go.Proofs.YtpfnnamicbbobaaW.PrintMore Go.Proofs.Ytpfnnamicbbobaa.HS Go.Proofs.Ytpfnnamicbbobaa.PAll
/-- What the inner loops say from a place on. -/
theorem inn_step (s : ByteArray) (k : Nat) (h : k < s.size) : ((s.data.toList.drop k).all innB) = (innB s[k] && ((s.data.toList.drop (k + 1)).all innB)) := by
  rw [drop_at s k h, List.all_cons]
theorem isName_l (s : ByteArray) (hs : s.size ≤ 9223372036854775807) : ∀ (m n : Nat), s.size - n = m → n ≤ s.size → Ev (fun k => kind_isName.l0 k s (s.size : Int) (n : Int)) ((s.data.toList.drop n).all innB) := by
  intro m
  induction m with
  | zero =>
    intro n hm hn
    refine Ev.step (fun k => by rw [kind_isName.l0]) ?_
    simp only [if_neg (show ¬ (n : Int) < (s.size : Int) by omega)]
    rw [List.drop_eq_nil_of_le (by simpa using (show s.size ≤ n by omega))]
    exact Ev.const
  | succ m ih =>
    intro n hm hn
    have hlt : n < s.size := by omega
    have hr := ih (n + 1) (by omega) (by omega)
    refine Ev.step (fun k => by rw [kind_isName.l0]) ?_
    simp only [if_pos (show (n : Int) < (s.size : Int) by omega), if_pos (show (0 : Int) ≤ (n : Int) by omega), bt_nat s n hlt, show wrap64 ((n : Int) + 1) = ((n + 1 : Nat) : Int) by rw [w64 _ (by omega) (by omega)]; rfl]
    rw [inn_step s n hlt]
    generalize hc : s[n] = c
    have hb : c.toNat < 256 := c.toNat_lt
    clear hc
    cases hi : innB c with
    | true =>
      have hi' : (97 ≤ c.toNat ∧ c.toNat ≤ 122) ∨ (48 ≤ c.toNat ∧ c.toNat ≤ 57) ∨ c.toNat = 95 := by simpa [innB, letB, digB] using hi
      clear hi
      rw [Bool.true_and]
      repeat' split
      all_goals first | exact hr | (exfalso; omega)
    | false =>
      have hi' : ¬ ((97 ≤ c.toNat ∧ c.toNat ≤ 122) ∨ (48 ≤ c.toNat ∧ c.toNat ≤ 57) ∨ c.toNat = 95) := fun q => by
        have : innB c = true := by simpa [innB, letB, digB] using q
        rw [hi] at this
        cases this
      clear hi
      rw [Bool.false_and]
      repeat' split
      all_goals first | exact Ev.const | (exfalso; omega)
theorem spanN_all (q : UInt8 → Bool) (l : List UInt8) : decide (spanN q l = l.length) = l.all q := by
  induction l with
  | nil => rfl
  | cons c r ih =>
    rw [spanN_cons, List.all_cons]
    cases hq : q c with
    | true => rw [if_pos rfl, Bool.true_and, ← ih]; simp
    | false => simp
theorem named_eq (s : ByteArray) (c : UInt8) (h0 : 0 < s.size) (hc : s[0] = c) : named s.data.toList = (decide (s.size ≤ 24) && (letB c && s.data.toList.all innB)) := by
  have e : s.data.toList = c :: s.data.toList.drop 1 := by rw [← hc]; simpa using drop_at s 0 h0
  have hl : s.data.toList.length = s.size := by simp
  rw [← spanN_all]
  generalize s.data.toList = l at e hl ⊢
  generalize l.drop 1 = r at e
  subst e
  simp only [List.length_cons] at hl
  show (decide (r.length < 24) && (letB c && decide (spanN innB (c :: r) = r.length + 1))) = _
  rw [show decide (r.length < 24) = decide (s.size ≤ 24) from decide_eq_decide.mpr (by omega)]
  rfl
theorem named_nil (s : ByteArray) (h0 : ¬ 0 < s.size) : named s.data.toList = false := by
  rw [show s.data.toList = [] from List.eq_nil_of_length_eq_zero (by rw [show s.data.toList.length = s.size by simp]; omega)]
  rfl
theorem size_nil (s : ByteArray) : s.toList = ([] : List UInt8) ↔ ¬ 0 < s.size := by
  rw [toList_data]
  constructor
  · intro h
    have h2 : s.data.toList.length = 0 := by rw [h]; rfl
    rw [show s.data.toList.length = s.size by simp] at h2
    omega
  · intro h
    exact List.eq_nil_of_length_eq_zero (by rw [show s.data.toList.length = s.size by simp]; omega)
theorem isName_ev (s : ByteArray) (hs : s.size ≤ 9223372036854775807) : Ev (fun k => kind_isName.f k s) (named s.data.toList) := by
  unfold kind_isName.f
  by_cases h0 : 0 < s.size
  · have hn : ¬ s.toList = ([] : List UInt8) := fun e => (size_nil s).mp e h0
    simp only [if_neg hn, if_pos (show 0 < (s.size : Int) by omega)]
    have hb := bt_nat s 0 h0
    rw [named_eq s _ h0 rfl]
    have hl := isName_l s hs s.size 0 (by omega) (by omega)
    rw [List.drop_zero] at hl
    rw [show ((0 : Nat) : Int) = 0 from rfl] at hb
    simp only [show ((0 : Nat) : Int) = 0 from rfl] at hl
    generalize hc : s[0] = c at hb ⊢
    clear hc
    have hct : c.toNat < 256 := c.toNat_lt
    rw [show bt s 0 = (c.toNat : Int) from hb]
    by_cases h1 : (s.size : Int) > 24
    · simp only [if_pos h1]
      refine Ev.step (fun k => by rw [kind_isName.j0]) ?_
      simp only [if_pos]
      rw [decide_eq_false (show ¬ s.size ≤ 24 by omega), Bool.false_and]
      exact Ev.const
    · simp only [if_neg h1]
      rw [decide_eq_true (show s.size ≤ 24 by omega), Bool.true_and]
      by_cases h2 : (c.toNat : Int) < 97
      · simp only [if_pos h2]
        refine Ev.step (fun k => by rw [kind_isName.j0]) ?_
        simp only [if_pos]
        rw [show letB c = false by simp [letB]; omega, Bool.false_and]
        exact Ev.const
      · simp only [if_neg h2]
        refine Ev.step (fun k => by rw [kind_isName.j0]) ?_
        by_cases h3 : (c.toNat : Int) > 122
        · simp only [decide_eq_true h3, if_pos]
          rw [show letB c = false by simp [letB]; omega, Bool.false_and]
          exact Ev.const
        · simp only [decide_eq_false h3, if_neg (show ¬ (false = true) by decide)]
          rw [show letB c = true by simp [letB]; omega, Bool.true_and]
          exact hl
  · simp only [if_pos ((size_nil s).mpr h0)]
    refine Ev.step (fun k => by rw [kind_isName.j0]) ?_
    simp only [if_pos]
    rw [named_nil s h0]
    exact Ev.const
end Go.Proofs.Ytpfnnamicbbobaa.PL
/- Plain law, part 2: numbers as they are written: the list's shape. -/
namespace Go.Proofs.Ytpfnnamicbbobaa.PL
open Go.Proofs.Ytpfnnamicbbobaa.HS
/-- A number, or (sum) what stands behind a $, as it is written. -/
def numOK (sum : Bool) (t : List UInt8) : Bool :=
  (decide (t.takeWhile digB ≠ []) && !(decide (1 < (t.takeWhile digB).length) && decide (t.head? = some 48))) &&
  match t.dropWhile digB with
  | [] => !sum && decide (t.length ≤ 18)
  | c :: d => (decide (c = 46) && (decide (d ≠ []) && d.all digB)) && (decide (t.length ≤ 19) && (!sum || decide (d.length = 2)))
theorem tw_all (l : List UInt8) : (l.takeWhile digB).all digB = true := by
  induction l with
  | nil => rfl
  | cons c r ih =>
    rw [List.takeWhile_cons]
    split
    · rename_i h; rw [List.all_cons, h, ih]; rfl
    · rfl
theorem dw_head (l d : List UInt8) (c : UInt8) (h : l.dropWhile digB = c :: d) : digB c = false := by
  induction l with
  | nil => cases h
  | cons x r ih =>
    rw [List.dropWhile_cons] at h
    split at h
    · exact ih h
    · rename_i hx
      cases h
      simpa using hx
theorem parts_eq (l : List UInt8) : l = l.takeWhile digB ++ l.dropWhile digB := List.takeWhile_append_dropWhile.symm
theorem tw_app (ds r : List UInt8) (h : ds.all digB = true) : (ds ++ r).takeWhile digB = ds ++ r.takeWhile digB := by
  induction ds with
  | nil => rfl
  | cons c t ih =>
    rw [List.all_cons, Bool.and_eq_true] at h
    rw [List.cons_append, List.takeWhile_cons, if_pos h.1, ih h.2]; rfl
theorem dw_app (ds r : List UInt8) (h : ds.all digB = true) : (ds ++ r).dropWhile digB = r.dropWhile digB := by
  induction ds with
  | nil => rfl
  | cons c t ih =>
    rw [List.all_cons, Bool.and_eq_true] at h
    rw [List.cons_append, List.dropWhile_cons, if_pos h.1, ih h.2]
theorem dig46 (c : UInt8) (h : digB c = true) : (c == 46) = false := by
  cases hc : c == 46 with
  | false => rfl
  | true =>
    rw [beq_iff_eq] at hc
    subst hc
    exact absurd h (by decide)
theorem count_dig (ds : List UInt8) (h : ds.all digB = true) : ds.count 46 = 0 := by
  induction ds with
  | nil => rfl
  | cons c t ih =>
    rw [List.all_cons, Bool.and_eq_true] at h
    rw [List.count_cons, ih h.2, dig46 c h.1]; rfl
theorem index_dig (ds : List UInt8) (h : ds.all digB = true) : Lib.indexByte ds 46 = -1 := by
  induction ds with
  | nil => rfl
  | cons c t ih =>
    rw [List.all_cons, Bool.and_eq_true] at h
    rw [Lib.indexByte, dig46 c h.1, ih h.2]; rfl
theorem index_dot (ds d : List UInt8) (h : ds.all digB = true) : Lib.indexByte (ds ++ 46 :: d) 46 = ds.length := by
  induction ds with
  | nil => rfl
  | cons c t ih =>
    rw [List.all_cons, Bool.and_eq_true] at h
    rw [List.cons_append, Lib.indexByte, dig46 c h.1, ih h.2]
    rw [show (((t.length : Int)) == -1) = false by rw [beq_eq_false_iff_ne]; omega]
    simp
theorem figs_app (ds r : List UInt8) (h : ds.all digB = true) (hr : r.takeWhile digB = []) : figs (ds ++ r) = if 0 < ds.length ∧ r.head? = some 46 then (if 0 < spanN digB r.tail then ds.length + (spanN digB r.tail + 1) else ds.length) else ds.length := by
  have hs : spanN digB (ds ++ r) = ds.length := by unfold spanN; rw [tw_app ds r h, hr, List.append_nil]
  have hx : (ds ++ r)[ds.length]? = r.head? := by rw [List.getElem?_append_right (Nat.le_refl _), Nat.sub_self]; cases r <;> rfl
  have hd : (ds ++ r).drop (ds.length + 1) = r.tail := by rw [List.drop_append]; simp
  unfold figs
  rw [hs, hx, hd]
theorem span_all (l : List UInt8) : spanN digB l = l.length ↔ l.all digB = true := by
  constructor
  · intro h
    unfold spanN at h
    have e := parts_eq l
    have hl := congrArg List.length e
    rw [List.length_append] at hl
    have : l.dropWhile digB = [] := List.eq_nil_of_length_eq_zero (by omega)
    rw [this, List.append_nil] at e
    rw [e]
    exact tw_all l
  · intro h
    have := tw_app l [] h
    rw [List.append_nil] at this
    unfold spanN
    rw [this]; simp
/-- The three shapes of a text. -/
theorem shapes (t : List UInt8) : (t.all digB = true) ∨ (∃ ds d, t = ds ++ 46 :: d ∧ ds.all digB = true) ∨ (∃ ds c d, t = ds ++ c :: d ∧ ds.all digB = true ∧ digB c = false ∧ c ≠ 46) := by
  cases h : t.dropWhile digB with
  | nil =>
    left
    have e := parts_eq t
    rw [h, List.append_nil] at e
    rw [e]; exact tw_all t
  | cons c d =>
    right
    have e := parts_eq t
    rw [h] at e
    have hc := dw_head t d c h
    by_cases h46 : c = 46
    · subst h46; exact .inl ⟨_, _, e, tw_all t⟩
    · exact .inr ⟨_, c, d, e, tw_all t, hc, h46⟩
theorem numOK_dig (sum : Bool) (ds : List UInt8) (h : ds.all digB = true) : numOK sum ds = ((decide (ds ≠ []) && !(decide (1 < ds.length) && decide (ds.head? = some 48))) && (!sum && decide (ds.length ≤ 18))) := by
  have e1 := tw_app ds [] h
  have e2 := dw_app ds [] h
  rw [List.append_nil] at e1 e2
  simp only [List.takeWhile_nil, List.append_nil, List.dropWhile_nil] at e1 e2
  unfold numOK
  rw [e1, e2]
theorem numOK_app (sum : Bool) (ds : List UInt8) (c : UInt8) (d : List UInt8) (h : ds.all digB = true) (hc : digB c = false) : numOK sum (ds ++ c :: d) = ((decide (ds ≠ []) && !(decide (1 < ds.length) && decide (ds.head? = some 48))) && ((decide (c = 46) && (decide (d ≠ []) && d.all digB)) && (decide (ds.length + d.length ≤ 18) && (!sum || decide (d.length = 2))))) := by
  have e1 := tw_app ds (c :: d) h
  have e2 := dw_app ds (c :: d) h
  rw [List.takeWhile_cons, if_neg (by simp [hc]), List.append_nil] at e1
  rw [List.dropWhile_cons, if_neg (by simp [hc])] at e2
  unfold numOK
  rw [e1, e2]
  have e3 : decide ((ds ++ c :: d).length ≤ 19) = decide (ds.length + d.length ≤ 18) := decide_eq_decide.mpr (by simp; omega)
  rw [e3]
  cases ds with
  | nil => rfl
  | cons x r => rfl
end Go.Proofs.Ytpfnnamicbbobaa.PL
/- Plain law, part 3: clause.number is numOK. -/
namespace Go.Proofs.Ytpfnnamicbbobaa.PL
open Go.RowKit Go.Proofs.YtpfnnamicbbobaaW.PrintWords Go.Proofs.YtpfnnamicbbobaaW.PrintMore Go.Proofs.Ytpfnnamicbbobaa.HS Go.Proofs.Ytpfnnamicbbobaa.PAll
theorem lsize (s : ByteArray) : s.data.toList.length = s.size := by simp
theorem count1 (s : ByteArray) : strings_Count.f s ⟨#[46]⟩ = some ((s.data.toList.count 46 : Nat) : Int) := rfl
theorem index1 (s : ByteArray) : stringslite_Index.f s ⟨#[46]⟩ = some (Lib.indexByte s.data.toList 46) := rfl
theorem ex_list (s : ByteArray) (a b : Nat) (_ : b ≤ s.size) : (s.extract a b).data.toList = (s.data.toList.drop a).take (b - a) := by
  rw [ByteArray.data_extract, Array.toList_extract, List.extract_eq_take_drop]
theorem ex_size (s : ByteArray) (a b : Nat) (h : b ≤ s.size) : (s.extract a b).size = b - a := by
  rw [ByteArray.size_extract]; omega
theorem many_eq (s : ByteArray) (hs : s.size ≤ 9223372036854775807) : clause_many.f s = some ((s.size : Int) - (s.data.toList.count 46 : Nat)) := by
  unfold clause_many.f
  rw [count1, Option.bind_some]
  have : s.data.toList.count 46 ≤ s.size := by rw [← lsize]; exact List.count_le_length
  rw [w64 _ (by omega) (by omega)]
/-- The three answers of Cut at a point. -/
theorem cut_none (s : ByteArray) (h : Lib.indexByte s.data.toList 46 = -1) : strings_Cut.f s ⟨#[46]⟩ = some (s, ⟨#[]⟩, false) := by
  unfold strings_Cut.f stringslite_Cut.f
  rw [index1, h]; rfl
theorem cut_some (s : ByteArray) (n : Nat) (hs : s.size ≤ 9223372036854775807) (hn : n < s.size) (h : Lib.indexByte s.data.toList 46 = n) : strings_Cut.f s ⟨#[46]⟩ = some (s.extract 0 n, s.extract (n + 1) s.size, true) := by
  unfold strings_Cut.f stringslite_Cut.f
  rw [index1, h, Option.bind_some]
  have hw : wrap64 ((n : Int) + ((⟨#[46]⟩ : ByteArray).size : Int)) = ((n + 1 : Nat) : Int) := by rw [show ((⟨#[46]⟩ : ByteArray).size) = 1 from rfl, w64 _ (by omega) (by omega)]; rfl
  rw [hw, if_pos (by omega), if_pos (by omega), if_pos (by omega), if_pos (by omega), if_pos (by omega)]
  rfl
/-- What 'early' and 'pennies' say. -/
theorem early_of (s p q : ByteArray) (b : Bool) (h : strings_Cut.f s ⟨#[46]⟩ = some (p, q, b)) : clause_early.f s = some (decide (1 < p.size) && decide (p.data.toList.head? = some 48)) := by
  unfold clause_early.f
  rw [h, Option.bind_some]
  show (if (p.size : Int) > 1 then (if 0 < (p.size : Int) then some (bt p 0 == 48) else none) else some false) = _
  by_cases h1 : 1 < p.size
  · rw [if_pos (by omega), if_pos (by omega), decide_eq_true h1, Bool.true_and]
    congr 1
    have e : p.data.toList.head? = some p[0] := by
      rw [show p.data.toList = p[0] :: p.data.toList.drop 1 by simpa using drop_at p 0 (by omega)]; rfl
    rw [e, show bt p 0 = (p[0].toNat : Int) from bt_nat p 0 (by omega)]
    rw [Bool.eq_iff_iff]
    simp only [beq_iff_eq, decide_eq_true_eq, Option.some.injEq]
    constructor
    · intro e; exact UInt8.toNat_inj.mp (by simpa using (show p[0].toNat = 48 by omega))
    · intro e; rw [e]; rfl
  · rw [if_neg (by omega), decide_eq_false h1, Bool.false_and]
theorem pennies_of (s p q : ByteArray) (b : Bool) (h : strings_Cut.f s ⟨#[46]⟩ = some (p, q, b)) : clause_pennies.f s = some (b && decide (q.size = 2)) := by
  unfold clause_pennies.f
  rw [h, Option.bind_some]
  cases b with
  | true => rw [if_pos rfl, Bool.true_and]; congr 1; rw [Bool.eq_iff_iff]; simp only [beq_iff_eq, decide_eq_true_eq]; omega
  | false => rfl
theorem amiss_of (s p q : ByteArray) (b sum : Bool) (hs : s.size ≤ 9223372036854775807) (h : strings_Cut.f s ⟨#[46]⟩ = some (p, q, b)) :
    ∃ e, clause_amiss.f s sum = some e ∧ (e == 0) = (decide ((s.size : Int) - (s.data.toList.count 46 : Nat) ≤ 18) && (!(decide (1 < p.size) && decide (p.data.toList.head? = some 48)) && (!sum || (b && decide (q.size = 2))))) := by
  unfold clause_amiss.f
  rw [many_eq s hs, Option.bind_some, early_of s p q b h, Option.bind_some, pennies_of s p q b h]
  by_cases h1 : (s.size : Int) - (s.data.toList.count 46 : Nat) > 18
  · rw [if_pos h1]
    exact ⟨_, rfl, by rw [decide_eq_false (by omega)]; rfl⟩
  · rw [if_neg h1, decide_eq_true (show (s.size : Int) - (s.data.toList.count 46 : Nat) ≤ 18 by omega), Bool.true_and]
    cases (decide (1 < p.size) && decide (p.data.toList.head? = some 48)) with
    | true => exact ⟨_, rfl, rfl⟩
    | false =>
      rw [if_neg (by decide)]
      cases sum with
      | false => exact ⟨_, rfl, rfl⟩
      | true =>
        rw [if_pos rfl, Option.bind_some]
        cases (b && decide (q.size = 2)) with
        | true => exact ⟨_, rfl, rfl⟩
        | false => exact ⟨_, rfl, rfl⟩
theorem number_eq (s : ByteArray) (sum : Bool) (hs : s.size ≤ 9223372036854775807) : clause_number.f s sum = some (numOK sum s.data.toList) := by
  have hl := lsize s
  unfold clause_number.f clause_figures.f
  rw [if_pos hs, Option.bind_some]
  rcases shapes s.data.toList with h | ⟨ds, d, e, h⟩ | ⟨ds, c, d, e, h, hc, h46⟩
  · have hf : figs s.data.toList = s.size := by
      have := figs_app s.data.toList [] h rfl
      rw [List.append_nil] at this
      rw [this, hl]; simp
    rw [hf, if_pos rfl, numOK_dig sum _ h]
    by_cases h0 : 0 < s.size
    · rw [if_neg (fun e => (size_nil s).mp e h0)]
      obtain ⟨x, hx, hx0⟩ := amiss_of s s ⟨#[]⟩ false sum hs (cut_none s (index_dig _ h))
      rw [hx, Option.bind_some, hx0, count_dig _ h, decide_eq_true (show s.data.toList ≠ [] by intro e; rw [e] at hl; simp at hl; omega)]
      congr 1
      rw [hl, show decide ((s.size : Int) - ((0 : Nat) : Int) ≤ 18) = decide (s.size ≤ 18) from decide_eq_decide.mpr (by omega)]
      cases (decide (1 < s.size) && decide (s.data.toList.head? = some 48)) <;> cases decide (s.size ≤ 18) <;> cases sum <;> rfl
    · rw [if_pos ((size_nil s).mpr h0), decide_eq_false (show ¬ s.data.toList ≠ [] from fun q => q (List.eq_nil_of_length_eq_zero (by omega)))]
      rfl
  · have hlen : s.size = ds.length + (d.length + 1) := by rw [← hl, e]; simp
    have hf : figs (ds ++ 46 :: d) = if 0 < ds.length then (if 0 < spanN digB d then ds.length + (spanN digB d + 1) else ds.length) else ds.length := by
      rw [figs_app ds (46 :: d) h rfl]
      by_cases q : 0 < ds.length
      · rw [if_pos ⟨q, rfl⟩, if_pos q]; rfl
      · rw [if_neg (fun z => q z.1), if_neg q]
    rw [e, hf, numOK_app sum ds 46 d h (by decide)]
    by_cases h1 : 0 < ds.length
    · rw [if_pos h1]
      by_cases h2 : 0 < spanN digB d
      · rw [if_pos h2]
        have hd : d ≠ [] := fun q => by rw [q] at h2; exact absurd h2 (by decide)
        by_cases h3 : spanN digB d = d.length
        · rw [if_pos (by omega), if_neg (fun q => (size_nil s).mp q (by omega))]
          have hi := index_dot ds d h
          rw [← e] at hi
          obtain ⟨x, hx, hx0⟩ := amiss_of s _ _ true sum hs (cut_some s ds.length hs (by omega) hi)
          rw [hx, Option.bind_some, hx0, ex_size _ _ _ (by omega), ex_size _ _ _ (Nat.le_refl _), ex_list _ _ _ (by omega), e, List.count_append, count_dig ds h, List.count_cons, count_dig d ((span_all d).mp h3)]
          rw [show (List.drop 0 (ds ++ 46 :: d)).take (ds.length - 0) = ds by simp]
          rw [decide_eq_true (show ds ≠ [] by intro q; rw [q] at h1; exact absurd h1 (by decide)), decide_eq_true hd, (span_all d).mp h3]
          congr 1
          rw [show decide ((s.size : Int) - ((0 + (0 + if (46 : UInt8) == 46 then 1 else 0) : Nat) : Int) ≤ 18) = decide (ds.length + d.length ≤ 18) from decide_eq_decide.mpr (by simp; omega), show decide (1 < ds.length - 0) = decide (1 < ds.length) from rfl, show decide (s.size - (ds.length + 1) = 2) = decide (d.length = 2) from decide_eq_decide.mpr (by omega)]
          cases (decide (1 < ds.length) && decide (ds.head? = some 48)) <;> cases decide (ds.length + d.length ≤ 18) <;> cases sum <;> cases decide (d.length = 2) <;> rfl
        · have := spanN_le digB d
          rw [if_neg (by omega)]
          rw [show d.all digB = false from Bool.eq_false_iff.mpr fun q => h3 ((span_all d).mpr q)]
          simp
      · rw [if_neg h2, if_neg (by omega)]
        have : (decide (d ≠ []) && d.all digB) = false := by
          cases hq : (decide (d ≠ []) && d.all digB) with
          | false => rfl
          | true =>
            rw [Bool.and_eq_true, decide_eq_true_eq] at hq
            have := (span_all d).mpr hq.2
            have h9 : d.length ≠ 0 := fun q => hq.1 (List.eq_nil_of_length_eq_zero q)
            omega
        rw [this]; simp
    · rw [if_neg h1, if_neg (by omega), decide_eq_false (show ¬ ds ≠ [] from fun q => q (List.eq_nil_of_length_eq_zero (by omega)))]
      rfl
  · have hlen : s.size = ds.length + (d.length + 1) := by rw [← hl, e]; simp
    have hf := figs_app ds (c :: d) h (by rw [List.takeWhile_cons, if_neg (by simp [hc])])
    rw [if_neg (by rintro ⟨_, q⟩; exact h46 (by simpa using q))] at hf
    rw [e, hf, if_neg (by omega), numOK_app sum ds c d h hc, decide_eq_false h46]
    simp
end Go.Proofs.Ytpfnnamicbbobaa.PL
/- Plain law, part 4: the document's Number and Sum are numOK. -/
namespace Go.Proofs.Ytpfnnamicbbobaa.PL
open Go.RowKit Go.Proofs.YtpfnnamicbbobaaW.PrintWords Go.Proofs.YtpfnnamicbbobaaW.PrintMore Go.Proofs.Ytpfnnamicbbobaa.HS Go.Proofs.Ytpfnnamicbbobaa.PAll
end Go.Proofs.Ytpfnnamicbbobaa.PL
/- Plain law, part 5: texts of nodes: what the program says and what the document says. -/
namespace Go.Proofs.Ytpfnnamicbbobaa.PL
set_option linter.unusedSimpArgs false
open Go.RowKit Go.Proofs.YtpfnnamicbbobaaW.PrintWords Go.Proofs.YtpfnnamicbbobaaW.PrintMore Go.Proofs.Ytpfnnamicbbobaa.HS Go.Proofs.Ytpfnnamicbbobaa.PAll
/-- Without a % at the end. -/
def strip (s : ByteArray) : ByteArray := if 0 < s.size ∧ bt s ((s.size : Int) - 1) = 37 then s.extract 0 (s.size - 1) else s
theorem strip_le (s : ByteArray) : (strip s).size ≤ s.size := by
  unfold strip
  split
  · rw [ex_size _ _ _ (by omega)]; omega
  · exact Nat.le_refl _
theorem one_list (c x : UInt8) : (([c] : List UInt8) == [x]) = decide ((c.toNat : Int) = x.toNat) := by
  rw [Bool.eq_iff_iff, decide_eq_true_eq, beq_iff_eq]
  constructor
  · intro h; cases h; rfl
  · intro h; rw [UInt8.toNat_inj.mp (show c.toNat = x.toNat by omega)]
theorem trim_eq (s : ByteArray) (hs : s.size ≤ 9223372036854775806) : strings_TrimSuffix.f s ⟨#[37]⟩ = some (strip s) := by
  unfold strings_TrimSuffix.f stringslite_TrimSuffix.f stringslite_HasSuffix.f
  have h1 : ((⟨#[37]⟩ : ByteArray).size : Int) = 1 := rfl
  rw [h1]
  by_cases h0 : 0 < s.size
  · have hw : wrap64 ((s.size : Int) - 1) = ((s.size - 1 : Nat) : Int) := by rw [w64 _ (by omega) (by omega)]; omega
    rw [hw, if_pos (by omega), if_pos (by omega), if_pos (by omega), if_pos (by omega), if_pos (by omega), Int.toNat_natCast, Option.bind_some]
    have e : (s.extract (s.size - 1) s.size).toList = [s[s.size - 1]] := by
      rw [toList_data, ex_list _ _ _ (Nat.le_refl _), drop_at s (s.size - 1) (by omega), show s.size - (s.size - 1) = 1 by omega]; rfl
    rw [e, show (⟨#[37]⟩ : ByteArray).toList = [37] by rw [toList_data], one_list]
    have hb : bt s ((s.size : Int) - 1) = (s[s.size - 1].toNat : Int) := by rw [show ((s.size : Int) - 1) = ((s.size - 1 : Nat) : Int) by omega, bt_nat s (s.size - 1) (by omega)]
    rw [show (((37 : UInt8).toNat : Nat) : Int) = 37 from rfl]
    by_cases h2 : (s[s.size - 1].toNat : Int) = 37
    · have hst : strip s = s.extract 0 (s.size - 1) := if_pos ⟨h0, hb.trans h2⟩
      rw [hst, decide_eq_true h2]; rfl
    · have hst : strip s = s := if_neg (fun q => h2 (hb.symm.trans q.2))
      rw [hst, decide_eq_false h2]; rfl
  · rw [if_neg (by omega)]
    have hst : strip s = s := if_neg (fun q => h0 q.1)
    rw [hst]; rfl
/-- A sum, as it is written. -/
def sumOK (l : List UInt8) : Bool := decide (l.head? = some 36) && numOK true l.tail
theorem head_bt (s : ByteArray) (h0 : 0 < s.size) (c : UInt8) : decide (s.data.toList.head? = some c) = decide (bt s 0 = c.toNat) := by
  have e : s.data.toList.head? = some s[0] := by
    rw [show s.data.toList = s[0] :: s.data.toList.drop 1 by simpa using drop_at s 0 h0]; rfl
  rw [e, show bt s 0 = (s[0].toNat : Int) from bt_nat s 0 h0]
  exact decide_eq_decide.mpr ⟨fun q => by rw [Option.some.inj q], fun q => by rw [UInt8.toNat_inj.mp (show s[0].toNat = c.toNat by omega)]⟩
theorem cutp_eq (s : ByteArray) : strings_CutPrefix.f s ⟨#[36]⟩ = some (if s.data.toList.head? = some 36 then (s.extract 1 s.size, true) else (s, false)) := by
  unfold strings_CutPrefix.f stringslite_CutPrefix.f stringslite_HasPrefix.f
  have h1 : ((⟨#[36]⟩ : ByteArray).size : Int) = 1 := rfl
  rw [h1]
  by_cases h0 : 0 < s.size
  · rw [if_pos (by omega), if_pos (by omega), if_pos (by omega), if_pos (by omega), Option.bind_some]
    have e : (s.extract 0 ((1 : Int).toNat)).toList = [s[0]] := by
      rw [toList_data, ex_list _ _ _ (by show 1 ≤ s.size; omega), drop_at s 0 (by omega)]; rfl
    rw [e, show (⟨#[36]⟩ : ByteArray).toList = [36] by rw [toList_data], one_list]
    have hd := head_bt s h0 36
    rw [show bt s 0 = (s[0].toNat : Int) from bt_nat s 0 h0] at hd
    rw [← hd]
    by_cases h2 : s.data.toList.head? = some 36
    · rw [if_pos h2, decide_eq_true h2, if_pos rfl, if_pos (by omega)]; rfl
    · rw [if_neg h2, decide_eq_false h2]; rfl
  · rw [if_neg (by omega), Option.bind_some]
    have : s.data.toList = [] := List.eq_nil_of_length_eq_zero (by rw [lsize]; omega)
    rw [this]; rfl
end Go.Proofs.Ytpfnnamicbbobaa.PL
/- Plain law, part 6: nodes. -/
namespace Go.Proofs.Ytpfnnamicbbobaa.PL
set_option linter.unusedSimpArgs false
open Go.RowKit Go.Proofs.YtpfnnamicbbobaaW.PrintWords Go.Proofs.YtpfnnamicbbobaaW.PrintMore Go.Proofs.Ytpfnnamicbbobaa.HS Go.Proofs.Ytpfnnamicbbobaa.PAll
def wordOK (s : ByteArray) : Bool := named s.data.toList && !Ytpfnnamicbbobaa.HB.keptB s
def textOK (op : Int) (s : ByteArray) : Bool := if op = 1 then numOK false (strip s).data.toList else if op = 2 then sumOK s.data.toList else if op = 5 then wordOK s else (s.toList == ([] : List UInt8))
/-- How many parts; -1: as many as it says, one at least. -/
def pcount (op : Int) : Int := if 1 ≤ op ∧ op ≤ 5 then 0 else if op = 6 ∨ op = 7 then 1 else if op = 20 then 3 else if op = 21 ∨ op = 22 then -1 else 2
def nodeOK (op n : Int) (s : ByteArray) : Bool := (decide (1 ≤ op ∧ op ≤ 23) && (decide (0 ≤ pcount op ∧ n = pcount op) || decide (pcount op < 0 ∧ 1 ≤ n))) && textOK op s
theorem parts_ev (op : Int) : Ev (fun k => clause_parts.f k op) (pcount op) := by
  unfold clause_parts.f
  have last : ¬ (1 ≤ op ∧ op ≤ 5) → Ev (fun k => clause_parts.j0 k op false) (pcount op) := by
    intro h
    refine Ev.step (fun k => by rw [clause_parts.j0]) ?_
    unfold pcount
    rw [if_neg h]
    by_cases h6 : op = 6
    · simp only [if_pos h6]
      refine Ev.step (fun k => by rw [clause_parts.j1]) ?_
      subst h6
      exact Ev.const
    · simp only [if_neg h6]
      refine Ev.step (fun k => by rw [clause_parts.j1]) ?_
      by_cases h7 : op = 7
      · subst h7; exact Ev.const
      · simp only [beq_eq_false_iff_ne.mpr h7, Bool.false_eq_true, if_false]
        rw [if_neg (show ¬ (op = 6 ∨ op = 7) by omega)]
        by_cases h20 : op = 20
        · simp only [if_pos h20]; exact Ev.const
        · simp only [if_neg h20]
          by_cases h21 : op = 21
          · simp only [if_pos h21]; rw [if_pos (.inl h21)]; exact Ev.const
          · simp only [if_neg h21]
            by_cases h22 : op = 22
            · simp only [if_pos h22]; rw [if_pos (.inr h22)]; exact Ev.const
            · simp only [if_neg h22]; rw [if_neg (by omega)]; exact Ev.const
  by_cases h : 1 ≤ op ∧ op ≤ 5
  · have first : Ev (fun k => clause_parts.j0 k op true) (pcount op) := by
      refine Ev.step (fun k => by rw [clause_parts.j0]) ?_
      unfold pcount
      rw [if_pos h]
      exact Ev.const
    have : op = 1 ∨ op = 2 ∨ op = 3 ∨ op = 4 ∨ op = 5 := by omega
    rcases this with rfl | rfl | rfl | rfl | rfl <;> exact first
  · simp only [if_neg (show ¬ op = 1 by omega), if_neg (show ¬ op = 2 by omega), if_neg (show ¬ op = 3 by omega), if_neg (show ¬ op = 4 by omega), beq_eq_false_iff_ne.mpr (show op ≠ 5 by omega)]
    exact last h
/-- Words between blanks. -/
def joined : List (List UInt8) → List UInt8
  | [] => [32]
  | w :: r => 32 :: (w ++ joined r)
def no32 (l : List UInt8) : Bool := l.all fun c => c != 32
theorem joined_head (ws : List (List UInt8)) : ∃ R, joined ws = 32 :: R := by cases ws <;> exact ⟨_, rfl⟩
theorem pre_eq : ∀ (s w R : List UInt8), no32 s = true → no32 w = true → (s ++ [32]).isPrefixOf (w ++ 32 :: R) = (w == s)
  | [], [], R, _, _ => by simp [List.isPrefixOf]
  | [], d :: w, R, _, hw => by
    rw [no32, List.all_cons, Bool.and_eq_true] at hw
    have : (32 == d) = false := by rw [beq_eq_false_iff_ne]; intro e; rw [← e] at hw; exact absurd hw.1 (by decide)
    simp [List.isPrefixOf, this]
  | c :: s, [], R, hs, _ => by
    rw [no32, List.all_cons, Bool.and_eq_true] at hs
    have : (c == 32) = false := by rw [beq_eq_false_iff_ne]; intro e; rw [e] at hs; exact absurd hs.1 (by decide)
    simp [List.isPrefixOf, this]
  | c :: s, d :: w, R, hs, hw => by
    rw [no32, List.all_cons, Bool.and_eq_true] at hs hw
    have ih := pre_eq s w R hs.2 hw.2
    rw [List.cons_append, List.cons_append, List.isPrefixOf, ih, List.cons_beq_cons, Bool.beq_comm (a := c) (b := d)]
theorem has_cons (b : UInt8) (l sub : List UInt8) : Lib.contains (b :: l) sub = (sub.isPrefixOf (b :: l) || Lib.contains l sub) := by
  unfold Lib.contains
  rw [Lib.index]
  have := Lib.index_ge l sub
  split
  · rename_i h; rw [h]; rfl
  · rename_i h
    rw [Bool.eq_false_iff.mpr h, Bool.false_or]
    split
    · rename_i h2; rw [beq_iff_eq] at h2; rw [h2]
    · rename_i h2; rw [beq_iff_eq] at h2; exact decide_eq_decide.mpr (by omega)
theorem has_skip (s : List UInt8) : ∀ (w l : List UInt8), no32 w = true → Lib.contains (w ++ l) (32 :: s) = Lib.contains l (32 :: s)
  | [], l, _ => rfl
  | d :: w, l, hw => by
    rw [no32, List.all_cons, Bool.and_eq_true] at hw
    have : (32 == d) = false := by rw [beq_eq_false_iff_ne]; intro e; rw [← e] at hw; exact absurd hw.1 (by decide)
    rw [List.cons_append, has_cons, has_skip s w l hw.2, List.isPrefixOf, this]; rfl
theorem has_joined (s : List UInt8) (hs : no32 s = true) : ∀ ws : List (List UInt8), (ws.all no32) = true → Lib.contains (joined ws) (32 :: (s ++ [32])) = ws.any fun w => w == s
  | [], _ => by
    cases s with
    | nil => rfl
    | cons c t =>
      rw [joined, has_cons]
      simp [List.isPrefixOf, Lib.contains, Lib.index]
  | w :: r, h => by
    rw [List.all_cons, Bool.and_eq_true] at h
    obtain ⟨R, hR⟩ := joined_head r
    rw [joined, has_cons, has_skip _ w _ h.1, has_joined s hs r h.2, List.any_cons]
    rw [hR, List.isPrefixOf, pre_eq s w R hs h.1]
    rfl
theorem no32_inn (l : List UInt8) (h : l.all innB = true) : no32 l = true := by
  rw [List.all_eq_true] at h
  unfold no32
  rw [List.all_eq_true]
  intro c hc
  have := h c hc
  rw [bne_iff_ne]
  intro e
  subst e
  exact absurd this (by decide)
theorem named_small (s : ByteArray) (h : named s.data.toList = true) : s.size ≤ 24 ∧ no32 s.data.toList = true := by
  by_cases h0 : 0 < s.size
  · rw [named_eq s _ h0 rfl, Bool.and_eq_true, Bool.and_eq_true, decide_eq_true_eq] at h
    exact ⟨h.1, no32_inn _ h.2.2⟩
  · rw [named_nil s h0] at h; cases h
theorem kept_eq (s : ByteArray) (h : no32 s.data.toList = true) : Lib.contains Ytpfnnamicbbobaa.HB.keptText (32 :: (s.data.toList ++ [32])) = Ytpfnnamicbbobaa.HB.keptB s := by
  have e : Ytpfnnamicbbobaa.HB.keptText = joined (Ytpfnnamicbbobaa.HB.keptWs.map fun x => x.data.toList) := by decide
  rw [e, has_joined _ h _ (by decide), List.any_map]
  unfold Ytpfnnamicbbobaa.HB.keptB
  congr 1
  funext x
  simp only [Function.comp, toList_data]
theorem word_eq (s : ByteArray) (hs : s.size ≤ 9223372036854775806) : clause_word.f s = some (wordOK s) := by
  unfold clause_word.f clause_named.f
  rw [if_pos (by omega), Option.bind_some]
  unfold wordOK
  cases h : named s.data.toList with
  | false => rfl
  | true =>
    have hn := named_small s h
    rw [if_pos rfl]
    unfold clause_isKept.f
    rw [if_pos hn.1, Option.bind_some, kept_eq s hn.2]
    rfl
theorem text_eq (op n : Int) (s : ByteArray) (hs : s.size ≤ 9223372036854775806) : clause_text.f op n s = some (textOK op s) := by
  unfold clause_text.f textOK
  have hst := strip_le s
  by_cases h1 : op = 1
  · rw [if_pos h1, if_pos h1, trim_eq s hs, Option.bind_some, number_eq _ false (by omega)]; rfl
  · rw [if_neg h1, if_neg h1]
    by_cases h2 : op = 2
    · rw [if_pos h2, if_pos h2, cutp_eq s, Option.bind_some]
      unfold sumOK
      by_cases h3 : s.data.toList.head? = some 36
      · rw [if_pos h3, decide_eq_true h3, Bool.true_and]
        have hx : 0 < s.size := by
          by_cases h0 : 0 < s.size
          · exact h0
          · rw [show s.data.toList = [] from List.eq_nil_of_length_eq_zero (by rw [lsize]; omega)] at h3; cases h3
        show (if true = true then (clause_number.f (s.extract 1 s.size) true).bind fun t => some t else some false) = _
        rw [if_pos rfl, number_eq _ true (by rw [ex_size _ _ _ (Nat.le_refl _)]; omega), ex_list _ _ _ (Nat.le_refl _), List.take_of_length_le (by rw [List.length_drop, lsize]; omega), List.drop_one]; rfl
      · rw [if_neg h3, decide_eq_false h3]; rfl
    · rw [if_neg h2, if_neg h2]
      by_cases h5 : op = 5
      · rw [if_pos h5, if_pos h5, word_eq s hs]; rfl
      · rw [if_neg h5, if_neg h5]
theorem node_ev (op n : Int) (s : ByteArray) (hs : s.size ≤ 9223372036854775806) : Ev (fun k => clause_node.f k op n s) (nodeOK op n s) := by
  unfold clause_node.f
  refine Ev.bind (parts_ev op) ?_
  simp only [text_eq op n s hs, Option.bind_some]
  unfold nodeOK
  by_cases h1 : op ≥ 1
  · by_cases h2 : op ≤ 23
    · rw [decide_eq_true (show 1 ≤ op ∧ op ≤ 23 from ⟨h1, h2⟩), Bool.true_and]
      simp only [if_pos h1, if_pos h2]
      by_cases h3 : pcount op ≥ 0
      · simp only [if_pos h3, if_neg (show ¬ pcount op < 0 by omega)]
        rw [decide_eq_false (show ¬ (pcount op < 0 ∧ 1 ≤ n) by omega), Bool.or_false]
        by_cases h4 : n = pcount op
        · simp only [if_pos h4]; rw [decide_eq_true ⟨h3, h4⟩, Bool.true_and]; exact Ev.const
        · simp only [if_neg h4]; rw [decide_eq_false (fun q => h4 q.2), Bool.false_and]; exact Ev.const
      · simp only [if_neg h3, if_pos (show pcount op < 0 by omega)]
        rw [decide_eq_false (show ¬ (0 ≤ pcount op ∧ n = pcount op) by omega), Bool.false_or]
        by_cases h4 : n ≥ 1
        · simp only [if_pos h4]; rw [decide_eq_true (show pcount op < 0 ∧ 1 ≤ n by omega), Bool.true_and]; exact Ev.const
        · simp only [if_neg h4]; rw [decide_eq_false (show ¬ (pcount op < 0 ∧ 1 ≤ n) by omega), Bool.false_and]; exact Ev.const
    · simp only [if_pos h1, if_neg h2]
      rw [decide_eq_false (fun q => h2 q.2), Bool.false_and, Bool.false_and]; exact Ev.const
  · simp only [if_neg h1]
    rw [decide_eq_false (fun q => h1 q.1), Bool.false_and, Bool.false_and]; exact Ev.const
end Go.Proofs.Ytpfnnamicbbobaa.PL
/- Plain law, part 7: whole formulas: clause.CheckFormula and the document's. -/
namespace Go.Proofs.Ytpfnnamicbbobaa.PL
set_option linter.unusedSimpArgs false
open Go.RowKit Go.Proofs.YtpfnnamicbbobaaW.PrintWords Go.Proofs.YtpfnnamicbbobaaW.PrintMore Go.Proofs.Ytpfnnamicbbobaa.HS Go.Proofs.Ytpfnnamicbbobaa.PAll
abbrev Nd := S56
/-- Texts are no longer than a memory bears. -/
def small (l : List Nd) : Prop := ∀ x ∈ l, x.f2.size ≤ 9223372036854775806
def mxs (b : Int) (l : List Int) : Int := l.foldl mx b
/-- How deep the formulas on the stack are; none: a node is wrong. -/
def wgo : List Nd → List Int → Option (List Int)
  | [], st => some st
  | x :: r, st => if nodeOK x.f0 x.f1 x.f2 = true ∧ x.f1 ≤ st.length then wgo r (st.take (st.length - x.f1.toNat) ++ [wrap64 (mxs 0 (st.drop (st.length - x.f1.toNat)) + 1)]) else none
def wres : Option (List Int) → Int × Bool
  | some [d] => (d, true)
  | _ => (0, false)
theorem nodeOK_n (op n : Int) (s : ByteArray) (h : nodeOK op n s = true) : 0 ≤ n := by
  unfold nodeOK at h
  simp only [Bool.and_eq_true, Bool.or_eq_true, decide_eq_true_eq] at h
  omega
theorem rd_drop (l : List Nd) (j : Nat) (h : j < l.length) : l.drop j = rd_T56 l (j : Int) :: l.drop (j + 1) := by
  rw [List.drop_eq_getElem_cons h]
  simp [rd_T56, List.getD_eq_getElem?_getD, h]
theorem rd_mem (l : List Nd) (j : Nat) (h : j < l.length) : rd_T56 l (j : Int) ∈ l := by
  have := List.mem_of_mem_drop (rd_drop l j h ▸ List.mem_cons_self)
  exact this
theorem rdi_drop (l : List Int) (j : Nat) (h : j < l.length) : l.drop j = rd l (j : Int) :: l.drop (j + 1) := by
  rw [List.drop_eq_getElem_cons h]
  simp [rd, List.getD_eq_getElem?_getD, h]
theorem succ64 (j n : Nat) (h : j < n) (hn : n ≤ 9223372036854775807) : wrap64 ((j : Int) + 1) = ((j + 1 : Nat) : Int) := by rw [w64 _ (by omega) (by omega)]; rfl
section
variable (l : List Nd) (hl : l.length ≤ 8796093022208)
theorem whole_l1 (st : List Int) (j : Nat) (x0 x1 : Int) (x2 : ByteArray) (V : Int × Bool) (h1 : 0 ≤ x1) (h2 : x1 ≤ st.length) (hst : st.length ≤ 8796093022208) (ys : List Int) (hys : ys.length ≤ 8796093022208) :
    ∀ (m i : Nat) (b : Int), ys.length - i = m → i ≤ ys.length → Ev (fun k => clause_whole.l0 k (st.take (st.length - x1.toNat) ++ [wrap64 (mxs b (ys.drop i) + 1)]) l (l.length : Int) (wrap64 ((j : Int) + 1))) V →
    Ev (fun k => clause_whole.l1 k st b l (l.length : Int) (j : Int) ys (ys.length : Int) (i : Int) x0 x1 x2) V := by
  intro m
  induction m with
  | zero =>
    intro i b hm hi h
    rw [List.drop_eq_nil_of_le (by omega)] at h
    refine Ev.step (fun k => by rw [clause_whole.l1]) ?_
    have hw : wrap64 ((st.length : Int) - x1) = ((st.length - x1.toNat : Nat) : Int) := by rw [w64 _ (by omega) (by omega)]; omega
    simp only [if_neg (show ¬ (i : Int) < (ys.length : Int) by omega), hw, if_pos (show (0 : Int) ≤ ((st.length - x1.toNat : Nat) : Int) by omega), if_pos (show ((st.length - x1.toNat : Nat) : Int) ≤ (st.length : Int) by omega), Int.toNat_natCast, Option.bind_some,
      if_pos (show (st.take (st.length - x1.toNat)).length < 17592186044416 by rw [List.length_take]; omega)]
    exact h
  | succ m ih =>
    intro i b hm hi h
    have hlt : i < ys.length := by omega
    rw [rdi_drop ys i hlt] at h
    have := ih (i + 1) (mx b (rd ys i)) (by omega) (by omega) h
    refine Ev.step (fun k => by rw [clause_whole.l1]) ?_
    simp only [if_pos (show (i : Int) < (ys.length : Int) by omega), if_pos (show (0 : Int) ≤ (i : Int) by omega), succ64 i _ hlt (by omega)]
    exact this
include hl in
theorem whole_l (hs : small l) : ∀ (m j : Nat) (st : List Int), l.length - j = m → j ≤ l.length → st.length ≤ j → Ev (fun k => clause_whole.l0 k st l (l.length : Int) (j : Int)) (wres (wgo (l.drop j) st)) := by
  intro m
  induction m with
  | zero =>
    intro j st hm hj hst
    rw [List.drop_eq_nil_of_le (by omega)]
    refine Ev.step (fun k => by rw [clause_whole.l0]) ?_
    simp only [if_neg (show ¬ (j : Int) < (l.length : Int) by omega)]
    match st with
    | [] => exact Ev.const
    | [d] => exact Ev.const
    | a :: b :: r =>
      simp only [if_neg (show ¬ (((a :: b :: r : List Int).length : Nat) : Int) = 1 by simp; omega)]
      exact Ev.const
  | succ m ih =>
    intro j st hm hj hst
    have hlt : j < l.length := by omega
    have hmem := rd_mem l j hlt
    rw [rd_drop l j hlt]
    refine Ev.step (fun k => by rw [clause_whole.l0]) ?_
    generalize hx : rd_T56 l (j : Int) = x at hmem ⊢
    simp only [if_pos (show (j : Int) < (l.length : Int) by omega), if_pos (show (0 : Int) ≤ (j : Int) by omega), hx]
    refine Ev.bind (node_ev x.f0 x.f1 x.f2 (hs x hmem)) ?_
    unfold wgo
    have no : Ev (fun k => clause_whole.j1 k st l (l.length : Int) (j : Int) true x.f0 x.f1 x.f2) (0, false) := by
      refine Ev.step (fun k => by rw [clause_whole.j1]) ?_
      exact Ev.const
    cases hn : nodeOK x.f0 x.f1 x.f2 with
    | false =>
      rw [if_neg (by simp)]
      exact no
    | true =>
      have h0 := nodeOK_n _ _ _ hn
      by_cases h1 : x.f1 ≤ st.length
      · rw [if_pos ⟨rfl, h1⟩, decide_eq_false (show ¬ x.f1 > (st.length : Int) by omega)]
        simp only [if_true]
        refine Ev.step (fun k => by rw [clause_whole.j1]) ?_
        have hw : wrap64 ((st.length : Int) - x.f1) = ((st.length - x.f1.toNat : Nat) : Int) := by rw [w64 _ (by omega) (by omega)]; omega
        simp only [Bool.false_eq_true, if_false, hw, if_pos (show (0 : Int) ≤ ((st.length - x.f1.toNat : Nat) : Int) by omega), if_pos (show ((st.length - x.f1.toNat : Nat) : Int) ≤ (st.length : Int) by omega), Int.toNat_natCast, Option.bind_some]
        refine whole_l1 l st j x.f0 x.f1 x.f2 _ h0 h1 (by omega) _ (by rw [List.length_drop]; omega) _ 0 0 rfl (by omega) ?_
        rw [List.drop_zero, succ64 j _ hlt (by omega)]
        exact ih (j + 1) _ (by omega) (by omega) (by rw [List.length_append, List.length_take, List.length_singleton]; omega)
      · rw [if_neg (fun q => h1 q.2), decide_eq_true (show x.f1 > (st.length : Int) by omega)]
        exact no
include hl in
theorem whole_ev (hs : small l) : Ev (fun k => clause_whole.f k l) (wres (wgo l [])) := by
  unfold clause_whole.f
  exact whole_l l hl hs l.length 0 [] (by omega) (by omega) (by simp)
include hl in
include hl in
end
/-- What CheckFormula says. -/
def checkF (l : List Nd) : Int := if l.length > 1024 then 3 else if (wres (wgo l [])).2 = true then (if mx 0 (wres (wgo l [])).1 > 64 then 173 else 0) else 5
theorem check_ev (l : List Nd) (hs : small l) : Ev (fun k => clause_CheckFormula.f k l) (checkF l) := by
  unfold clause_CheckFormula.f clause_worst.f checkF
  by_cases h : l.length > 1024
  · rw [if_pos h, decide_eq_true (show (l.length : Int) > 1024 by omega)]
    exact Ev.const
  · rw [if_neg h, decide_eq_false (show ¬ (l.length : Int) > 1024 by omega)]
    simp only [Bool.false_eq_true, if_false]
    have hw := whole_ev l (by omega) hs
    refine Ev.bind (v := _) (h := fun _ t => some t) ?_ Ev.const
    refine Ev.step (fun k => by rw [clause_worst.l0]) ?_
    simp only [show ((([l] : List (List Nd)).length : Nat) : Int) = 1 from rfl, if_pos (show (0 : Int) < 1 by omega), if_pos (show (0 : Int) ≤ 0 by omega), show rd_L23 [l] 0 = l from rfl]
    refine Ev.bind hw ?_
    cases hb : (wres (wgo l [])).2 with
    | false => exact Ev.const
    | true =>
      simp only [if_true]
      refine Ev.step (fun k => by rw [clause_worst.l0]) ?_
      simp only [show wrap64 (0 + 1) = 1 by rw [w64 _ (by omega) (by omega)]; rfl, if_neg (show ¬ (1 : Int) < 1 by omega)]
      by_cases h2 : mx 0 (wres (wgo l [])).1 > 64
      · simp only [if_pos h2]; exact Ev.const
      · simp only [if_neg h2]; exact Ev.const
end Go.Proofs.Ytpfnnamicbbobaa.PL
/- Plain law, part 8: the chapter's two examples; copies; the same formulas. -/
namespace Go.Proofs.Ytpfnnamicbbobaa.PL
set_option linter.unusedSimpArgs false
open Go.RowKit Go.Proofs.YtpfnnamicbbobaaW.PrintWords Go.Proofs.YtpfnnamicbbobaaW.PrintMore Go.Proofs.Ytpfnnamicbbobaa.HS Go.Proofs.Ytpfnnamicbbobaa.PAll
theorem works_60 : tontinelaw18_works.f 60 = some true := by kernel_rfl
theorem works_ev : Ev (fun k => tontinelaw18_works.f k) true := Ev.of (tontinelaw18_works.mono) works_60
theorem checkF_len (l : List Nd) (h : checkF l = 0) : l.length ≤ 1024 := by
  unfold checkF at h
  split at h
  · cases h
  · omega
end Go.Proofs.Ytpfnnamicbbobaa.PL
/- Plain law, part 9: Put. -/
namespace Go.Proofs.Ytpfnnamicbbobaa.PL
set_option linter.unusedSimpArgs false
open Go.RowKit Go.Proofs.YtpfnnamicbbobaaW.PrintWords Go.Proofs.YtpfnnamicbbobaaW.PrintMore Go.Proofs.Ytpfnnamicbbobaa.HS Go.Proofs.Ytpfnnamicbbobaa.PAll
section
variable (l : List Nd) (w : ByteArray) (g : List Nd) (hl : l.length ≤ 1024) (hs : small l) (hgl : g.length ≤ 1024) (hg : small g)
include hl hs hgl hg
end
end Go.Proofs.Ytpfnnamicbbobaa.PL
/- Plain law, part 10: the type of a node: kind.node answers what the document's made does. -/
namespace Go.Proofs.Ytpfnnamicbbobaa.PL
set_option linter.unusedSimpArgs false
open Go.RowKit Go.Proofs.YtpfnnamicbbobaaW.PrintWords Go.Proofs.YtpfnnamicbbobaaW.PrintMore Go.Proofs.Ytpfnnamicbbobaa.HS Go.Proofs.Ytpfnnamicbbobaa.PAll Go.Proofs.Ytpfnnamicbbobaa.HD
theorem plain_eq (a : Int) : kind_plain.f a = some (calcB a) := by
  unfold kind_plain.f calcB
  by_cases h : a = 1
  · simp [h]
  · simp [h]
theorem when_eq (b : Bool) (t : Int) : kind_when.f b t = some (whenS b t) := by
  unfold kind_when.f whenS
  cases b <;> rfl
theorem product_eq (k : Nat) (a b : Int) : kind_product.f (k + 1) a b = some (mul2 a b) := by
  unfold kind_product.f mul2 whenS
  simp only [kind_product.j0, plain_eq, calcB, Option.bind_some]
  by_cases h1 : a = 1 <;> by_cases h2 : b = 1 <;> by_cases h3 : a = 2 <;> by_cases h4 : b = 2 <;> simp [h1, h2, h3, h4] <;> (try omega)
theorem quotient_eq (k : Nat) (a b : Int) : kind_quotient.f (k + 1) a b = some (div2 a b) := by
  unfold kind_quotient.f div2 whenS
  simp only [kind_quotient.j0, plain_eq, calcB, Option.bind_some]
  by_cases h1 : a = 1 <;> by_cases h2 : b = 1 <;> by_cases h3 : a = 2 <;> by_cases h4 : b = 2 <;> simp [h1, h2, h3, h4] <;> (try omega)
theorem alike_eq (a : Int) (r : List Int) : kind_alike.f (a :: r) = some (calcB a && !(r.any fun x => x != a)) := by
  unfold kind_alike.f Ytpfnnamicbbobaa.HC.odd calcB
  simp
theorem most_eq (a : Int) (r : List Int) : mostN a (a :: r) = whenS (calcB a && !(r.any fun x => x != a)) a := by
  unfold mostN whenS
  cases h : (r.any fun x => x != a) <;> simp [h, whenS]
theorem rd0 (a : Int) (r : List Int) : rd (a :: r) 0 = a := rfl
theorem rd1 (a b : Int) (r : List Int) : rd (a :: b :: r) 1 = b := rfl
theorem rd2 (a b c : Int) (r : List Int) : rd (a :: b :: c :: r) 2 = c := rfl
theorem pos1 (a : Int) (r : List Int) : (0 : Int) < (((a :: r : List Int).length : Nat) : Int) := by rw [List.length_cons]; omega
theorem pos2 (a b : Int) (r : List Int) : (1 : Int) < (((a :: b :: r : List Int).length : Nat) : Int) := by rw [List.length_cons, List.length_cons]; omega
theorem pos3 (a b c : Int) (r : List Int) : (2 : Int) < (((a :: b :: c :: r : List Int).length : Nat) : Int) := by rw [List.length_cons, List.length_cons, List.length_cons]; omega
theorem bne2 (a b : Int) : (!(b != a)) = (b == a) := by unfold bne; simp
theorem beq_sw (a b : Int) : (a == b) = (b == a) := by
  rw [Bool.eq_iff_iff, beq_iff_eq, beq_iff_eq]
  exact eq_comm
/-- The type of a node by those of its parts. -/
def madeS (a0 : Int) (l1 : List Int) : Option Int :=
  match l1 with
  | [] => if a0 = 1 then some (1) else if a0 = 2 then some (2) else if a0 = 3 then some (3) else if a0 = 4 then some (3) else none
  | [a] => if a0 = 6 then some (whenS (calcB a) a) else if a0 = 7 then some (whenS (a == 3) 3) else if a0 = 21 ∨ a0 = 22 then some (mostN a l1) else none
  | [a, b] => if a0 = 8 then some (mul2 a b) else if a0 = 9 then some (div2 a b) else if a0 = 10 then some (whenS (calcB a && b == a) a) else if a0 = 11 then some (whenS (calcB a && b == a) a) else if a0 = 12 then some (whenS (calcB a && b == a) 3) else if a0 = 13 then some (whenS (calcB a && b == a) 3) else if a0 = 14 then some (whenS (calcB a && b == a) 3) else if a0 = 15 then some (whenS (calcB a && b == a) 3) else if a0 = 16 then some (whenS (b == a) 3) else if a0 = 17 then some (whenS (b == a) 3) else if a0 = 18 then some (whenS (a == 3 && b == 3) 3) else if a0 = 19 then some (whenS (a == 3 && b == 3) 3) else if a0 = 23 then some (whenS (calcB a && b == a) a) else if a0 = 21 ∨ a0 = 22 then some (mostN a l1) else none
  | [a, b, d] => if a0 = 20 then some (whenS (a == 3 && d == b) b) else if a0 = 21 ∨ a0 = 22 then some (mostN a l1) else none
  | a :: _ :: _ :: _ :: _ => if a0 = 21 ∨ a0 = 22 then some (mostN a l1) else none
theorem node_is (op : Int) (l : List Int) (t : Int) (h : madeS op l = some t) : kind_node.f 6 op l = some t := by
  unfold madeS at h
  match l with
  | [] =>
    have hc : op = 1 ∨ op = 2 ∨ op = 3 ∨ op = 4 ∨ (op ≠ 1 ∧ op ≠ 2 ∧ op ≠ 3 ∧ op ≠ 4) := by omega
    rcases hc with rfl | rfl | rfl | rfl | hne
    all_goals first
      | (simp only [Int.reduceEq, ↓reduceIte, or_true, true_or, or_false, false_or, reduceCtorEq] at h; done)
      | (simp only [Int.reduceEq, ↓reduceIte, or_true, true_or, or_false, false_or] at h
         obtain rfl := Option.some.inj h
         simp [kind_node.f, kind_node.j0, kind_node.j1, kind_node.j2, kind_node.j3, when_eq, product_eq, quotient_eq, alike_eq, most_eq, rd0, rd1, rd2, pos1, pos2, pos3, bne2] <;> first | omega | (rw [beq_sw]; done) | (by_cases q : a = 3 <;> simp [q, beq_sw b d, whenS]) | (by_cases q : a = 3 <;> simp [q, whenS]))
      | (exfalso; revert h; simp [hne])
  | [a] =>
    have hc : op = 6 ∨ op = 7 ∨ op = 21 ∨ op = 22 ∨ (op ≠ 6 ∧ op ≠ 7 ∧ op ≠ 21 ∧ op ≠ 22) := by omega
    rcases hc with rfl | rfl | rfl | rfl | hne
    all_goals first
      | (simp only [Int.reduceEq, ↓reduceIte, or_true, true_or, or_false, false_or, reduceCtorEq] at h; done)
      | (simp only [Int.reduceEq, ↓reduceIte, or_true, true_or, or_false, false_or] at h
         obtain rfl := Option.some.inj h
         simp [kind_node.f, kind_node.j0, kind_node.j1, kind_node.j2, kind_node.j3, when_eq, product_eq, quotient_eq, alike_eq, most_eq, rd0, rd1, rd2, pos1, pos2, pos3, bne2] <;> first | omega | (rw [beq_sw]; done) | (by_cases q : a = 3 <;> simp [q, beq_sw b d, whenS]) | (by_cases q : a = 3 <;> simp [q, whenS]))
      | (exfalso; revert h; simp [hne])
  | [a, b] =>
    have hc : op = 8 ∨ op = 9 ∨ op = 10 ∨ op = 11 ∨ op = 12 ∨ op = 13 ∨ op = 14 ∨ op = 15 ∨ op = 16 ∨ op = 17 ∨ op = 18 ∨ op = 19 ∨ op = 21 ∨ op = 22 ∨ op = 23 ∨ (op ≠ 8 ∧ op ≠ 9 ∧ op ≠ 10 ∧ op ≠ 11 ∧ op ≠ 12 ∧ op ≠ 13 ∧ op ≠ 14 ∧ op ≠ 15 ∧ op ≠ 16 ∧ op ≠ 17 ∧ op ≠ 18 ∧ op ≠ 19 ∧ op ≠ 21 ∧ op ≠ 22 ∧ op ≠ 23) := by omega
    rcases hc with rfl | rfl | rfl | rfl | rfl | rfl | rfl | rfl | rfl | rfl | rfl | rfl | rfl | rfl | rfl | hne
    all_goals first
      | (simp only [Int.reduceEq, ↓reduceIte, or_true, true_or, or_false, false_or, reduceCtorEq] at h; done)
      | (simp only [Int.reduceEq, ↓reduceIte, or_true, true_or, or_false, false_or] at h
         obtain rfl := Option.some.inj h
         simp [kind_node.f, kind_node.j0, kind_node.j1, kind_node.j2, kind_node.j3, when_eq, product_eq, quotient_eq, alike_eq, most_eq, rd0, rd1, rd2, pos1, pos2, pos3, bne2] <;> first | omega | (rw [beq_sw]; done) | (by_cases q : a = 3 <;> simp [q, beq_sw b d, whenS]) | (by_cases q : a = 3 <;> simp [q, whenS]))
      | (exfalso; revert h; simp [hne])
  | [a, b, d] =>
    have hc : op = 20 ∨ op = 21 ∨ op = 22 ∨ (op ≠ 20 ∧ op ≠ 21 ∧ op ≠ 22) := by omega
    rcases hc with rfl | rfl | rfl | hne
    all_goals first
      | (simp only [Int.reduceEq, ↓reduceIte, or_true, true_or, or_false, false_or, reduceCtorEq] at h; done)
      | (simp only [Int.reduceEq, ↓reduceIte, or_true, true_or, or_false, false_or] at h
         obtain rfl := Option.some.inj h
         simp [kind_node.f, kind_node.j0, kind_node.j1, kind_node.j2, kind_node.j3, when_eq, product_eq, quotient_eq, alike_eq, most_eq, rd0, rd1, rd2, pos1, pos2, pos3, bne2] <;> first | omega | (rw [beq_sw]; done) | (by_cases q : a = 3 <;> simp [q, beq_sw b d, whenS]) | (by_cases q : a = 3 <;> simp [q, whenS]))
      | (exfalso; revert h; simp [hne])
  | a :: b :: d :: e :: r =>
    have hc : op = 21 ∨ op = 22 ∨ (op ≠ 21 ∧ op ≠ 22) := by omega
    rcases hc with rfl | rfl | hne
    all_goals first
      | (simp only [Int.reduceEq, ↓reduceIte, or_true, true_or, or_false, false_or, reduceCtorEq] at h; done)
      | (simp only [Int.reduceEq, ↓reduceIte, or_true, true_or, or_false, false_or] at h
         obtain rfl := Option.some.inj h
         simp [kind_node.f, kind_node.j0, kind_node.j1, kind_node.j2, kind_node.j3, when_eq, product_eq, quotient_eq, alike_eq, most_eq, rd0, rd1, rd2, pos1, pos2, pos3, bne2] <;> first | omega | (rw [beq_sw]; done) | (by_cases q : a = 3 <;> simp [q, beq_sw b d, whenS]) | (by_cases q : a = 3 <;> simp [q, whenS]))
      | (exfalso; revert h; simp [hne])
/-- The type of a right node, by those of its parts. -/
def typ (op : Int) (l : List Int) : Int := (madeS op l).getD 0
theorem made_some (op n : Int) (s : ByteArray) (l : List Int) (hn : nodeOK op n s = true) (h5 : op ≠ 5) (hl : (l.length : Int) = n) : madeS op l = some (typ op l) := by
  unfold nodeOK at hn
  simp only [Bool.and_eq_true, Bool.or_eq_true, decide_eq_true_eq] at hn
  obtain ⟨⟨⟨g1, g2⟩, g3⟩, -⟩ := hn
  suffices h : ∃ t, madeS op l = some t by
    obtain ⟨t, h⟩ := h
    unfold typ
    rw [h]; rfl
  have hc : op = 1 ∨ op = 2 ∨ op = 3 ∨ op = 4 ∨ op = 6 ∨ op = 7 ∨ op = 8 ∨ op = 9 ∨ op = 10 ∨ op = 11 ∨ op = 12 ∨ op = 13 ∨ op = 14 ∨ op = 15 ∨ op = 16 ∨ op = 17 ∨ op = 18 ∨ op = 19 ∨ op = 20 ∨ op = 21 ∨ op = 22 ∨ op = 23 := by omega
  match l with
  | [] => rcases hc with rfl | rfl | rfl | rfl | rfl | rfl | rfl | rfl | rfl | rfl | rfl | rfl | rfl | rfl | rfl | rfl | rfl | rfl | rfl | rfl | rfl | rfl <;> simp [pcount] at g3 hl <;> first | omega | exact ⟨_, rfl⟩
  | [a] => rcases hc with rfl | rfl | rfl | rfl | rfl | rfl | rfl | rfl | rfl | rfl | rfl | rfl | rfl | rfl | rfl | rfl | rfl | rfl | rfl | rfl | rfl | rfl <;> simp [pcount] at g3 hl <;> first | omega | exact ⟨_, rfl⟩
  | [a, b] => rcases hc with rfl | rfl | rfl | rfl | rfl | rfl | rfl | rfl | rfl | rfl | rfl | rfl | rfl | rfl | rfl | rfl | rfl | rfl | rfl | rfl | rfl | rfl <;> simp [pcount] at g3 hl <;> first | omega | exact ⟨_, rfl⟩
  | [a, b, c] => rcases hc with rfl | rfl | rfl | rfl | rfl | rfl | rfl | rfl | rfl | rfl | rfl | rfl | rfl | rfl | rfl | rfl | rfl | rfl | rfl | rfl | rfl | rfl <;> simp [pcount] at g3 hl <;> first | omega | exact ⟨_, rfl⟩
  | a :: b :: c :: d :: r => rcases hc with rfl | rfl | rfl | rfl | rfl | rfl | rfl | rfl | rfl | rfl | rfl | rfl | rfl | rfl | rfl | rfl | rfl | rfl | rfl | rfl | rfl | rfl <;> simp [pcount] at g3 hl <;> first | omega | exact ⟨_, rfl⟩
theorem node_typ (op n : Int) (s : ByteArray) (l : List Int) (hn : nodeOK op n s = true) (h5 : op ≠ 5) (hl : (l.length : Int) = n) : Ev (fun k => kind_node.f k op l) (typ op l) :=
  Ev.of (kind_node.mono op l) (node_is op l _ (made_some op n s l hn h5 hl))
end Go.Proofs.Ytpfnnamicbbobaa.PL
/- Plain law, part 11: words that are handed in, and what they stand for: known and looked, the map and find. -/
namespace Go.Proofs.Ytpfnnamicbbobaa.PL
set_option linter.unusedSimpArgs false
open Go.RowKit Go.Proofs.YtpfnnamicbbobaaW.PrintWords Go.Proofs.YtpfnnamicbbobaaW.PrintMore Go.Proofs.Ytpfnnamicbbobaa.HS Go.Proofs.Ytpfnnamicbbobaa.PAll Go.Proofs.Ytpfnnamicbbobaa.HM
abbrev Wd := S59
def smallW (l : List Wd) : Prop := ∀ x ∈ l, x.f0.size ≤ 9223372036854775806
def wordOKt (x : Wd) : Bool := named x.f0.data.toList && (decide (1 ≤ x.f1) && decide (x.f1 ≤ 3))
def wordsOK (ws : List Wd) : Bool := ws.all wordOKt
def mfold (m : List (ByteArray × Int)) (ws : List Wd) : List (ByteArray × Int) := ws.foldl (fun m x => mput m x.f0 x.f1) m
/-- What a name stands for: the last one counts; 0: nothing. -/
def fnd (ws : List Wd) (s : ByteArray) : Int := ws.foldl (fun a x => if s = x.f0 then x.f1 else a) 0
theorem mget_fold (s : ByteArray) : ∀ (ws : List Wd) (m : List (ByteArray × Int)), (mget (mfold m ws) s).getD 0 = ws.foldl (fun a x => if s = x.f0 then x.f1 else a) ((mget m s).getD 0)
  | [], m => rfl
  | x :: r, m => by
    have := mget_fold s r (mput m x.f0 x.f1)
    rw [mget_put] at this
    unfold mfold at this ⊢
    rw [List.foldl_cons, List.foldl_cons, this]
    by_cases h : s = x.f0 <;> simp [h]
theorem mgetD_fold (ws : List Wd) (b : Nat) : (fun s => mgetD ⟨b, mfold [] ws⟩ s) = fnd ws := by
  funext s
  show (mget (mfold [] ws) s).getD 0 = _
  rw [mget_fold]; rfl
theorem go_ev : ∀ (ws : List Wd) (m : List (ByteArray × Int)), smallW ws → Ev (fun k => kind_known.go k ws m) (if wordsOK ws = true then some (mfold m ws) else none)
  | [], m, _ => Ev.const
  | x :: r, m, hs => by
    have ih := go_ev r (mput m x.f0 x.f1) (fun y hy => hs y (List.mem_cons_of_mem _ hy))
    refine Ev.congr (e := fun k => (kind_isName.f k x.f0).bind fun b => if b = true ∧ 1 ≤ x.f1 ∧ x.f1 ≤ 3 then kind_known.go k r (mput m x.f0 x.f1) else some none) (fun k => rfl) ?_
    refine Ev.bind (isName_ev x.f0 (by have := hs x List.mem_cons_self; omega)) ?_
    have e : wordsOK (x :: r) = (wordOKt x && wordsOK r) := rfl
    by_cases hc : named x.f0.data.toList = true ∧ 1 ≤ x.f1 ∧ x.f1 ≤ 3
    · simp only [if_pos hc]
      have : wordOKt x = true := by unfold wordOKt; simp [hc.1, hc.2.1, hc.2.2]
      rw [e, this, Bool.true_and]
      exact ih
    · simp only [if_neg hc]
      have : wordOKt x = false := by
        rw [Bool.eq_false_iff]
        intro q
        unfold wordOKt at q
        simp only [Bool.and_eq_true, decide_eq_true_eq] at q
        exact hc ⟨q.1, q.2.1, q.2.2⟩
      rw [e, this, Bool.false_and]
      exact Ev.const
/-- What is wrong with a formula and words. -/
def lookS (l : List Nd) (ws : List Wd) : Int := if checkF l = 0 then (if ws.length > 4096 then 3 else if wordsOK ws = true then 0 else 5) else checkF l
theorem known_ev (l : List Nd) (ws : List Wd) (hs : small l) (hw : smallW ws) : Ev (fun k => kind_known.f k l ws) (lookS l ws, if lookS l ws = 0 then mfold [] ws else []) := by
  unfold kind_known.f lookS
  refine Ev.bind (check_ev l hs) ?_
  by_cases h : checkF l = 0
  · simp only [if_pos h]
    by_cases h2 : ws.length > 4096
    · simp only [if_pos h2]; exact Ev.const
    · simp only [if_neg h2]
      refine Ev.bind (go_ev ws [] hw) ?_
      cases hq : wordsOK ws with
      | true => exact Ev.const
      | false => exact Ev.const
  · simp only [if_neg h]
    exact Ev.const
end Go.Proofs.Ytpfnnamicbbobaa.PL
/- Plain law, part 12: the types of a right formula's nodes: each and typed; Each and Of of both. -/
namespace Go.Proofs.Ytpfnnamicbbobaa.PL
set_option linter.unusedSimpArgs false
open Go.RowKit Go.Proofs.YtpfnnamicbbobaaW.PrintWords Go.Proofs.YtpfnnamicbbobaaW.PrintMore Go.Proofs.Ytpfnnamicbbobaa.HS Go.Proofs.Ytpfnnamicbbobaa.PAll Go.Proofs.Ytpfnnamicbbobaa.HM
/-- A node's type, where names stand for g and the types st are on the stack. -/
def nty (g : ByteArray → Int) (st : List Int) (x : Nd) : Int := if x.f0 = 5 then g x.f2 else typ x.f0 (st.drop (st.length - x.f1.toNat))
def push (st : List Int) (x : Nd) (t : Int) : List Int := st.take (st.length - x.f1.toNat) ++ [t]
/-- The types of all nodes; the place and the error, if one is wrong. -/
def tgo (g : ByteArray → Int) : List Nd → Int → List Int → List Int → List Int × Int × Int
  | [], _, all, _ => (all, 0, 0)
  | x :: r, i, all, st => if nty g st x = 0 then ([], i, if x.f0 = 5 then 181 else 180) else tgo g r (i + 1) (all ++ [nty g st x]) (push st x (nty g st x))
theorem wgo_cons {x : Nd} {r : List Nd} {sd d : List Int} (h : wgo (x :: r) sd = some d) : nodeOK x.f0 x.f1 x.f2 = true ∧ 0 ≤ x.f1 ∧ x.f1 ≤ sd.length ∧ ∃ y, wgo r (sd.take (sd.length - x.f1.toNat) ++ [y]) = some d := by
  unfold wgo at h
  split at h
  · rename_i hc
    exact ⟨hc.1, nodeOK_n _ _ _ hc.1, hc.2, _, h⟩
  · cases h
theorem push_len (st : List Int) (x : Nd) (t : Int) : (push st x t).length = st.length - x.f1.toNat + 1 := by
  unfold push
  rw [List.length_append, List.length_take, List.length_singleton]; omega
section
variable (l : List Nd) (hl : l.length ≤ 1024)
include hl
theorem each_l (M : MapV) : ∀ (m j : Nat) (sd st all d : List Int), l.length - j = m → j ≤ l.length → wgo (l.drop j) sd = some d → sd.length = st.length → st.length ≤ j → all.length ≤ j →
    Ev (fun k => kind_each.l0 k M all st l (l.length : Int) (j : Int)) (tgo (fun s => mgetD M s) (l.drop j) j all st) := by
  intro m
  induction m with
  | zero =>
    intro j sd st all d hm hj hw hsd hst hall
    rw [List.drop_eq_nil_of_le (by omega)]
    refine Ev.step (fun k => by rw [kind_each.l0]) ?_
    simp only [if_neg (show ¬ (j : Int) < (l.length : Int) by omega)]
    exact Ev.const
  | succ m ih =>
    intro j sd st all d hm hj hw hsd hst hall
    have hlt : j < l.length := by omega
    rw [rd_drop l j hlt] at hw ⊢
    refine Ev.step (fun k => by rw [kind_each.l0]) ?_
    generalize hx : rd_T56 l (j : Int) = x at hw ⊢
    obtain ⟨hn, h0, h1, y, hw⟩ := wgo_cons hw
    have ew : wrap64 ((st.length : Int) - x.f1) = ((st.length - x.f1.toNat : Nat) : Int) := by rw [w64 _ (by omega) (by omega)]; omega
    simp only [if_pos (show (j : Int) < (l.length : Int) by omega), if_pos (show (0 : Int) ≤ (j : Int) by omega), hx, ew, if_pos (show (0 : Int) ≤ ((st.length - x.f1.toNat : Nat) : Int) by omega),
      if_pos (show ((st.length - x.f1.toNat : Nat) : Int) ≤ (st.length : Int) by omega), Int.toNat_natCast, Option.bind_some]
    unfold tgo
    have go : ∀ t : Int, nty (fun s => mgetD M s) st x = t → Ev (fun k => if (st.take (st.length - x.f1.toNat)).length < 17592186044416 then (if all.length < 17592186044416 then kind_each.l0 k M (all ++ [t]) (st.take (st.length - x.f1.toNat) ++ [t]) l (l.length : Int) (wrap64 ((j : Int) + 1)) else none) else none) (tgo (fun s => mgetD M s) (l.drop (j + 1)) ((j : Int) + 1) (all ++ [nty (fun s => mgetD M s) st x]) (push st x (nty (fun s => mgetD M s) st x))) := by
      intro t ht
      rw [ht]
      simp only [if_pos (show (st.take (st.length - x.f1.toNat)).length < 17592186044416 by rw [List.length_take]; omega), if_pos (show all.length < 17592186044416 by omega), succ64 j _ hlt (by omega)]
      refine ih (j + 1) _ (push st x t) (all ++ [t]) d (by omega) (by omega) hw ?_ ?_ ?_
      · rw [push_len, List.length_append, List.length_take, List.length_singleton]; omega
      · rw [push_len]; omega
      · rw [List.length_append, List.length_singleton]; omega
    by_cases h5 : x.f0 = 5
    · have e : nty (fun s => mgetD M s) st x = mgetD M x.f2 := if_pos h5
      simp only [if_pos h5]
      by_cases hz : mgetD M x.f2 = 0
      · rw [if_pos (e.trans hz)]
        simp only [if_pos hz]; exact Ev.const
      · rw [if_neg (fun q => hz (e.symm.trans q))]
        simp only [if_neg hz]
        exact go _ e
    · have e : nty (fun s => mgetD M s) st x = typ x.f0 (st.drop (st.length - x.f1.toNat)) := if_neg h5
      simp only [if_neg h5]
      refine Ev.bind (node_typ x.f0 x.f1 x.f2 _ hn h5 (by rw [List.length_drop]; omega)) ?_
      by_cases hz : typ x.f0 (st.drop (st.length - x.f1.toNat)) = 0
      · rw [if_pos (e.trans hz)]
        simp only [if_pos hz]; exact Ev.const
      · rw [if_neg (fun q => hz (e.symm.trans q))]
        simp only [if_neg hz]
        exact go _ e
end
section
variable (l : List Nd) (hl : l.length ≤ 1024) (ws : List Wd) (hw0 : ws.length ≤ 4096)
include hl hw0
end
theorem checkF_ok (l : List Nd) (h : checkF l = 0) : l.length ≤ 1024 ∧ ∃ d, wgo l [] = some [d] ∧ mx 0 d ≤ 64 := by
  refine ⟨checkF_len l h, ?_⟩
  unfold checkF at h
  split at h
  · cases h
  · split at h
    · rename_i hq
      split at h
      · cases h
      · rename_i hd
        unfold wres at hq hd
        split at hq
        · rename_i d he
          rw [he] at hd
          exact ⟨d, he, by simpa using hd⟩
        · cases hq
    · cases h
theorem lookS_ok (l : List Nd) (ws : List Wd) (h : lookS l ws = 0) : checkF l = 0 ∧ ws.length ≤ 4096 ∧ wordsOK ws = true := by
  unfold lookS at h
  split at h
  · rename_i h1
    split at h
    · cases h
    · split at h
      · rename_i h2 h3; exact ⟨h1, by omega, h3⟩
      · cases h
  · rename_i h1; exact absurd h h1
/-- What Each answers. -/
def eachS (l : List Nd) (ws : List Wd) : List Int × Int × Int := if lookS l ws = 0 then tgo (fnd ws) l 0 [] [] else ([], 0, lookS l ws)
theorem each_ev (l : List Nd) (ws : List Wd) (hs : small l) (hw : smallW ws) : Ev (fun k => kind_Each.f k l ws) (eachS l ws) := by
  unfold kind_Each.f eachS
  refine Ev.bind (known_ev l ws hs hw) ?_
  by_cases h : lookS l ws = 0
  · simp only [if_pos h]
    obtain ⟨hc, -, -⟩ := lookS_ok l ws h
    obtain ⟨h1, d, hd, -⟩ := checkF_ok l hc
    unfold kind_each.f
    have := each_l l h1 ⟨0, mfold [] ws⟩ l.length 0 [] [] [] [d] (by omega) (by omega) hd rfl (by simp) (by simp)
    rw [mgetD_fold] at this
    exact this
  · simp only [if_neg h]; exact Ev.const
theorem tgo_ok (g : ByteArray → Int) : ∀ (l : List Nd) (i : Int) (all st : List Int), (tgo g l i all st).2.2 = 0 → (tgo g l i all st).2.1 = 0 ∧ (tgo g l i all st).1.length = all.length + l.length
  | [], i, all, st, _ => ⟨rfl, by simp [tgo]⟩
  | x :: r, i, all, st, h => by
    unfold tgo at h ⊢
    by_cases hz : nty g st x = 0
    · rw [if_pos hz] at h
      exfalso
      by_cases h5 : x.f0 = 5 <;> simp [h5] at h
    · rw [if_neg hz] at h ⊢
      obtain ⟨a, b⟩ := tgo_ok g r _ _ _ h
      exact ⟨a, by rw [b, List.length_append, List.length_singleton, List.length_cons]; omega⟩
theorem tgo_bad (g : ByteArray → Int) : ∀ (l : List Nd) (i : Int) (all st : List Int), (tgo g l i all st).2.2 ≠ 0 → (tgo g l i all st).1 = []
  | [], i, all, st, h => absurd rfl h
  | x :: r, i, all, st, h => by
    unfold tgo at h ⊢
    by_cases hz : nty g st x = 0
    · rw [if_pos hz]
    · rw [if_neg hz] at h ⊢
      exact tgo_bad g r _ _ _ h
theorem eachS_ok (l : List Nd) (ws : List Wd) (h : (eachS l ws).2.2 = 0) : lookS l ws = 0 ∧ eachS l ws = tgo (fnd ws) l 0 [] [] ∧ (eachS l ws).2.1 = 0 ∧ (eachS l ws).1.length = l.length ∧ 0 < l.length ∧ l.length ≤ 1024 := by
  have hk : lookS l ws = 0 := by
    by_cases hk : lookS l ws = 0
    · exact hk
    · unfold eachS at h
      rw [if_neg hk] at h
      exact h
  have e : eachS l ws = tgo (fnd ws) l 0 [] [] := if_pos hk
  obtain ⟨hc, -, -⟩ := lookS_ok l ws hk
  obtain ⟨h1, d, hd, -⟩ := checkF_ok l hc
  rw [e] at h ⊢
  obtain ⟨a, b⟩ := tgo_ok _ _ _ _ _ h
  refine ⟨hk, rfl, a, by simpa using b, ?_, h1⟩
  cases l with
  | nil => unfold wgo at hd; cases hd
  | cons x r => simp
theorem eachS_bad (l : List Nd) (ws : List Wd) (h : (eachS l ws).2.2 ≠ 0) : (eachS l ws).1 = [] := by
  unfold eachS at h ⊢
  split at h
  · rename_i hq; rw [if_pos hq]; exact tgo_bad _ _ _ _ _ h
  · rename_i hq; rw [if_neg hq]
/-- What Of answers. -/
def ofS (l : List Nd) (ws : List Wd) : Int × Int × Int := if (eachS l ws).2.2 = 0 then (rd (eachS l ws).1 ((l.length : Int) - 1), 0, 0) else (0, (eachS l ws).2.1, (eachS l ws).2.2)
theorem of_ev (l : List Nd) (ws : List Wd) (hs : small l) (hw : smallW ws) : Ev (fun k => kind_Of.f k l ws) (ofS l ws) := by
  unfold kind_Of.f ofS
  refine Ev.bind (each_ev l ws hs hw) ?_
  by_cases h : (eachS l ws).2.2 = 0
  · obtain ⟨-, -, h1, h2, h3, h4⟩ := eachS_ok l ws h
    simp only [if_pos h, h, h1, h2, beq_self_eq_true, Bool.not_true, Bool.or_false, Bool.false_eq_true, if_false]
    rw [w64 _ (by omega) (by omega)]
    simp only [if_pos (show (0 : Int) ≤ (l.length : Int) - 1 by omega), if_pos (show (l.length : Int) - 1 < (l.length : Int) by omega)]
    exact Ev.const
  · simp only [if_neg h, beq_eq_false_iff_ne.mpr h, Bool.not_false, Bool.or_true, if_true]
    exact Ev.const
end Go.Proofs.Ytpfnnamicbbobaa.PL
/- Plain law, part 13: the words that a formula uses; KindFormulas. -/
namespace Go.Proofs.Ytpfnnamicbbobaa.PL
set_option linter.unusedSimpArgs false
open Go.RowKit Go.Proofs.YtpfnnamicbbobaaW.PrintWords Go.Proofs.YtpfnnamicbbobaaW.PrintMore Go.Proofs.Ytpfnnamicbbobaa.HS Go.Proofs.Ytpfnnamicbbobaa.PAll Go.Proofs.Ytpfnnamicbbobaa.HM
instance memDec (s : ByteArray) (xs : List ByteArray) : Decidable (s ∈ xs) := decidable_of_iff ((xs.any fun y => decide (y = s)) = true) (by simp)
section
variable (l : List Nd) (hl : l.length ≤ 1024)
include hl
omit hl in
omit hl in
end
end Go.Proofs.Ytpfnnamicbbobaa.PL
/- Plain law, part 14: runs of formulas over a stack of types; SUBSTITUTION. -/
namespace Go.Proofs.Ytpfnnamicbbobaa.PL
set_option linter.unusedSimpArgs false
open Go.RowKit Go.Proofs.YtpfnnamicbbobaaW.PrintWords Go.Proofs.YtpfnnamicbbobaaW.PrintMore Go.Proofs.Ytpfnnamicbbobaa.HS Go.Proofs.Ytpfnnamicbbobaa.PAll Go.Proofs.Ytpfnnamicbbobaa.HM
/-- What stands on the stack behind some nodes. -/
def trun (g : ByteArray → Int) : List Nd → List Int → Option (List Int)
  | [], st => some st
  | x :: r, st => if nodeOK x.f0 x.f1 x.f2 = true ∧ x.f1 ≤ st.length ∧ nty g st x ≠ 0 then trun g r (push st x (nty g st x)) else none
theorem trun_app (g : ByteArray → Int) : ∀ (a b : List Nd) (st : List Int), trun g (a ++ b) st = (trun g a st).bind (trun g b)
  | [], b, st => rfl
  | x :: r, b, st => by
    rw [List.cons_append]
    unfold trun
    split
    · exact trun_app g r b _
    · rfl
theorem drop_base (base st : List Int) (n : Nat) (h : n ≤ st.length) : (base ++ st).drop ((base ++ st).length - n) = st.drop (st.length - n) := by
  rw [List.length_append, List.drop_append, List.drop_eq_nil_of_le (by omega), List.nil_append]
  congr 1; omega
theorem take_base (base st : List Int) (n : Nat) (h : n ≤ st.length) : (base ++ st).take ((base ++ st).length - n) = base ++ st.take (st.length - n) := by
  rw [List.length_append, List.take_append, List.take_of_length_le (by omega)]
  congr 2; omega
theorem nty_base (g : ByteArray → Int) (base st : List Int) (x : Nd) (h0 : 0 ≤ x.f1) (h : x.f1 ≤ st.length) : nty g (base ++ st) x = nty g st x := by
  unfold nty
  rw [drop_base base st _ (by omega)]
theorem push_base (base st : List Int) (x : Nd) (t : Int) (h0 : 0 ≤ x.f1) (h : x.f1 ≤ st.length) : push (base ++ st) x t = base ++ push st x t := by
  unfold push
  rw [take_base base st _ (by omega), List.append_assoc]
theorem push_last (st : List Int) (x : Nd) (t : Int) : (push st x t).getLast? = some t := by
  unfold push
  rw [List.getLast?_append]; rfl
/-- A run and its list of types. -/
theorem tgo_run (g : ByteArray → Int) : ∀ (l : List Nd) (sd d st all : List Int) (i : Int), wgo l sd = some d → sd.length = st.length → all.getLast? = st.getLast? →
    (∃ st', trun g l st = some st' ∧ (tgo g l i all st).2 = (0, 0) ∧ (tgo g l i all st).1.getLast? = st'.getLast? ∧ st'.length = d.length) ∨ (trun g l st = none ∧ (tgo g l i all st).2.2 ≠ 0)
  | [], sd, d, st, all, i, hw, hl, hq => .inl ⟨st, rfl, rfl, hq, by rw [← hl, Option.some.inj hw]⟩
  | x :: r, sd, d, st, all, i, hw, hl, hq => by
    obtain ⟨hn, h0, h1, y, hw⟩ := wgo_cons hw
    unfold trun tgo
    by_cases hz : nty g st x = 0
    · refine .inr ⟨if_neg (fun q => q.2.2 hz), ?_⟩
      rw [if_pos hz]
      by_cases h5 : x.f0 = 5 <;> simp [h5]
    · rw [if_neg hz, if_pos ⟨hn, by omega, hz⟩]
      refine tgo_run g r _ d _ _ _ hw ?_ ?_
      · rw [push_len, List.length_append, List.length_take, List.length_singleton]; omega
      · rw [push_last, List.getLast?_append]; rfl
theorem trun_ne (g : ByteArray → Int) : ∀ (l : List Nd) (st st' : List Int), trun g l st = some st' → (∀ t ∈ st, t ≠ 0) → ∀ t ∈ st', t ≠ 0
  | [], st, st', h, hs => by rw [← Option.some.inj h]; exact hs
  | x :: r, st, st', h, hs => by
    unfold trun at h
    split at h
    · rename_i hc
      refine trun_ne g r _ st' h fun t ht => ?_
      unfold push at ht
      rcases List.mem_append.mp ht with h' | h'
      · exact hs t (List.mem_of_mem_take h')
      · rw [List.mem_singleton] at h'; exact h' ▸ hc.2.2
    · cases h
theorem rd_last (l : List Int) (t : Int) (h : l.getLast? = some t) : rd l ((l.length : Int) - 1) = t := by
  rw [List.getLast?_eq_getElem?] at h
  unfold rd
  rw [List.getD_eq_getElem?_getD, show ((l.length : Int) - 1).toNat = l.length - 1 by omega, h]; rfl
theorem ofS_run (l : List Nd) (ws : List Wd) (h : lookS l ws = 0) : (∃ t, trun (fnd ws) l [] = some [t] ∧ t ≠ 0 ∧ ofS l ws = (t, 0, 0)) ∨ (trun (fnd ws) l [] = none ∧ (ofS l ws).1 = 0 ∧ (ofS l ws).2.2 ≠ 0) := by
  obtain ⟨hc, -, -⟩ := lookS_ok l ws h
  obtain ⟨-, d, hd, -⟩ := checkF_ok l hc
  have e : eachS l ws = tgo (fnd ws) l 0 [] [] := if_pos h
  rcases tgo_run (fnd ws) l [] [d] [] [] 0 hd rfl rfl with ⟨st', h1, h2, h3, h4⟩ | ⟨h1, h2⟩
  · match st', h4 with
    | [t], _ =>
      have ht := trun_ne (fnd ws) l [] [t] h1 (fun t ht => by cases ht) t List.mem_cons_self
      refine .inl ⟨t, h1, ht, ?_⟩
      have hz : (eachS l ws).2.2 = 0 := by rw [e, h2]
      obtain ⟨-, -, -, hlen, -, -⟩ := eachS_ok l ws hz
      unfold ofS
      rw [if_pos hz, ← hlen, rd_last _ t (by rw [e]; exact h3)]
  · refine .inr ⟨h1, ?_⟩
    unfold ofS
    rw [e, if_neg h2]
    exact ⟨rfl, h2⟩
theorem ofS_of (l : List Nd) (ws : List Wd) (t : Int) (h : lookS l ws = 0) (hr : trun (fnd ws) l [] = some [t]) : ofS l ws = (t, 0, 0) := by
  rcases ofS_run l ws h with ⟨t', h1, -, h3⟩ | ⟨h1, -⟩
  · rw [hr] at h1
    have : t = t' := by simpa using h1
    rw [this]; exact h3
  · rw [hr] at h1; cases h1
theorem lookS_of (l : List Nd) (ws : List Wd) (h1 : checkF l = 0) (h2 : ws.length ≤ 4096) (h3 : wordsOK ws = true) : lookS l ws = 0 := by
  unfold lookS
  rw [if_pos h1, if_neg (by omega), if_pos h3]
section
variable (f g : List Nd) (ws : List Wd) (hf : small f) (hg : small g) (hw : smallW ws) (hwl : ws.length ≤ 9223372036854775807) (a b : Int)
  (ha : ofS f ws = (a, 0, 0)) (hb : ofS g ws = (b, 0, 0))
include hf hg hw hwl ha hb
end
end Go.Proofs.Ytpfnnamicbbobaa.PL
/- Plain law, part 15: where the formula that ends at a node begins: fronts, and Parts of a right formula. -/
namespace Go.Proofs.Ytpfnnamicbbobaa.PL
set_option linter.unusedSimpArgs false
set_option linter.unusedVariables false
open Go.RowKit Go.Proofs.YtpfnnamicbbobaaW.PrintWords Go.Proofs.YtpfnnamicbbobaaW.PrintMore Go.Proofs.Ytpfnnamicbbobaa.HS Go.Proofs.Ytpfnnamicbbobaa.PAll
theorem wgo_some {x : Nd} {r : List Nd} {sd d : List Int} (h : wgo (x :: r) sd = some d) : nodeOK x.f0 x.f1 x.f2 = true ∧ 0 ≤ x.f1 ∧ x.f1 ≤ sd.length ∧ wgo r (sd.take (sd.length - x.f1.toNat) ++ [wrap64 (mxs 0 (sd.drop (sd.length - x.f1.toNat)) + 1)]) = some d := by
  unfold wgo at h
  split at h
  · rename_i hc
    exact ⟨hc.1, nodeOK_n _ _ _ hc.1, hc.2, h⟩
  · cases h
theorem wgo_app : ∀ (a b : List Nd) (sd : List Int), wgo (a ++ b) sd = (wgo a sd).bind (wgo b)
  | [], b, sd => rfl
  | x :: r, b, sd => by
    rw [List.cons_append]
    unfold wgo
    split
    · exact wgo_app r b _
    · rfl
theorem wgo_base (base : List Int) : ∀ (l : List Nd) (sd d : List Int), wgo l sd = some d → wgo l (base ++ sd) = some (base ++ d)
  | [], sd, d, h => by rw [Option.some.inj h]; rfl
  | x :: r, sd, d, h => by
    obtain ⟨hn, h0, h1, h⟩ := wgo_some h
    have e1 : (base ++ sd).drop ((base ++ sd).length - x.f1.toNat) = sd.drop (sd.length - x.f1.toNat) := by
      rw [List.length_append, List.drop_append, List.drop_eq_nil_of_le (by omega), List.nil_append]
      congr 1; omega
    have e2 : (base ++ sd).take ((base ++ sd).length - x.f1.toNat) = base ++ sd.take (sd.length - x.f1.toNat) := by
      rw [List.length_append, List.take_append, List.take_of_length_le (by omega)]
      congr 2; omega
    unfold wgo
    rw [if_pos ⟨hn, by rw [List.length_append]; omega⟩, e1, e2, List.append_assoc]
    exact wgo_base base r _ d h
/-- The nodes from p on, ahead of j. -/
def seg (l : List Nd) (p j : Nat) : List Nd := (l.take j).drop p
theorem seg_app (l : List Nd) (p e j : Nat) (h1 : p ≤ e) (h2 : e ≤ j) : seg l p j = seg l p e ++ seg l e j := by
  unfold seg
  have : l.take e = (l.take j).take e := by rw [List.take_take, Nat.min_eq_left h2]
  rw [this]
  generalize l.take j = w
  rw [List.drop_take, show w.drop e = (w.drop p).drop (e - p) by rw [List.drop_drop]; congr 1; omega]
  exact (List.take_append_drop _ _).symm
theorem seg_one (l : List Nd) (j : Nat) (h : j < l.length) : seg l j (j + 1) = [rd_T56 l (j : Int)] := by
  unfold seg
  rw [List.drop_take, rd_drop l j h, show j + 1 - j = 1 by omega]; rfl
theorem seg_len (l : List Nd) (p j : Nat) (h : j ≤ l.length) : (seg l p j).length = j - p := by
  unfold seg
  rw [List.length_drop, List.length_take]; omega
/-- Stacked formulas, the last one first: where each begins, how deep it is; F: the fronts so far. -/
def Chain (l : List Nd) (F : List Int) : Nat → List (Nat × Int) → Prop
  | j, [] => j = 0
  | j, e :: r => e.1 < j ∧ F[j - 1]? = some (e.1 : Int) ∧ wgo (seg l e.1 j) [] = some [e.2] ∧ Chain l F e.1 r
/-- n formulas stand behind one another, the last one ends at a, the first one begins at p. -/
def Walk (F : List Int) : Nat → Nat → Nat → Prop
  | 0, _, _ => False
  | n + 1, a, p => ∃ q : Nat, F[a]? = some (q : Int) ∧ q ≤ a ∧ ((n = 0 ∧ q = p) ∨ (n ≠ 0 ∧ 1 ≤ q ∧ Walk F n (q - 1) p))
theorem get_app {F G : List Int} {i : Nat} {v : Int} (h : F[i]? = some v) : (F ++ G)[i]? = some v := by
  have := (List.getElem?_eq_some_iff.mp h).1
  rw [List.getElem?_append_left this, h]
theorem Chain.app {l : List Nd} {F G : List Int} : ∀ {es : List (Nat × Int)} {j : Nat}, Chain l F j es → Chain l (F ++ G) j es
  | [], _, h => h
  | _ :: _, _, ⟨a, b, c, d⟩ => ⟨a, get_app b, c, Chain.app d⟩
theorem Walk.app {F G : List Int} : ∀ {n a p : Nat}, Walk F n a p → Walk (F ++ G) n a p
  | 0, _, _, h => h
  | n + 1, a, p, ⟨q, h1, h2, h3⟩ => ⟨q, get_app h1, h2, h3.imp id fun ⟨x, y, z⟩ => ⟨x, y, Walk.app z⟩⟩
theorem chain_pop {l : List Nd} {F : List Int} : ∀ (n : Nat) (es : List (Nat × Int)) (j : Nat), Chain l F j es → n ≤ es.length →
    ∃ p, p ≤ j ∧ Chain l F p (es.drop n) ∧ wgo (seg l p j) [] = some ((es.take n).map (·.2)).reverse ∧ (n = 0 → p = j) ∧ (n ≠ 0 → p < j ∧ Walk F n (j - 1) p ∧ ((es.map fun e => (e.1 : Int)).reverse)[es.length - n]? = some (p : Int))
  | 0, es, j, h, _ => ⟨j, Nat.le_refl _, h, by
      have : seg l j j = [] := by unfold seg; rw [List.drop_eq_nil_of_le (by rw [List.length_take]; omega)]
      rw [this]; rfl, fun _ => rfl, fun q => absurd rfl q⟩
  | n + 1, [], j, h, hn => by simp at hn
  | n + 1, e :: r, j, ⟨h1, h2, h3, h4⟩, hn => by
    rw [List.length_cons] at hn
    obtain ⟨p, p1, p2, p3, p4, p5⟩ := chain_pop n r e.1 h4 (by omega)
    refine ⟨p, by omega, p2, ?_, fun q => by omega, fun _ => ⟨by omega, ⟨e.1, h2, by omega, ?_⟩, ?_⟩⟩
    · rw [seg_app l p e.1 j p1 (by omega), wgo_app, p3, Option.bind_some]
      have := wgo_base ((r.take n).map (·.2)).reverse _ [] [e.2] h3
      rw [List.append_nil] at this
      rw [this, List.take_succ_cons, List.map_cons, List.reverse_cons]
    · by_cases hz : n = 0
      · exact .inl ⟨hz, (p4 hz).symm⟩
      · obtain ⟨q1, q2, -⟩ := p5 hz
        exact .inr ⟨hz, by omega, q2⟩
    · rw [List.map_cons, List.reverse_cons, List.length_cons, show r.length + 1 - (n + 1) = r.length - n by omega]
      by_cases hz : n = 0
      · subst hz
        rw [p4 rfl, List.getElem?_append_right (by simp)]
        simp
      · exact get_app (p5 hz).2.2
theorem Walk.head {F : List Int} : ∀ {n a p : Nat}, Walk F n a p → ∃ e : Nat, e ≤ a ∧ F[e]? = some (p : Int)
  | 0, _, _, h => h.elim
  | n + 1, a, p, ⟨q, h1, h2, h3⟩ => by
    rcases h3 with ⟨-, rfl⟩ | ⟨-, h4, h5⟩
    · exact ⟨a, Nat.le_refl _, h1⟩
    · obtain ⟨e, h6, h7⟩ := h5.head
      exact ⟨e, by omega, h7⟩
/-- Where the parts of a node end, whose last one ends at a. -/
def ends (F : List Int) : Nat → Int → List Int
  | 0, _ => []
  | n + 1, a => ends F n (rd F a - 1) ++ [a]
theorem ends_len (F : List Int) : ∀ (n : Nat) (a : Int), (ends F n a).length = n
  | 0, _ => rfl
  | n + 1, a => by unfold ends; rw [List.length_append, ends_len F n, List.length_singleton]
theorem rd_get {F : List Int} {a : Nat} {q : Int} (h : F[a]? = some q) : rd F (a : Int) = q := by
  unfold rd
  rw [List.getD_eq_getElem?_getD, Int.toNat_natCast, h]; rfl
theorem ends_head {F : List Int} : ∀ {n a p : Nat}, Walk F n a p → ∃ e : Nat, e ≤ a ∧ F[e]? = some (p : Int) ∧ rd (ends F n (a : Int)) 0 = (e : Int)
  | 0, _, _, h => h.elim
  | n + 1, a, p, ⟨q, h1, h2, h3⟩ => by
    rcases h3 with ⟨rfl, rfl⟩ | ⟨h3, h4, h5⟩
    · exact ⟨a, Nat.le_refl _, h1, rfl⟩
    · obtain ⟨e, h6, h7, h8⟩ := ends_head h5
      refine ⟨e, by omega, h7, ?_⟩
      unfold ends
      rw [rd_get h1, show ((q : Int) - 1) = ((q - 1 : Nat) : Int) by omega]
      have hl := ends_len F n ((q - 1 : Nat) : Int)
      unfold rd at h8 ⊢
      rw [List.getD_eq_getElem?_getD] at h8 ⊢
      rw [List.getElem?_append_left (by rw [hl]; simp; omega)]
      exact h8
/-- What is known of a front. -/
def Front (l : List Nd) (F : List Int) (q : Nat) : Prop := ∃ p d, F[q]? = some ((p : Nat) : Int) ∧ p ≤ q ∧ wgo (seg l p (q + 1)) [] = some [d] ∧
  (((rd_T56 l (q : Int)).f1 = 0 ∧ p = q) ∨ (0 < (rd_T56 l (q : Int)).f1 ∧ 1 ≤ q ∧ Walk F (rd_T56 l (q : Int)).f1.toNat (q - 1) p))
theorem Front.app {l : List Nd} {F G : List Int} {q : Nat} (h : Front l F q) : Front l (F ++ G) q := by
  obtain ⟨p, d, h1, h2, h3, h4⟩ := h
  exact ⟨p, d, get_app h1, h2, h3, h4.imp id fun ⟨x, y, z⟩ => ⟨x, y, z.app⟩⟩
theorem get_take {α : Type} (l : List α) (i : Nat) : l.take i ++ l.drop i = l := List.take_append_drop i l
theorem rev_take (es : List (Nat × Int)) (n : Nat) (f : Nat × Int → Int) (h : n ≤ es.length) : (es.map f).reverse.take (es.length - n) = ((es.drop n).map f).reverse := by
  have : es.map f = (es.take n).map f ++ (es.drop n).map f := by rw [← List.map_append, List.take_append_drop]
  rw [this, List.reverse_append, List.take_append_of_le_length (by rw [List.length_reverse, List.length_map, List.length_drop]; omega), List.take_of_length_le (by rw [List.length_reverse, List.length_map, List.length_drop]; omega)]
theorem rev_drop (es : List (Nat × Int)) (n : Nat) (f : Nat × Int → Int) (h : n ≤ es.length) : (es.map f).reverse.drop (es.length - n) = ((es.take n).map f).reverse := by
  have : es.map f = (es.take n).map f ++ (es.drop n).map f := by rw [← List.map_append, List.take_append_drop]
  rw [this, List.reverse_append, List.drop_append, List.drop_eq_nil_of_le (by rw [List.length_reverse, List.length_map, List.length_drop]; omega), List.nil_append, List.length_reverse, List.length_map, List.length_drop, show es.length - n - (es.length - n) = 0 by omega, List.drop_zero]
section
variable (l : List Nd) (hl : l.length ≤ 1024)
include hl
theorem fronts_l : ∀ (m j : Nat) (es : List (Nat × Int)) (F d : List Int), l.length - j = m → j ≤ l.length → Chain l F j es → F.length = j → es.length ≤ j → (∀ q, q < j → Front l F q) → wgo (l.drop j) (es.map (·.2)).reverse = some d →
    ∃ F' : List Int, Ev (fun k => clause_fronts.l0 k (es.map fun e => (e.1 : Int)).reverse F l (l.length : Int) (j : Int)) F' ∧ F'.length = l.length ∧ (∀ q, q < l.length → Front l F' q) := by
  intro m
  induction m with
  | zero =>
    intro j es F d hm hj hc hF he hq hw
    obtain rfl : j = l.length := by omega
    refine ⟨F, Ev.step (fun k => by rw [clause_fronts.l0]) ?_, hF, hq⟩
    simp only [if_neg (show ¬ (l.length : Int) < (l.length : Int) by omega)]
    exact Ev.const
  | succ m ih =>
    intro j es F d hm hj hc hF he hq hw
    have hlt : j < l.length := by omega
    have h1s := seg_one l j hlt
    rw [rd_drop l j hlt] at hw
    generalize hx : rd_T56 l (j : Int) = x at hw h1s
    obtain ⟨hn, h0, h1, hw⟩ := wgo_some hw
    rw [List.length_reverse, List.length_map] at h1 hw
    obtain ⟨p, p1, p2, p3, p4, p5⟩ := chain_pop x.f1.toNat es j hc (by omega)
    rw [rev_take es _ _ (by omega), rev_drop es _ _ (by omega)] at hw
    generalize hy : wrap64 (mxs 0 ((es.take x.f1.toNat).map (·.2)).reverse + 1) = y at hw
    have hseg : wgo (seg l p (j + 1)) [] = some [y] := by
      rw [seg_app l p j (j + 1) p1 (by omega), wgo_app, p3, Option.bind_some, h1s]
      unfold wgo
      have hlen : (((es.take x.f1.toNat).map (·.2)).reverse).length = x.f1.toNat := by rw [List.length_reverse, List.length_map, List.length_take]; omega
      rw [if_pos ⟨hn, by rw [hlen]; omega⟩, hlen, Nat.sub_self, List.take_zero, List.drop_zero, hy]; rfl
    have hF' : (F ++ [(p : Int)])[j]? = some (p : Int) := by rw [← hF]; simp
    have hch : Chain l (F ++ [(p : Int)]) (j + 1) ((p, y) :: es.drop x.f1.toNat) := ⟨by show p < j + 1; omega, hF', hseg, p2.app⟩
    have hfr : ∀ q, q < j + 1 → Front l (F ++ [(p : Int)]) q := by
      intro q hq'
      by_cases e : q = j
      · subst e
        refine ⟨p, y, hF', p1, hseg, ?_⟩
        rw [hx]
        by_cases hz : x.f1 = 0
        · exact .inl ⟨hz, p4 (by omega)⟩
        · obtain ⟨q1, q2, -⟩ := p5 (by omega)
          exact .inr ⟨by omega, by omega, q2.app⟩
      · exact (hq q (by omega)).app
    obtain ⟨F', r1, r2, r3⟩ := ih (j + 1) ((p, y) :: es.drop x.f1.toNat) (F ++ [(p : Int)]) d (by omega) (by omega) hch (by rw [List.length_append, hF]; rfl) (by rw [List.length_cons, List.length_drop]; omega) hfr (by rw [List.map_cons, List.reverse_cons]; exact hw)
    refine ⟨F', Ev.step (fun k => by rw [clause_fronts.l0]) ?_, r2, r3⟩
    have hlen : ((es.map fun e => (e.1 : Int)).reverse).length = es.length := by rw [List.length_reverse, List.length_map]
    have ew : wrap64 ((((es.map fun e => (e.1 : Int)).reverse.length : Nat) : Int) - x.f1) = ((es.length - x.f1.toNat : Nat) : Int) := by rw [hlen, w64 _ (by omega) (by omega)]; omega
    rw [List.map_cons, List.reverse_cons] at r1
    rw [← rev_take es x.f1.toNat (fun e => (e.1 : Int)) (by omega)] at r1
    simp only [if_pos (show (j : Int) < (l.length : Int) by omega), if_pos (show (0 : Int) ≤ (j : Int) by omega), hx, ew, if_pos (show (0 : Int) ≤ ((es.length - x.f1.toNat : Nat) : Int) by omega), Int.toNat_natCast, Option.bind_some, succ64 j _ hlt (by omega)]
    have hb : (((es.map fun e => (e.1 : Int)).reverse).take (es.length - x.f1.toNat)).length < 17592186044416 := by rw [List.length_take, hlen]; omega
    by_cases hz : x.f1 > 0
    · obtain ⟨q1, q2, q3⟩ := p5 (by omega)
      simp only [if_pos hz, hlen, if_pos (show ((es.length - x.f1.toNat : Nat) : Int) < (es.length : Int) by omega), if_pos (show ((es.length - x.f1.toNat : Nat) : Int) ≤ (es.length : Int) by omega), if_pos hb, if_pos (show F.length < 17592186044416 by omega), rd_get q3]
      exact r1
    · have e : p = j := p4 (by omega)
      subst e
      simp only [if_neg hz, hlen, if_pos (show ((es.length - x.f1.toNat : Nat) : Int) ≤ (es.length : Int) by omega), if_pos hb, if_pos (show F.length < 17592186044416 by omega)]
      exact r1
theorem fronts_ev (d : List Int) (h : wgo l [] = some d) : ∃ F : List Int, Ev (fun k => clause_fronts.f k l) F ∧ F.length = l.length ∧ (∀ q, q < l.length → Front l F q) := by
  unfold clause_fronts.f
  exact fronts_l l hl l.length 0 [] [] d (by omega) (by omega) rfl rfl (by simp) (fun q hq => by omega) h
end
theorem partsOf_l (F : List Int) (hF : F.length ≤ 1024) (hv : ∀ (a : Nat) (q : Int), F[a]? = some q → 0 ≤ q ∧ q ≤ 1024) : ∀ (k a p : Nat) (out : List Int), Walk F (k + 1) a p → k < out.length → out.length ≤ 1024 → Ev (fun f => clause_partsOf.l0 f F out (a : Int) (k : Int)) (ends F (k + 1) (a : Int) ++ out.drop (k + 1))
  | k, a, p, out, ⟨q, h1, h2, h3⟩, hk, ho => by
    have ha : a < F.length := (List.getElem?_eq_some_iff.mp h1).1
    refine Ev.step (fun k => by rw [clause_partsOf.l0]) ?_
    have e1 : wrap64 ((q : Int) - 1) = (q : Int) - 1 := w64 _ (by omega) (by omega)
    have e2 : wrap64 ((k : Int) - 1) = (k : Int) - 1 := w64 _ (by omega) (by omega)
    simp only [if_pos (show (k : Int) ≥ 0 by omega), if_pos (show (0 : Int) ≤ (k : Int) by omega), if_pos (show (k : Int) < (out.length : Int) by omega), if_pos (show (0 : Int) ≤ (a : Int) by omega), if_pos (show (a : Int) < (F.length : Int) by omega), rd_get h1, e1, e2, Int.toNat_natCast]
    have hd : ∀ n, (out.set k (a : Int)).drop (k + 1 + n) = out.drop (k + 1 + n) := fun n => by rw [List.drop_set_of_lt (by omega)]
    have hset : (out.set k (a : Int)).drop k = (a : Int) :: out.drop (k + 1) := by
      rw [List.drop_eq_getElem_cons (by rw [List.length_set]; exact hk), List.getElem_set_self]
      congr 1
      exact hd 0
    match k, h3 with
    | 0, _ =>
      refine Ev.step (fun k => by rw [clause_partsOf.l0]) ?_
      simp only [if_neg (show ¬ (((0 : Nat) : Int) - 1 ≥ 0) by omega)]
      rw [List.drop_zero] at hset
      rw [hset]
      exact Ev.const
    | k + 1, .inl ⟨z, _⟩ => omega
    | k + 1, .inr ⟨_, h4, h5⟩ =>
      have ih := partsOf_l F hF hv k (q - 1) p (out.set (k + 1) (a : Int)) h5 (by rw [List.length_set]; omega) (by rw [List.length_set]; omega)
      rw [hset] at ih
      have e3 : ((k + 1 : Nat) : Int) - 1 = (k : Int) := by omega
      have e4 : (q : Int) - 1 = ((q - 1 : Nat) : Int) := by omega
      rw [e3, e4]
      rw [show ends F (k + 1 + 1) (a : Int) = ends F (k + 1) (rd F (a : Int) - 1) ++ [(a : Int)] from rfl, rd_get h1, e4, List.append_assoc]
      exact ih
/-- What Parts answers of a right formula: the ends of a node's parts. -/
theorem parts_is (l : List Nd) (F : List Int) (hl : l.length ≤ 1024) (hF : F.length = l.length) (hfr : ∀ q, q < l.length → Front l F q) (i : Nat) (hi : i < l.length) :
    Ev (fun k => clause_partsOf.f k l F (i : Int)) (ends F (rd_T56 l (i : Int)).f1.toNat ((i : Int) - 1)) ∧ 0 ≤ (rd_T56 l (i : Int)).f1 := by
  have hv : ∀ (a : Nat) (q : Int), F[a]? = some q → 0 ≤ q ∧ q ≤ 1024 := fun a q h => by
    have ha : a < F.length := (List.getElem?_eq_some_iff.mp h).1
    obtain ⟨p, d, h1, h2, -⟩ := hfr a (by omega)
    rw [h] at h1
    obtain rfl := Option.some.inj h1
    omega
  obtain ⟨p, d, h1, h2, h3, h4⟩ := hfr i hi
  generalize hx : rd_T56 l (i : Int) = x at h4
  have h0 : 0 ≤ x.f1 := by rcases h4 with h | h <;> omega
  refine ⟨?_, h0⟩
  unfold clause_partsOf.f
  have hn : x.f1.toNat ≤ 1024 := by
    rcases h4 with ⟨h, -⟩ | ⟨h, h5, h6⟩
    · omega
    · have : ∀ (n a p : Nat), Walk F n a p → n ≤ a + 1 := by
        intro n
        induction n with
        | zero => intro a p _; omega
        | succ n ih =>
          rintro a p ⟨q, -, g2, ⟨rfl, -⟩ | ⟨-, g4, g5⟩⟩
          · omega
          · have := ih _ _ g5; omega
      have := this _ _ _ h6
      omega
  have e1 : wrap64 ((i : Int) - 1) = (i : Int) - 1 := w64 _ (by omega) (by omega)
  have e2 : wrap64 (x.f1 - 1) = x.f1 - 1 := w64 _ (by omega) (by omega)
  simp only [if_pos (show (0 : Int) ≤ (i : Int) by omega), if_pos (show (i : Int) < (l.length : Int) by omega), hx, if_pos h0, if_pos (show x.f1.toNat ≤ 35184372088832 by omega), e1, e2]
  rcases h4 with ⟨h, -⟩ | ⟨h, h5, h6⟩
  · rw [h]
    refine Ev.step (fun k => by rw [clause_partsOf.l0]) ?_
    simp only [if_neg (show ¬ ((0 : Int) - 1 ≥ 0) by omega)]
    exact Ev.const
  · obtain ⟨k, hk⟩ : ∃ k, x.f1.toNat = k + 1 := ⟨x.f1.toNat - 1, by omega⟩
    have := partsOf_l F (by omega) hv k (i - 1) p (List.replicate (k + 1) 0) (hk ▸ h6) (by rw [List.length_replicate]; omega) (by rw [List.length_replicate]; omega)
    rw [List.drop_eq_nil_of_le (by rw [List.length_replicate]; omega), List.append_nil] at this
    rw [hk, show x.f1 - 1 = (k : Int) by omega, show (i : Int) - 1 = ((i - 1 : Nat) : Int) by omega]
    exact this
theorem parts_ev' (l : List Nd) (F : List Int) (d : Int) (hs : small l) (hl : l.length ≤ 1024) (hw : wgo l [] = some [d]) (hFe : Ev (fun k => clause_fronts.f k l) F) (hF : F.length = l.length) (hfr : ∀ q, q < l.length → Front l F q) (i : Nat) (hi : i < l.length) :
    Ev (fun k => clause_Parts.f k l (i : Int)) (ends F (rd_T56 l (i : Int)).f1.toNat ((i : Int) - 1)) := by
  unfold clause_Parts.f
  refine Ev.bind (whole_ev l (by omega) hs) ?_
  rw [hw]
  simp only [show (wres (some [d])).2 = true from rfl, if_true, if_neg (show ¬ (l.length : Int) > 1024 by omega), if_neg (show ¬ (i : Int) < 0 by omega), decide_eq_false (show ¬ (i : Int) ≥ (l.length : Int) by omega)]
  refine Ev.step (fun k => by rw [clause_Parts.j0]) ?_
  simp only [Bool.false_eq_true, if_false]
  refine Ev.bind hFe ?_
  exact Ev.bind (parts_is l F hl hF hfr i hi).1 Ev.const
end Go.Proofs.Ytpfnnamicbbobaa.PL
/- Plain law, part 16: the type of a node is that of the formula that ends at it (KindParts). -/
namespace Go.Proofs.Ytpfnnamicbbobaa.PL
set_option linter.unusedSimpArgs false
set_option linter.unusedVariables false
set_option linter.unusedSectionVars false
open Go.RowKit Go.Proofs.YtpfnnamicbbobaaW.PrintWords Go.Proofs.YtpfnnamicbbobaaW.PrintMore Go.Proofs.Ytpfnnamicbbobaa.HS Go.Proofs.Ytpfnnamicbbobaa.PAll Go.Proofs.Ytpfnnamicbbobaa.HM
/-- A run over more than it needs leaves the rest. -/
theorem trun_unbase (g : ByteArray → Int) (base : List Int) : ∀ (l : List Nd) (sd d st s' : List Int), wgo l sd = some d → sd.length = st.length → trun g l (base ++ st) = some s' → ∃ st', trun g l st = some st' ∧ s' = base ++ st' ∧ st'.length = d.length
  | [], sd, d, st, s', hw, hl, h => ⟨st, rfl, (Option.some.inj h).symm, by rw [← hl, Option.some.inj hw]⟩
  | x :: r, sd, d, st, s', hw, hl, h => by
    obtain ⟨hn, h0, h1, hw⟩ := wgo_some hw
    unfold trun at h ⊢
    split at h
    · rename_i hc
      rw [nty_base g base st x h0 (by omega)] at hc h
      rw [push_base base st x _ h0 (by omega)] at h
      rw [if_pos ⟨hn, by omega, hc.2.2⟩]
      exact trun_unbase g base r _ d _ s' hw (by rw [push_len, List.length_append, List.length_take, List.length_singleton]; omega) h
    · cases h
theorem tgo_pre (g : ByteArray → Int) : ∀ (l : List Nd) (i : Int) (all st : List Int), (tgo g l i all st).2.2 = 0 → ∃ more, (tgo g l i all st).1 = all ++ more
  | [], i, all, st, _ => ⟨[], (List.append_nil _).symm⟩
  | x :: r, i, all, st, h => by
    unfold tgo at h ⊢
    by_cases hz : nty g st x = 0
    · rw [if_pos hz] at h
      exfalso
      by_cases h5 : x.f0 = 5 <;> simp [h5] at h
    · rw [if_neg hz] at h ⊢
      obtain ⟨more, hm⟩ := tgo_pre g r _ _ _ h
      exact ⟨_, by rw [hm, List.append_assoc]⟩
theorem tgo_at (g : ByteArray → Int) : ∀ (l : List Nd) (sd d st all : List Int) (i : Int), wgo l sd = some d → sd.length = st.length → (tgo g l i all st).2.2 = 0 → ∀ q, q < l.length →
    ∃ st', trun g (l.take (q + 1)) st = some st' ∧ (tgo g l i all st).1[all.length + q]? = st'.getLast?
  | [], sd, d, st, all, i, hw, hl, h, q, hq => by simp at hq
  | x :: r, sd, d, st, all, i, hw, hl, h, q, hq => by
    obtain ⟨hn, h0, h1, hw⟩ := wgo_some hw
    have ht : ∀ m, (x :: r).take (m + 1) = x :: r.take m := fun m => rfl
    rw [ht]
    unfold trun
    unfold tgo at h ⊢
    by_cases hz : nty g st x = 0
    · rw [if_pos hz] at h
      exfalso
      by_cases h5 : x.f0 = 5 <;> simp [h5] at h
    · rw [if_neg hz] at h
      rw [if_neg hz, if_pos ⟨hn, by omega, hz⟩]
      match q, hq with
      | 0, _ =>
        refine ⟨_, rfl, ?_⟩
        obtain ⟨more, hm⟩ := tgo_pre g r _ _ _ h
        rw [hm, push_last, Nat.add_zero, List.append_assoc, List.getElem?_append_right (Nat.le_refl _), Nat.sub_self]; rfl
      | q + 1, hq =>
        rw [List.length_cons] at hq
        obtain ⟨st', h2, h3⟩ := tgo_at g r _ d (push st x (nty g st x)) (all ++ [nty g st x]) (i + 1) hw (by rw [push_len, List.length_append, List.length_take, List.length_singleton]; omega) h q (by omega)
        refine ⟨st', h2, ?_⟩
        rw [List.length_append, List.length_singleton] at h3
        rw [show all.length + (q + 1) = all.length + 1 + q by omega]
        exact h3
theorem wgo_take (l : List Nd) (sd d : List Int) (j : Nat) (h : wgo l sd = some d) : ∃ d', wgo (l.take j) sd = some d' ∧ wgo (l.drop j) d' = some d := by
  rw [← List.take_append_drop j l, wgo_app] at h
  obtain ⟨d', h1, h2⟩ := Option.bind_eq_some_iff.mp h
  exact ⟨d', h1, h2⟩
theorem mx_le (a b c : Int) (h1 : a ≤ c) (h2 : b ≤ c) : mx a b ≤ c := by unfold mx; split <;> omega
theorem mx_l (a b : Int) : a ≤ mx a b := by unfold mx; split <;> omega
theorem mx_r (a b : Int) : b ≤ mx a b := by unfold mx; split <;> omega
theorem mxs_le : ∀ (l : List Int) (b c : Int), b ≤ c → (∀ e ∈ l, e ≤ c) → mxs b l ≤ c
  | [], b, c, hb, _ => hb
  | x :: r, b, c, hb, h => mxs_le r (mx b x) c (mx_le _ _ _ hb (h x List.mem_cons_self)) (fun e he => h e (List.mem_cons_of_mem _ he))
theorem mxs_b : ∀ (l : List Int) (b : Int), b ≤ mxs b l
  | [], b => Int.le_refl _
  | x :: r, b => Int.le_trans (mx_l b x) (mxs_b r (mx b x))
theorem mxs_ge : ∀ (l : List Int) (b e : Int), e ∈ l → e ≤ mxs b l
  | x :: r, b, e, h => by
    rcases List.mem_cons.mp h with rfl | h
    · exact Int.le_trans (mx_r b e) (mxs_b r (mx b e))
    · exact mxs_ge r (mx b x) e h
/-- A part is no deeper than the whole. -/
theorem wgo_deep : ∀ (l : List Nd) (sd d : List Int) (B : Int), wgo l sd = some d → 0 ≤ B → B + l.length ≤ 9223372036854775000 → (∀ e ∈ sd, e ≤ B) → ∀ e ∈ sd, ∃ D ∈ d, e ≤ D
  | [], sd, d, B, h, _, _, _, e, he => ⟨e, by rw [← Option.some.inj h]; exact he, Int.le_refl _⟩
  | x :: r, sd, d, B, h, hB0, hB, hs, e, he => by
    obtain ⟨hn, h0, h1, hw⟩ := wgo_some h
    rw [List.length_cons] at hB
    have hm : mxs 0 (sd.drop (sd.length - x.f1.toNat)) ≤ B := mxs_le _ _ _ hB0 fun e he => hs e (List.mem_of_mem_drop he)
    have h0m := mxs_b (sd.drop (sd.length - x.f1.toNat)) 0
    have ew : wrap64 (mxs 0 (sd.drop (sd.length - x.f1.toNat)) + 1) = mxs 0 (sd.drop (sd.length - x.f1.toNat)) + 1 := w64 _ (by omega) (by omega)
    rw [ew] at hw
    have ih := wgo_deep r _ d (B + 1) hw (by omega) (by omega) (fun e he => by
      rcases List.mem_append.mp he with h' | h'
      · have := hs e (List.mem_of_mem_take h'); omega
      · rw [List.mem_singleton] at h'; omega)
    have hsd : sd = sd.take (sd.length - x.f1.toNat) ++ sd.drop (sd.length - x.f1.toNat) := (List.take_append_drop _ _).symm
    rw [hsd] at he
    rcases List.mem_append.mp he with h' | h'
    · exact ih e (List.mem_append_left _ h')
    · obtain ⟨D, hD, hle⟩ := ih _ (List.mem_append_right _ (List.mem_singleton.mpr rfl))
      have := mxs_ge _ 0 e h'
      exact ⟨D, hD, by omega⟩
theorem wgo_small : ∀ (l : List Nd) (sd d : List Int) (B : Int), wgo l sd = some d → 0 ≤ B → B + l.length ≤ 9223372036854775000 → (∀ e ∈ sd, e ≤ B) → ∀ e ∈ d, e ≤ B + l.length
  | [], sd, d, B, h, _, _, hs, e, he => by
    rw [← Option.some.inj h] at he
    have := hs e he
    simp; omega
  | x :: r, sd, d, B, h, hB0, hB, hs, e, he => by
    obtain ⟨hn, h0, h1, hw⟩ := wgo_some h
    rw [List.length_cons] at hB ⊢
    have hm : mxs 0 (sd.drop (sd.length - x.f1.toNat)) ≤ B := mxs_le _ _ _ hB0 fun e he => hs e (List.mem_of_mem_drop he)
    have h0m := mxs_b (sd.drop (sd.length - x.f1.toNat)) 0
    have ew : wrap64 (mxs 0 (sd.drop (sd.length - x.f1.toNat)) + 1) = mxs 0 (sd.drop (sd.length - x.f1.toNat)) + 1 := w64 _ (by omega) (by omega)
    rw [ew] at hw
    have ih := wgo_small r _ d (B + 1) hw (by omega) (by omega) (fun e he => by
      rcases List.mem_append.mp he with h' | h'
      · have := hs e (List.mem_of_mem_take h'); omega
      · rw [List.mem_singleton] at h'; omega) e he
    omega
theorem checkF_of (l : List Nd) (d : Int) (hl : l.length ≤ 1024) (h : wgo l [] = some [d]) (hd : d ≤ 64) : checkF l = 0 := by
  unfold checkF
  rw [if_neg (by omega), h]
  show (if true = true then (if mx 0 d > 64 then (173 : Int) else 0) else 5) = 0
  rw [if_pos rfl, if_neg (by have := mx_le 0 d 64 (by omega) hd; omega)]
theorem mem_seg {l : List Nd} {p j : Nat} {x : Nd} (h : x ∈ seg l p j) : x ∈ l := List.mem_of_mem_take (List.mem_of_mem_drop h)
section
variable (l : List Nd) (ws : List Wd) (hs : small l) (hw : smallW ws) (t : Int) (he : (eachS l ws).2.2 = 0)
include hs hw he
/-- The formula that ends at a node has the node's type. -/
theorem part_type (F : List Int) (hfr : ∀ q, q < l.length → Front l F q) (i p : Nat) (hi : i < l.length) (hp : F[i]? = some (p : Int)) : p ≤ i ∧ ofS (seg l p (i + 1)) ws = (rd (eachS l ws).1 (i : Int), 0, 0) := by
  obtain ⟨hk, e1, -, e3, e4, e5⟩ := eachS_ok l ws he
  obtain ⟨hc, k2, k3⟩ := lookS_ok l ws hk
  obtain ⟨-, D, hD, hD64⟩ := checkF_ok l hc
  obtain ⟨p', d, g1, g2, g3, -⟩ := hfr i hi
  rw [hp] at g1
  obtain rfl : p = p' := by have := Option.some.inj g1; omega
  have hds : d ≤ 64 := by
    obtain ⟨d1, w1, w2⟩ := wgo_take l [] [D] (i + 1) hD
    obtain ⟨d0, v1, v2⟩ := wgo_take (l.take (i + 1)) [] d1 p w1
    have v2' : wgo (seg l p (i + 1)) d0 = some d1 := v2
    have v3 := wgo_base d0 _ _ _ g3
    rw [List.append_nil, v2'] at v3
    have hsm := wgo_small _ _ _ 0 w1 (by omega) (by rw [List.length_take]; omega) (fun e he => by cases he)
    obtain ⟨D', m1, m2⟩ := wgo_deep _ _ _ ((i + 1 : Nat) : Int) w2 (by omega) (by rw [List.length_drop]; omega) (fun e he => by
      have := hsm e he
      rw [List.length_take] at this
      omega) d (by rw [Option.some.inj v3]; exact List.mem_append_right _ (List.mem_singleton.mpr rfl))
    rw [List.mem_singleton] at m1
    have := mx_r 0 D
    omega
  have hcs : checkF (seg l p (i + 1)) = 0 := checkF_of _ d (by rw [seg_len l p (i + 1) (by omega)]; omega) g3 hds
  refine ⟨g2, ?_⟩
  have hlk := lookS_of _ ws hcs k2 k3
  rw [e1] at he
  obtain ⟨st', h2, h3⟩ := tgo_at (fnd ws) l [] [D] [] [] 0 hD rfl he i hi
  rw [← get_take (l.take (i + 1)) p, trun_app] at h2
  obtain ⟨sp, h4, h5⟩ := Option.bind_eq_some_iff.mp h2
  have h5' : trun (fnd ws) (seg l p (i + 1)) (sp ++ []) = some st' := by rw [List.append_nil]; exact h5
  obtain ⟨s1, h6, h7, h8⟩ := trun_unbase (fnd ws) sp _ [] [d] [] st' g3 rfl h5'
  match s1, h8 with
  | [t], _ =>
    rw [ofS_of _ ws t hlk h6]
    have : rd (eachS l ws).1 (i : Int) = t := by
      rw [e1]
      refine rd_get ?_
      rw [List.length_nil, Nat.zero_add] at h3
      rw [h3, h7, List.getLast?_append]; rfl
    rw [this]
theorem small_seg (p j : Nat) : small (seg l p j) := fun x hx => hs x (mem_seg hx)
theorem partsK_l0 (F : List Int) (hFe : Ev (fun k => clause_fronts.f k l) F) (hF : F.length = l.length) (hfr : ∀ q, q < l.length → Front l F q) : ∀ (m i : Nat), l.length - i = m → i ≤ l.length → Ev (fun k => tontinelaw18_KindParts.l0 k l ws (eachS l ws).1 (l.length : Int) (i : Int)) true := by
  obtain ⟨hk, e1, -, e3, e4, e5⟩ := eachS_ok l ws he
  obtain ⟨hc, -, -⟩ := lookS_ok l ws hk
  obtain ⟨-, D, hD, -⟩ := checkF_ok l hc
  intro m
  induction m with
  | zero =>
    intro i hm hi
    refine Ev.step (fun k => by rw [tontinelaw18_KindParts.l0]) ?_
    simp only [if_neg (show ¬ (i : Int) < (l.length : Int) by omega)]
    exact Ev.const
  | succ m ih =>
    intro i hm hi
    have hlt : i < l.length := by omega
    have next := ih (i + 1) (by omega) (by omega)
    obtain ⟨p, d, g1, g2, -, -⟩ := hfr i hlt
    obtain ⟨-, hof⟩ := part_type l ws hs hw he F hfr i p hlt g1
    have go : ∀ (n at_ : Nat), at_ ≤ n → at_ ≤ i → F[at_]? = some (p : Int) → Ev (fun k => tontinelaw18_KindParts.l1 k l ws (eachS l ws).1 (i : Int) (at_ : Int) (l.length : Int) (i : Int)) true := by
      intro n
      induction n with
      | zero =>
        intro a hn hai ha
        obtain ⟨p', d', q1, q2, -, q4⟩ := hfr a (by omega)
        refine Ev.step (fun k => by rw [tontinelaw18_KindParts.l1]) ?_
        refine Ev.bind (parts_ev' l F D hs e5 hD hFe hF hfr a (by omega)) ?_
        have hpp : p' = p := by rw [ha] at q1; have := Option.some.inj q1; omega
        subst hpp
        rcases q4 with ⟨z1, z2⟩ | ⟨z1, z2, z3⟩
        · subst z2
          simp only [ends_len, z1, show ((((0 : Int).toNat : Nat) : Int) = 0) from rfl, if_true, succ64 i _ hlt (by omega), if_pos (show (0 : Int) ≤ (p' : Int) by omega), if_pos (show (p' : Int) ≤ ((i + 1 : Nat) : Int) by omega), if_pos (show ((i + 1 : Nat) : Int) ≤ (l.length : Int) by omega), Int.toNat_natCast]
          refine Ev.bind (of_ev _ ws (small_seg l ws hs hw he p' (i + 1)) hw) ?_
          have hof' : ofS ((l.take (i + 1)).drop p') ws = (rd (eachS l ws).1 (i : Int), 0, 0) := hof
          simp only [hof', if_true, if_pos (show (0 : Int) ≤ (i : Int) by omega), if_pos (show (i : Int) < ((eachS l ws).1.length : Int) by omega), beq_self_eq_true, Bool.not_true, Bool.or_false, Bool.false_eq_true, if_false]
          exact next
        · omega
      | succ n ihn =>
        intro a hn hai ha
        obtain ⟨p', d', q1, q2, -, q4⟩ := hfr a (by omega)
        refine Ev.step (fun k => by rw [tontinelaw18_KindParts.l1]) ?_
        refine Ev.bind (parts_ev' l F D hs e5 hD hFe hF hfr a (by omega)) ?_
        have hpp : p' = p := by rw [ha] at q1; have := Option.some.inj q1; omega
        subst hpp
        rcases q4 with ⟨z1, z2⟩ | ⟨z1, z2, z3⟩
        · subst z2
          simp only [ends_len, z1, show ((((0 : Int).toNat : Nat) : Int) = 0) from rfl, if_true, succ64 i _ hlt (by omega), if_pos (show (0 : Int) ≤ (p' : Int) by omega), if_pos (show (p' : Int) ≤ ((i + 1 : Nat) : Int) by omega), if_pos (show ((i + 1 : Nat) : Int) ≤ (l.length : Int) by omega), Int.toNat_natCast]
          refine Ev.bind (of_ev _ ws (small_seg l ws hs hw he p' (i + 1)) hw) ?_
          have hof' : ofS ((l.take (i + 1)).drop p') ws = (rd (eachS l ws).1 (i : Int), 0, 0) := hof
          simp only [hof', if_true, if_pos (show (0 : Int) ≤ (i : Int) by omega), if_pos (show (i : Int) < ((eachS l ws).1.length : Int) by omega), beq_self_eq_true, Bool.not_true, Bool.or_false, Bool.false_eq_true, if_false]
          exact next
        · obtain ⟨e, r1, r2, r3⟩ := ends_head z3
          rw [show ((a : Int) - 1) = ((a - 1 : Nat) : Int) by omega]
          have hne : ¬ ((((rd_T56 l (a : Int)).f1.toNat : Nat) : Int) = 0) := by omega
          simp only [ends_len, if_neg hne, if_pos (show (0 : Int) < (((rd_T56 l (a : Int)).f1.toNat : Nat) : Int) by omega), r3, if_neg (show ¬ (e : Int) ≥ (a : Int) by omega)]
          exact ihn e (by omega) (by omega) r2
    refine Ev.step (fun k => by rw [tontinelaw18_KindParts.l0]) ?_
    simp only [if_pos (show (i : Int) < (l.length : Int) by omega)]
    exact go i i (Nat.le_refl _) (Nat.le_refl _) g1
end
theorem kindParts_ev (l : List Nd) (ws : List Wd) (hs : small l) (hw : smallW ws) : Ev (fun k => tontinelaw18_KindParts.f k l ws) true := by
  unfold tontinelaw18_KindParts.f
  refine Ev.bind works_ev ?_
  simp only [if_true]
  refine Ev.bind (each_ev l ws hs hw) ?_
  by_cases h : (eachS l ws).2.2 = 0
  · obtain ⟨hk, e1, e2, e3, e4, e5⟩ := eachS_ok l ws h
    obtain ⟨hc, -, -⟩ := lookS_ok l ws hk
    obtain ⟨-, D, hD, -⟩ := checkF_ok l hc
    simp only [e2, h, beq_self_eq_true, Bool.not_true, Bool.or_false, Bool.false_eq_true, if_false]
    refine Ev.bind (of_ev l ws hs hw) ?_
    have ho : ofS l ws = (rd (eachS l ws).1 ((l.length : Int) - 1), 0, 0) := if_pos h
    simp only [ho, e3, if_true, if_neg (show ¬ (l.length : Int) = 0 by omega), beq_self_eq_true, Bool.not_true, Bool.or_false, Bool.false_eq_true, if_false]
    rw [w64 _ (by omega) (by omega)]
    simp only [if_pos (show (0 : Int) ≤ (l.length : Int) - 1 by omega), if_pos (show (l.length : Int) - 1 < (l.length : Int) by omega), bne_self_eq_false]
    refine Ev.step (fun k => by rw [tontinelaw18_KindParts.j0]) ?_
    simp only [Bool.false_eq_true, if_false]
    obtain ⟨F, f1, f2, f3⟩ := fronts_ev l e5 [D] hD
    exact partsK_l0 l ws hs hw h F f1 f2 f3 l.length 0 (by omega) (by omega)
  · simp only [beq_eq_false_iff_ne.mpr h, Bool.not_false, Bool.or_true, if_true, eachS_bad l ws h, List.length_nil]
    simp only [show (((0 : Nat) : Int) = 0) from rfl, if_true, bne_iff_ne.mpr h]
    exact Ev.const
end Go.Proofs.Ytpfnnamicbbobaa.PL
