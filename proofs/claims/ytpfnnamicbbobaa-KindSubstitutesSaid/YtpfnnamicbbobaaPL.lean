/- Plain law, part 0: a printed function's answer for all fuels from one on. -/
import Derived.Test.YtpfnnamicbbobaaPAllx
import Derived.Test.YtpfnnamicbbobaaHS
import Derived.Lib.Bytealg
import Derived.Lib.IndexLaws
import Derived.KernelRfl
namespace Go.Proofs.Ytpfnnamicbbobaa.PL
open Go.RowKit Go.Proofs.YtpfnnamicbbobaaW.PrintWords Go.Proofs.YtpfnnamicbbobaaW.PrintMore Go.Proofs.Ytpfnnamicbbobaa.HS Go.Proofs.Ytpfnnamicbbobaa.PAll
section
variable {α β : Type}
/-- From some fuel on a function answers v. -/
def Ev (g : Nat → Option α) (v : α) : Prop := ∃ k0, ∀ k, k0 ≤ k → g k = some v
theorem Ev.const {v : α} : Ev (fun _ => some v) v := ⟨0, fun _ _ => rfl⟩
theorem Ev.bind {g : Nat → Option α} {h : Nat → α → Option β} {v : α} {u : β} (hg : Ev g v) (hh : Ev (fun k => h k v) u) : Ev (fun k => (g k).bind (h k)) u := by
  obtain ⟨a, ha⟩ := hg
  obtain ⟨b, hb⟩ := hh
  exact ⟨max a b, fun k hk => by show (g k).bind (h k) = some u; rw [ha k (by omega), Option.bind_some]; exact hb k (by omega)⟩
theorem Ev.step {g e : Nat → Option α} {v : α} (hs : ∀ k, g (k + 1) = e k) (he : Ev e v) : Ev g v := by
  obtain ⟨a, ha⟩ := he
  refine ⟨a + 1, fun k hk => ?_⟩
  obtain ⟨j, rfl⟩ : ∃ j, k = j + 1 := ⟨k - 1, by omega⟩
  rw [hs]
  exact ha j (by omega)
theorem Ev.congr {g e : Nat → Option α} {v : α} (hs : ∀ k, g k = e k) (he : Ev e v) : Ev g v := by
  obtain ⟨a, ha⟩ := he
  exact ⟨a, fun k hk => (hs k).trans (ha k hk)⟩
theorem Ev.get {g : Nat → Option α} {v : α} (h : Ev g v) : ∃ k, g k = some v := ⟨h.choose, h.choose_spec _ (Nat.le_refl _)⟩
theorem Ev.of {g : Nat → Option α} {v : α} (hm : ∀ k, LeO (g k) (g (k + 1))) {k0 : Nat} (h : g k0 = some v) : Ev g v :=
  ⟨k0, fun k hk => by
    induction k with
    | zero => obtain rfl : k0 = 0 := by omega
              exact h
    | succ k ih =>
      by_cases e : k0 = k + 1
      · exact e ▸ h
      · exact hm k v (ih (by omega))⟩
end
/-- A byte, as the list says it. -/
theorem bt_nat (s : ByteArray) (n : Nat) (h : n < s.size) : bt s (n : Int) = (s[n].toNat : Int) := (bt_at s n (by simpa using h)).symm
theorem toList_data (s : ByteArray) : s.toList = s.data.toList := ByteArray.toList_eq s
theorem w64 (n : Int) (h : -9223372036854775808 ≤ n) (h' : n ≤ 9223372036854775807) : wrap64 n = n := by unfold wrap64; omega
end Go.Proofs.Ytpfnnamicbbobaa.PL
/- Plain law, part 1: names: kind.isName, tontinebase.Name, clause.named, tontineref17.Word, clause.word. -/
namespace Go.Proofs.Ytpfnnamicbbobaa.PL
open Go.RowKit Go.Proofs.YtpfnnamicbbobaaW.PrintWords Go.Proofs.YtpfnnamicbbobaaW.PrintMore Go.Proofs.Ytpfnnamicbbobaa.HS Go.Proofs.Ytpfnnamicbbobaa.PAll
/-- What the inner loops say from a place on. -/
theorem inn_step (s : ByteArray) (k : Nat) (h : k < s.size) : ((s.data.toList.drop k).all innB) = (innB s[k] && ((s.data.toList.drop (k + 1)).all innB)) := by
  rw [drop_at s k h, List.all_cons]
theorem isName_l (s : ByteArray) (hs : s.size ≤ 9223372036854775807) : ∀ (m n : Nat), s.size - n = m → n ≤ s.size → Ev (fun k => kind_isName.l0 k s (s.size : Int) (n : Int)) ((s.data.toList.drop n).all innB) := by
  intro m
  induction m with
  | zero =>
    intro n hm hn
    refine Ev.step (fun k => by rw [kind_isName.l0]) ?_
    simp only [if_neg (show ¬ (n : Int) < (s.size : Int) by omega)]
    rw [List.drop_eq_nil_of_le (by simpa using (show s.size ≤ n by omega))]
    exact Ev.const
  | succ m ih =>
    intro n hm hn
    have hlt : n < s.size := by omega
    have hr := ih (n + 1) (by omega) (by omega)
    refine Ev.step (fun k => by rw [kind_isName.l0]) ?_
    simp only [if_pos (show (n : Int) < (s.size : Int) by omega), if_pos (show (0 : Int) ≤ (n : Int) by omega), bt_nat s n hlt, show wrap64 ((n : Int) + 1) = ((n + 1 : Nat) : Int) by rw [w64 _ (by omega) (by omega)]; rfl]
    rw [inn_step s n hlt]
    generalize hc : s[n] = c
    have hb : c.toNat < 256 := c.toNat_lt
    clear hc
    cases hi : innB c with
    | true =>
      have hi' : (97 ≤ c.toNat ∧ c.toNat ≤ 122) ∨ (48 ≤ c.toNat ∧ c.toNat ≤ 57) ∨ c.toNat = 95 := by simpa [innB, letB, digB] using hi
      clear hi
      rw [Bool.true_and]
      repeat' split
      all_goals first | exact hr | (exfalso; omega)
    | false =>
      have hi' : ¬ ((97 ≤ c.toNat ∧ c.toNat ≤ 122) ∨ (48 ≤ c.toNat ∧ c.toNat ≤ 57) ∨ c.toNat = 95) := fun q => by
        have : innB c = true := by simpa [innB, letB, digB] using q
        rw [hi] at this
        cases this
      clear hi
      rw [Bool.false_and]
      repeat' split
      all_goals first | exact Ev.const | (exfalso; omega)
theorem spanN_all (q : UInt8 → Bool) (l : List UInt8) : decide (spanN q l = l.length) = l.all q := by
  induction l with
  | nil => rfl
  | cons c r ih =>
    rw [spanN_cons, List.all_cons]
    cases hq : q c with
    | true => rw [if_pos rfl, Bool.true_and, ← ih]; simp
    | false => simp
theorem named_eq (s : ByteArray) (c : UInt8) (h0 : 0 < s.size) (hc : s[0] = c) : named s.data.toList = (decide (s.size ≤ 24) && (letB c && s.data.toList.all innB)) := by
  have e : s.data.toList = c :: s.data.toList.drop 1 := by rw [← hc]; simpa using drop_at s 0 h0
  have hl : s.data.toList.length = s.size := by simp
  rw [← spanN_all]
  generalize s.data.toList = l at e hl ⊢
  generalize l.drop 1 = r at e
  subst e
  simp only [List.length_cons] at hl
  show (decide (r.length < 24) && (letB c && decide (spanN innB (c :: r) = r.length + 1))) = _
  rw [show decide (r.length < 24) = decide (s.size ≤ 24) from decide_eq_decide.mpr (by omega)]
  rfl
theorem named_nil (s : ByteArray) (h0 : ¬ 0 < s.size) : named s.data.toList = false := by
  rw [show s.data.toList = [] from List.eq_nil_of_length_eq_zero (by rw [show s.data.toList.length = s.size by simp]; omega)]
  rfl
theorem size_nil (s : ByteArray) : s.toList = ([] : List UInt8) ↔ ¬ 0 < s.size := by
  rw [toList_data]
  constructor
  · intro h
    have h2 : s.data.toList.length = 0 := by rw [h]; rfl
    rw [show s.data.toList.length = s.size by simp] at h2
    omega
  · intro h
    exact List.eq_nil_of_length_eq_zero (by rw [show s.data.toList.length = s.size by simp]; omega)
theorem isName_ev (s : ByteArray) (hs : s.size ≤ 9223372036854775807) : Ev (fun k => kind_isName.f k s) (named s.data.toList) := by
  unfold kind_isName.f
  by_cases h0 : 0 < s.size
  · have hn : ¬ s.toList = ([] : List UInt8) := fun e => (size_nil s).mp e h0
    simp only [if_neg hn, if_pos (show 0 < (s.size : Int) by omega)]
    have hb := bt_nat s 0 h0
    rw [named_eq s _ h0 rfl]
    have hl := isName_l s hs s.size 0 (by omega) (by omega)
    rw [List.drop_zero] at hl
    rw [show ((0 : Nat) : Int) = 0 from rfl] at hb
    simp only [show ((0 : Nat) : Int) = 0 from rfl] at hl
    generalize hc : s[0] = c at hb ⊢
    clear hc
    have hct : c.toNat < 256 := c.toNat_lt
    rw [show bt s 0 = (c.toNat : Int) from hb]
    by_cases h1 : (s.size : Int) > 24
    · simp only [if_pos h1]
      refine Ev.step (fun k => by rw [kind_isName.j0]) ?_
      simp only [if_pos]
      rw [decide_eq_false (show ¬ s.size ≤ 24 by omega), Bool.false_and]
      exact Ev.const
    · simp only [if_neg h1]
      rw [decide_eq_true (show s.size ≤ 24 by omega), Bool.true_and]
      by_cases h2 : (c.toNat : Int) < 97
      · simp only [if_pos h2]
        refine Ev.step (fun k => by rw [kind_isName.j0]) ?_
        simp only [if_pos]
        rw [show letB c = false by simp [letB]; omega, Bool.false_and]
        exact Ev.const
      · simp only [if_neg h2]
        refine Ev.step (fun k => by rw [kind_isName.j0]) ?_
        by_cases h3 : (c.toNat : Int) > 122
        · simp only [decide_eq_true h3, if_pos]
          rw [show letB c = false by simp [letB]; omega, Bool.false_and]
          exact Ev.const
        · simp only [decide_eq_false h3, if_neg (show ¬ (false = true) by decide)]
          rw [show letB c = true by simp [letB]; omega, Bool.true_and]
          exact hl
  · simp only [if_pos ((size_nil s).mpr h0)]
    refine Ev.step (fun k => by rw [kind_isName.j0]) ?_
    simp only [if_pos]
    rw [named_nil s h0]
    exact Ev.const
end Go.Proofs.Ytpfnnamicbbobaa.PL
/- Plain law, part 2: numbers as they are written: the list's shape. -/
namespace Go.Proofs.Ytpfnnamicbbobaa.PL
open Go.Proofs.Ytpfnnamicbbobaa.HS
/-- A number, or (sum) what stands behind a $, as it is written. -/
def numOK (sum : Bool) (t : List UInt8) : Bool :=
  (decide (t.takeWhile digB ≠ []) && !(decide (1 < (t.takeWhile digB).length) && decide (t.head? = some 48))) &&
  match t.dropWhile digB with
  | [] => !sum && decide (t.length ≤ 18)
  | c :: d => (decide (c = 46) && (decide (d ≠ []) && d.all digB)) && (decide (t.length ≤ 19) && (!sum || decide (d.length = 2)))
theorem tw_all (l : List UInt8) : (l.takeWhile digB).all digB = true := by
  induction l with
  | nil => rfl
  | cons c r ih =>
    rw [List.takeWhile_cons]
    split
    · rename_i h; rw [List.all_cons, h, ih]; rfl
    · rfl
theorem dw_head (l d : List UInt8) (c : UInt8) (h : l.dropWhile digB = c :: d) : digB c = false := by
  induction l with
  | nil => cases h
  | cons x r ih =>
    rw [List.dropWhile_cons] at h
    split at h
    · exact ih h
    · rename_i hx
      cases h
      simpa using hx
theorem parts_eq (l : List UInt8) : l = l.takeWhile digB ++ l.dropWhile digB := List.takeWhile_append_dropWhile.symm
theorem tw_app (ds r : List UInt8) (h : ds.all digB = true) : (ds ++ r).takeWhile digB = ds ++ r.takeWhile digB := by
  induction ds with
  | nil => rfl
  | cons c t ih =>
    rw [List.all_cons, Bool.and_eq_true] at h
    rw [List.cons_append, List.takeWhile_cons, if_pos h.1, ih h.2]; rfl
theorem dw_app (ds r : List UInt8) (h : ds.all digB = true) : (ds ++ r).dropWhile digB = r.dropWhile digB := by
  induction ds with
  | nil => rfl
  | cons c t ih =>
    rw [List.all_cons, Bool.and_eq_true] at h
    rw [List.cons_append, List.dropWhile_cons, if_pos h.1, ih h.2]
theorem dig46 (c : UInt8) (h : digB c = true) : (c == 46) = false := by
  cases hc : c == 46 with
  | false => rfl
  | true =>
    rw [beq_iff_eq] at hc
    subst hc
    exact absurd h (by decide)
theorem count_dig (ds : List UInt8) (h : ds.all digB = true) : ds.count 46 = 0 := by
  induction ds with
  | nil => rfl
  | cons c t ih =>
    rw [List.all_cons, Bool.and_eq_true] at h
    rw [List.count_cons, ih h.2, dig46 c h.1]; rfl
theorem index_dig (ds : List UInt8) (h : ds.all digB = true) : Lib.indexByte ds 46 = -1 := by
  induction ds with
  | nil => rfl
  | cons c t ih =>
    rw [List.all_cons, Bool.and_eq_true] at h
    rw [Lib.indexByte, dig46 c h.1, ih h.2]; rfl
theorem index_dot (ds d : List UInt8) (h : ds.all digB = true) : Lib.indexByte (ds ++ 46 :: d) 46 = ds.length := by
  induction ds with
  | nil => rfl
  | cons c t ih =>
    rw [List.all_cons, Bool.and_eq_true] at h
    rw [List.cons_append, Lib.indexByte, dig46 c h.1, ih h.2]
    rw [show (((t.length : Int)) == -1) = false by rw [beq_eq_false_iff_ne]; omega]
    simp
theorem figs_app (ds r : List UInt8) (h : ds.all digB = true) (hr : r.takeWhile digB = []) : figs (ds ++ r) = if 0 < ds.length ∧ r.head? = some 46 then (if 0 < spanN digB r.tail then ds.length + (spanN digB r.tail + 1) else ds.length) else ds.length := by
  have hs : spanN digB (ds ++ r) = ds.length := by unfold spanN; rw [tw_app ds r h, hr, List.append_nil]
  have hx : (ds ++ r)[ds.length]? = r.head? := by rw [List.getElem?_append_right (Nat.le_refl _), Nat.sub_self]; cases r <;> rfl
  have hd : (ds ++ r).drop (ds.length + 1) = r.tail := by rw [List.drop_append]; simp
  unfold figs
  rw [hs, hx, hd]
theorem span_all (l : List UInt8) : spanN digB l = l.length ↔ l.all digB = true := by
  constructor
  · intro h
    unfold spanN at h
    have e := parts_eq l
    have hl := congrArg List.length e
    rw [List.length_append] at hl
    have : l.dropWhile digB = [] := List.eq_nil_of_length_eq_zero (by omega)
    rw [this, List.append_nil] at e
    rw [e]
    exact tw_all l
  · intro h
    have := tw_app l [] h
    rw [List.append_nil] at this
    unfold spanN
    rw [this]; simp
/-- The three shapes of a text. -/
theorem shapes (t : List UInt8) : (t.all digB = true) ∨ (∃ ds d, t = ds ++ 46 :: d ∧ ds.all digB = true) ∨ (∃ ds c d, t = ds ++ c :: d ∧ ds.all digB = true ∧ digB c = false ∧ c ≠ 46) := by
  cases h : t.dropWhile digB with
  | nil =>
    left
    have e := parts_eq t
    rw [h, List.append_nil] at e
    rw [e]; exact tw_all t
  | cons c d =>
    right
    have e := parts_eq t
    rw [h] at e
    have hc := dw_head t d c h
    by_cases h46 : c = 46
    · subst h46; exact .inl ⟨_, _, e, tw_all t⟩
    · exact .inr ⟨_, c, d, e, tw_all t, hc, h46⟩
theorem numOK_dig (sum : Bool) (ds : List UInt8) (h : ds.all digB = true) : numOK sum ds = ((decide (ds ≠ []) && !(decide (1 < ds.length) && decide (ds.head? = some 48))) && (!sum && decide (ds.length ≤ 18))) := by
  have e1 := tw_app ds [] h
  have e2 := dw_app ds [] h
  rw [List.append_nil] at e1 e2
  simp only [List.takeWhile_nil, List.append_nil, List.dropWhile_nil] at e1 e2
  unfold numOK
  rw [e1, e2]
theorem numOK_app (sum : Bool) (ds : List UInt8) (c : UInt8) (d : List UInt8) (h : ds.all digB = true) (hc : digB c = false) : numOK sum (ds ++ c :: d) = ((decide (ds ≠ []) && !(decide (1 < ds.length) && decide (ds.head? = some 48))) && ((decide (c = 46) && (decide (d ≠ []) && d.all digB)) && (decide (ds.length + d.length ≤ 18) && (!sum || decide (d.length = 2))))) := by
  have e1 := tw_app ds (c :: d) h
  have e2 := dw_app ds (c :: d) h
  rw [List.takeWhile_cons, if_neg (by simp [hc]), List.append_nil] at e1
  rw [List.dropWhile_cons, if_neg (by simp [hc])] at e2
  unfold numOK
  rw [e1, e2]
  have e3 : decide ((ds ++ c :: d).length ≤ 19) = decide (ds.length + d.length ≤ 18) := decide_eq_decide.mpr (by simp; omega)
  rw [e3]
  cases ds with
  | nil => rfl
  | cons x r => rfl
end Go.Proofs.Ytpfnnamicbbobaa.PL
/- Plain law, part 3: clause.number is numOK. -/
namespace Go.Proofs.Ytpfnnamicbbobaa.PL
open Go.RowKit Go.Proofs.YtpfnnamicbbobaaW.PrintWords Go.Proofs.YtpfnnamicbbobaaW.PrintMore Go.Proofs.Ytpfnnamicbbobaa.HS Go.Proofs.Ytpfnnamicbbobaa.PAll
theorem lsize (s : ByteArray) : s.data.toList.length = s.size := by simp
theorem count1 (s : ByteArray) : strings_Count.f s ⟨#[46]⟩ = some ((s.data.toList.count 46 : Nat) : Int) := rfl
theorem index1 (s : ByteArray) : stringslite_Index.f s ⟨#[46]⟩ = some (Lib.indexByte s.data.toList 46) := rfl
theorem ex_list (s : ByteArray) (a b : Nat) (_ : b ≤ s.size) : (s.extract a b).data.toList = (s.data.toList.drop a).take (b - a) := by
  rw [ByteArray.data_extract, Array.toList_extract, List.extract_eq_take_drop]
theorem ex_size (s : ByteArray) (a b : Nat) (h : b ≤ s.size) : (s.extract a b).size = b - a := by
  rw [ByteArray.size_extract]; omega
theorem many_eq (s : ByteArray) (hs : s.size ≤ 9223372036854775807) : clause_many.f s = some ((s.size : Int) - (s.data.toList.count 46 : Nat)) := by
  unfold clause_many.f
  rw [count1, Option.bind_some]
  have : s.data.toList.count 46 ≤ s.size := by rw [← lsize]; exact List.count_le_length
  rw [w64 _ (by omega) (by omega)]
/-- The three answers of Cut at a point. -/
theorem cut_none (s : ByteArray) (h : Lib.indexByte s.data.toList 46 = -1) : strings_Cut.f s ⟨#[46]⟩ = some (s, ⟨#[]⟩, false) := by
  unfold strings_Cut.f stringslite_Cut.f
  rw [index1, h]; rfl
theorem cut_some (s : ByteArray) (n : Nat) (hs : s.size ≤ 9223372036854775807) (hn : n < s.size) (h : Lib.indexByte s.data.toList 46 = n) : strings_Cut.f s ⟨#[46]⟩ = some (s.extract 0 n, s.extract (n + 1) s.size, true) := by
  unfold strings_Cut.f stringslite_Cut.f
  rw [index1, h, Option.bind_some]
  have hw : wrap64 ((n : Int) + ((⟨#[46]⟩ : ByteArray).size : Int)) = ((n + 1 : Nat) : Int) := by rw [show ((⟨#[46]⟩ : ByteArray).size) = 1 from rfl, w64 _ (by omega) (by omega)]; rfl
  rw [hw, if_pos (by omega), if_pos (by omega), if_pos (by omega), if_pos (by omega), if_pos (by omega)]
  rfl
/-- What 'early' and 'pennies' say. -/
theorem early_of (s p q : ByteArray) (b : Bool) (h : strings_Cut.f s ⟨#[46]⟩ = some (p, q, b)) : clause_early.f s = some (decide (1 < p.size) && decide (p.data.toList.head? = some 48)) := by
  unfold clause_early.f
  rw [h, Option.bind_some]
  show (if (p.size : Int) > 1 then (if 0 < (p.size : Int) then some (bt p 0 == 48) else none) else some false) = _
  by_cases h1 : 1 < p.size
  · rw [if_pos (by omega), if_pos (by omega), decide_eq_true h1, Bool.true_and]
    congr 1
    have e : p.data.toList.head? = some p[0] := by
      rw [show p.data.toList = p[0] :: p.data.toList.drop 1 by simpa using drop_at p 0 (by omega)]; rfl
    rw [e, show bt p 0 = (p[0].toNat : Int) from bt_nat p 0 (by omega)]
    rw [Bool.eq_iff_iff]
    simp only [beq_iff_eq, decide_eq_true_eq, Option.some.injEq]
    constructor
    · intro e; exact UInt8.toNat_inj.mp (by simpa using (show p[0].toNat = 48 by omega))
    · intro e; rw [e]; rfl
  · rw [if_neg (by omega), decide_eq_false h1, Bool.false_and]
theorem pennies_of (s p q : ByteArray) (b : Bool) (h : strings_Cut.f s ⟨#[46]⟩ = some (p, q, b)) : clause_pennies.f s = some (b && decide (q.size = 2)) := by
  unfold clause_pennies.f
  rw [h, Option.bind_some]
  cases b with
  | true => rw [if_pos rfl, Bool.true_and]; congr 1; rw [Bool.eq_iff_iff]; simp only [beq_iff_eq, decide_eq_true_eq]; omega
  | false => rfl
theorem amiss_of (s p q : ByteArray) (b sum : Bool) (hs : s.size ≤ 9223372036854775807) (h : strings_Cut.f s ⟨#[46]⟩ = some (p, q, b)) :
    ∃ e, clause_amiss.f s sum = some e ∧ (e == 0) = (decide ((s.size : Int) - (s.data.toList.count 46 : Nat) ≤ 18) && (!(decide (1 < p.size) && decide (p.data.toList.head? = some 48)) && (!sum || (b && decide (q.size = 2))))) := by
  unfold clause_amiss.f
  rw [many_eq s hs, Option.bind_some, early_of s p q b h, Option.bind_some, pennies_of s p q b h]
  by_cases h1 : (s.size : Int) - (s.data.toList.count 46 : Nat) > 18
  · rw [if_pos h1]
    exact ⟨_, rfl, by rw [decide_eq_false (by omega)]; rfl⟩
  · rw [if_neg h1, decide_eq_true (show (s.size : Int) - (s.data.toList.count 46 : Nat) ≤ 18 by omega), Bool.true_and]
    cases (decide (1 < p.size) && decide (p.data.toList.head? = some 48)) with
    | true => exact ⟨_, rfl, rfl⟩
    | false =>
      rw [if_neg (by decide)]
      cases sum with
      | false => exact ⟨_, rfl, rfl⟩
      | true =>
        rw [if_pos rfl, Option.bind_some]
        cases (b && decide (q.size = 2)) with
        | true => exact ⟨_, rfl, rfl⟩
        | false => exact ⟨_, rfl, rfl⟩
theorem number_eq (s : ByteArray) (sum : Bool) (hs : s.size ≤ 9223372036854775807) : clause_number.f s sum = some (numOK sum s.data.toList) := by
  have hl := lsize s
  unfold clause_number.f clause_figures.f
  rw [if_pos hs, Option.bind_some]
  rcases shapes s.data.toList with h | ⟨ds, d, e, h⟩ | ⟨ds, c, d, e, h, hc, h46⟩
  · have hf : figs s.data.toList = s.size := by
      have := figs_app s.data.toList [] h rfl
      rw [List.append_nil] at this
      rw [this, hl]; simp
    rw [hf, if_pos rfl, numOK_dig sum _ h]
    by_cases h0 : 0 < s.size
    · rw [if_neg (fun e => (size_nil s).mp e h0)]
      obtain ⟨x, hx, hx0⟩ := amiss_of s s ⟨#[]⟩ false sum hs (cut_none s (index_dig _ h))
      rw [hx, Option.bind_some, hx0, count_dig _ h, decide_eq_true (show s.data.toList ≠ [] by intro e; rw [e] at hl; simp at hl; omega)]
      congr 1
      rw [hl, show decide ((s.size : Int) - ((0 : Nat) : Int) ≤ 18) = decide (s.size ≤ 18) from decide_eq_decide.mpr (by omega)]
      cases (decide (1 < s.size) && decide (s.data.toList.head? = some 48)) <;> cases decide (s.size ≤ 18) <;> cases sum <;> rfl
    · rw [if_pos ((size_nil s).mpr h0), decide_eq_false (show ¬ s.data.toList ≠ [] from fun q => q (List.eq_nil_of_length_eq_zero (by omega)))]
      rfl
  · have hlen : s.size = ds.length + (d.length + 1) := by rw [← hl, e]; simp
    have hf : figs (ds ++ 46 :: d) = if 0 < ds.length then (if 0 < spanN digB d then ds.length + (spanN digB d + 1) else ds.length) else ds.length := by
      rw [figs_app ds (46 :: d) h rfl]
      by_cases q : 0 < ds.length
      · rw [if_pos ⟨q, rfl⟩, if_pos q]; rfl
      · rw [if_neg (fun z => q z.1), if_neg q]
    rw [e, hf, numOK_app sum ds 46 d h (by decide)]
    by_cases h1 : 0 < ds.length
    · rw [if_pos h1]
      by_cases h2 : 0 < spanN digB d
      · rw [if_pos h2]
        have hd : d ≠ [] := fun q => by rw [q] at h2; exact absurd h2 (by decide)
        by_cases h3 : spanN digB d = d.length
        · rw [if_pos (by omega), if_neg (fun q => (size_nil s).mp q (by omega))]
          have hi := index_dot ds d h
          rw [← e] at hi
          obtain ⟨x, hx, hx0⟩ := amiss_of s _ _ true sum hs (cut_some s ds.length hs (by omega) hi)
          rw [hx, Option.bind_some, hx0, ex_size _ _ _ (by omega), ex_size _ _ _ (Nat.le_refl _), ex_list _ _ _ (by omega), e, List.count_append, count_dig ds h, List.count_cons, count_dig d ((span_all d).mp h3)]
          rw [show (List.drop 0 (ds ++ 46 :: d)).take (ds.length - 0) = ds by simp]
          rw [decide_eq_true (show ds ≠ [] by intro q; rw [q] at h1; exact absurd h1 (by decide)), decide_eq_true hd, (span_all d).mp h3]
          congr 1
          rw [show decide ((s.size : Int) - ((0 + (0 + if (46 : UInt8) == 46 then 1 else 0) : Nat) : Int) ≤ 18) = decide (ds.length + d.length ≤ 18) from decide_eq_decide.mpr (by simp; omega), show decide (1 < ds.length - 0) = decide (1 < ds.length) from rfl, show decide (s.size - (ds.length + 1) = 2) = decide (d.length = 2) from decide_eq_decide.mpr (by omega)]
          cases (decide (1 < ds.length) && decide (ds.head? = some 48)) <;> cases decide (ds.length + d.length ≤ 18) <;> cases sum <;> cases decide (d.length = 2) <;> rfl
        · have := spanN_le digB d
          rw [if_neg (by omega)]
          rw [show d.all digB = false from Bool.eq_false_iff.mpr fun q => h3 ((span_all d).mpr q)]
          simp
      · rw [if_neg h2, if_neg (by omega)]
        have : (decide (d ≠ []) && d.all digB) = false := by
          cases hq : (decide (d ≠ []) && d.all digB) with
          | false => rfl
          | true =>
            rw [Bool.and_eq_true, decide_eq_true_eq] at hq
            have := (span_all d).mpr hq.2
            have h9 : d.length ≠ 0 := fun q => hq.1 (List.eq_nil_of_length_eq_zero q)
            omega
        rw [this]; simp
    · rw [if_neg h1, if_neg (by omega), decide_eq_false (show ¬ ds ≠ [] from fun q => q (List.eq_nil_of_length_eq_zero (by omega)))]
      rfl
  · have hlen : s.size = ds.length + (d.length + 1) := by rw [← hl, e]; simp
    have hf := figs_app ds (c :: d) h (by rw [List.takeWhile_cons, if_neg (by simp [hc])])
    rw [if_neg (by rintro ⟨_, q⟩; exact h46 (by simpa using q))] at hf
    rw [e, hf, if_neg (by omega), numOK_app sum ds c d h hc, decide_eq_false h46]
    simp
end Go.Proofs.Ytpfnnamicbbobaa.PL
/- Plain law, part 4: the document's Number and Sum are numOK. -/
namespace Go.Proofs.Ytpfnnamicbbobaa.PL
open Go.RowKit Go.Proofs.YtpfnnamicbbobaaW.PrintWords Go.Proofs.YtpfnnamicbbobaaW.PrintMore Go.Proofs.Ytpfnnamicbbobaa.HS Go.Proofs.Ytpfnnamicbbobaa.PAll
end Go.Proofs.Ytpfnnamicbbobaa.PL
/- Plain law, part 5: texts of nodes: what the program says and what the document says. -/
namespace Go.Proofs.Ytpfnnamicbbobaa.PL
set_option linter.unusedSimpArgs false
open Go.RowKit Go.Proofs.YtpfnnamicbbobaaW.PrintWords Go.Proofs.YtpfnnamicbbobaaW.PrintMore Go.Proofs.Ytpfnnamicbbobaa.HS Go.Proofs.Ytpfnnamicbbobaa.PAll
/-- Without a % at the end. -/
def strip (s : ByteArray) : ByteArray := if 0 < s.size ∧ bt s ((s.size : Int) - 1) = 37 then s.extract 0 (s.size - 1) else s
theorem strip_le (s : ByteArray) : (strip s).size ≤ s.size := by
  unfold strip
  split
  · rw [ex_size _ _ _ (by omega)]; omega
  · exact Nat.le_refl _
theorem one_list (c x : UInt8) : (([c] : List UInt8) == [x]) = decide ((c.toNat : Int) = x.toNat) := by
  rw [Bool.eq_iff_iff, decide_eq_true_eq, beq_iff_eq]
  constructor
  · intro h; cases h; rfl
  · intro h; rw [UInt8.toNat_inj.mp (show c.toNat = x.toNat by omega)]
theorem trim_eq (s : ByteArray) (hs : s.size ≤ 9223372036854775806) : strings_TrimSuffix.f s ⟨#[37]⟩ = some (strip s) := by
  unfold strings_TrimSuffix.f stringslite_TrimSuffix.f stringslite_HasSuffix.f
  have h1 : ((⟨#[37]⟩ : ByteArray).size : Int) = 1 := rfl
  rw [h1]
  by_cases h0 : 0 < s.size
  · have hw : wrap64 ((s.size : Int) - 1) = ((s.size - 1 : Nat) : Int) := by rw [w64 _ (by omega) (by omega)]; omega
    rw [hw, if_pos (by omega), if_pos (by omega), if_pos (by omega), if_pos (by omega), if_pos (by omega), Int.toNat_natCast, Option.bind_some]
    have e : (s.extract (s.size - 1) s.size).toList = [s[s.size - 1]] := by
      rw [toList_data, ex_list _ _ _ (Nat.le_refl _), drop_at s (s.size - 1) (by omega), show s.size - (s.size - 1) = 1 by omega]; rfl
    rw [e, show (⟨#[37]⟩ : ByteArray).toList = [37] by rw [toList_data], one_list]
    have hb : bt s ((s.size : Int) - 1) = (s[s.size - 1].toNat : Int) := by rw [show ((s.size : Int) - 1) = ((s.size - 1 : Nat) : Int) by omega, bt_nat s (s.size - 1) (by omega)]
    rw [show (((37 : UInt8).toNat : Nat) : Int) = 37 from rfl]
    by_cases h2 : (s[s.size - 1].toNat : Int) = 37
    · have hst : strip s = s.extract 0 (s.size - 1) := if_pos ⟨h0, hb.trans h2⟩
      rw [hst, decide_eq_true h2]; rfl
    · have hst : strip s = s := if_neg (fun q => h2 (hb.symm.trans q.2))
      rw [hst, decide_eq_false h2]; rfl
  · rw [if_neg (by omega)]
    have hst : strip s = s := if_neg (fun q => h0 q.1)
    rw [hst]; rfl
/-- A sum, as it is written. -/
def sumOK (l : List UInt8) : Bool := decide (l.head? = some 36) && numOK true l.tail
theorem head_bt (s : ByteArray) (h0 : 0 < s.size) (c : UInt8) : decide (s.data.toList.head? = some c) = decide (bt s 0 = c.toNat) := by
  have e : s.data.toList.head? = some s[0] := by
    rw [show s.data.toList = s[0] :: s.data.toList.drop 1 by simpa using drop_at s 0 h0]; rfl
  rw [e, show bt s 0 = (s[0].toNat : Int) from bt_nat s 0 h0]
  exact decide_eq_decide.mpr ⟨fun q => by rw [Option.some.inj q], fun q => by rw [UInt8.toNat_inj.mp (show s[0].toNat = c.toNat by omega)]⟩
theorem cutp_eq (s : ByteArray) : strings_CutPrefix.f s ⟨#[36]⟩ = some (if s.data.toList.head? = some 36 then (s.extract 1 s.size, true) else (s, false)) := by
  unfold strings_CutPrefix.f stringslite_CutPrefix.f stringslite_HasPrefix.f
  have h1 : ((⟨#[36]⟩ : ByteArray).size : Int) = 1 := rfl
  rw [h1]
  by_cases h0 : 0 < s.size
  · rw [if_pos (by omega), if_pos (by omega), if_pos (by omega), if_pos (by omega), Option.bind_some]
    have e : (s.extract 0 ((1 : Int).toNat)).toList = [s[0]] := by
      rw [toList_data, ex_list _ _ _ (by show 1 ≤ s.size; omega), drop_at s 0 (by omega)]; rfl
    rw [e, show (⟨#[36]⟩ : ByteArray).toList = [36] by rw [toList_data], one_list]
    have hd := head_bt s h0 36
    rw [show bt s 0 = (s[0].toNat : Int) from bt_nat s 0 h0] at hd
    rw [← hd]
    by_cases h2 : s.data.toList.head? = some 36
    · rw [if_pos h2, decide_eq_true h2, if_pos rfl, if_pos (by omega)]; rfl
    · rw [if_neg h2, decide_eq_false h2]; rfl
  · rw [if_neg (by omega), Option.bind_some]
    have : s.data.toList = [] := List.eq_nil_of_length_eq_zero (by rw [lsize]; omega)
    rw [this]; rfl
end Go.Proofs.Ytpfnnamicbbobaa.PL
/- Plain law, part 6: nodes. -/
namespace Go.Proofs.Ytpfnnamicbbobaa.PL
set_option linter.unusedSimpArgs false
open Go.RowKit Go.Proofs.YtpfnnamicbbobaaW.PrintWords Go.Proofs.YtpfnnamicbbobaaW.PrintMore Go.Proofs.Ytpfnnamicbbobaa.HS Go.Proofs.Ytpfnnamicbbobaa.PAll
def wordOK (s : ByteArray) : Bool := named s.data.toList && !Ytpfnnamicbbobaa.HB.keptB s
def textOK (op : Int) (s : ByteArray) : Bool := if op = 1 then numOK false (strip s).data.toList else if op = 2 then sumOK s.data.toList else if op = 5 then wordOK s else (s.toList == ([] : List UInt8))
/-- How many parts; -1: as many as it says, one at least. -/
def pcount (op : Int) : Int := if 1 ≤ op ∧ op ≤ 5 then 0 else if op = 6 ∨ op = 7 then 1 else if op = 20 then 3 else if op = 21 ∨ op = 22 then -1 else 2
def nodeOK (op n : Int) (s : ByteArray) : Bool := (decide (1 ≤ op ∧ op ≤ 23) && (decide (0 ≤ pcount op ∧ n = pcount op) || decide (pcount op < 0 ∧ 1 ≤ n))) && textOK op s
theorem parts_ev (op : Int) : Ev (fun k => clause_parts.f k op) (pcount op) := by
  unfold clause_parts.f
  have last : ¬ (1 ≤ op ∧ op ≤ 5) → Ev (fun k => clause_parts.j0 k op false) (pcount op) := by
    intro h
    refine Ev.step (fun k => by rw [clause_parts.j0]) ?_
    unfold pcount
    rw [if_neg h]
    by_cases h6 : op = 6
    · simp only [if_pos h6]
      refine Ev.step (fun k => by rw [clause_parts.j1]) ?_
      subst h6
      exact Ev.const
    · simp only [if_neg h6]
      refine Ev.step (fun k => by rw [clause_parts.j1]) ?_
      by_cases h7 : op = 7
      · subst h7; exact Ev.const
      · simp only [beq_eq_false_iff_ne.mpr h7, Bool.false_eq_true, if_false]
        rw [if_neg (show ¬ (op = 6 ∨ op = 7) by omega)]
        by_cases h20 : op = 20
        · simp only [if_pos h20]; exact Ev.const
        · simp only [if_neg h20]
          by_cases h21 : op = 21
          · simp only [if_pos h21]; rw [if_pos (.inl h21)]; exact Ev.const
          · simp only [if_neg h21]
            by_cases h22 : op = 22
            · simp only [if_pos h22]; rw [if_pos (.inr h22)]; exact Ev.const
            · simp only [if_neg h22]; rw [if_neg (by omega)]; exact Ev.const
  by_cases h : 1 ≤ op ∧ op ≤ 5
  · have first : Ev (fun k => clause_parts.j0 k op true) (pcount op) := by
      refine Ev.step (fun k => by rw [clause_parts.j0]) ?_
      unfold pcount
      rw [if_pos h]
      exact Ev.const
    have : op = 1 ∨ op = 2 ∨ op = 3 ∨ op = 4 ∨ op = 5 := by omega
    rcases this with rfl | rfl | rfl | rfl | rfl <;> exact first
  · simp only [if_neg (show ¬ op = 1 by omega), if_neg (show ¬ op = 2 by omega), if_neg (show ¬ op = 3 by omega), if_neg (show ¬ op = 4 by omega), beq_eq_false_iff_ne.mpr (show op ≠ 5 by omega)]
    exact last h
/-- Words between blanks. -/
def joined : List (List UInt8) → List UInt8
  | [] => [32]
  | w :: r => 32 :: (w ++ joined r)
def no32 (l : List UInt8) : Bool := l.all fun c => c != 32
theorem joined_head (ws : List (List UInt8)) : ∃ R, joined ws = 32 :: R := by cases ws <;> exact ⟨_, rfl⟩
theorem pre_eq : ∀ (s w R : List UInt8), no32 s = true → no32 w = true → (s ++ [32]).isPrefixOf (w ++ 32 :: R) = (w == s)
  | [], [], R, _, _ => by simp [List.isPrefixOf]
  | [], d :: w, R, _, hw => by
    rw [no32, List.all_cons, Bool.and_eq_true] at hw
    have : (32 == d) = false := by rw [beq_eq_false_iff_ne]; intro e; rw [← e] at hw; exact absurd hw.1 (by decide)
    simp [List.isPrefixOf, this]
  | c :: s, [], R, hs, _ => by
    rw [no32, List.all_cons, Bool.and_eq_true] at hs
    have : (c == 32) = false := by rw [beq_eq_false_iff_ne]; intro e; rw [e] at hs; exact absurd hs.1 (by decide)
    simp [List.isPrefixOf, this]
  | c :: s, d :: w, R, hs, hw => by
    rw [no32, List.all_cons, Bool.and_eq_true] at hs hw
    have ih := pre_eq s w R hs.2 hw.2
    rw [List.cons_append, List.cons_append, List.isPrefixOf, ih, List.cons_beq_cons, Bool.beq_comm (a := c) (b := d)]
theorem has_cons (b : UInt8) (l sub : List UInt8) : Lib.contains (b :: l) sub = (sub.isPrefixOf (b :: l) || Lib.contains l sub) := by
  unfold Lib.contains
  rw [Lib.index]
  have := Lib.index_ge l sub
  split
  · rename_i h; rw [h]; rfl
  · rename_i h
    rw [Bool.eq_false_iff.mpr h, Bool.false_or]
    split
    · rename_i h2; rw [beq_iff_eq] at h2; rw [h2]
    · rename_i h2; rw [beq_iff_eq] at h2; exact decide_eq_decide.mpr (by omega)
theorem has_skip (s : List UInt8) : ∀ (w l : List UInt8), no32 w = true → Lib.contains (w ++ l) (32 :: s) = Lib.contains l (32 :: s)
  | [], l, _ => rfl
  | d :: w, l, hw => by
    rw [no32, List.all_cons, Bool.and_eq_true] at hw
    have : (32 == d) = false := by rw [beq_eq_false_iff_ne]; intro e; rw [← e] at hw; exact absurd hw.1 (by decide)
    rw [List.cons_append, has_cons, has_skip s w l hw.2, List.isPrefixOf, this]; rfl
theorem has_joined (s : List UInt8) (hs : no32 s = true) : ∀ ws : List (List UInt8), (ws.all no32) = true → Lib.contains (joined ws) (32 :: (s ++ [32])) = ws.any fun w => w == s
  | [], _ => by
    cases s with
    | nil => rfl
    | cons c t =>
      rw [joined, has_cons]
      simp [List.isPrefixOf, Lib.contains, Lib.index]
  | w :: r, h => by
    rw [List.all_cons, Bool.and_eq_true] at h
    obtain ⟨R, hR⟩ := joined_head r
    rw [joined, has_cons, has_skip _ w _ h.1, has_joined s hs r h.2, List.any_cons]
    rw [hR, List.isPrefixOf, pre_eq s w R hs h.1]
    rfl
theorem no32_inn (l : List UInt8) (h : l.all innB = true) : no32 l = true := by
  rw [List.all_eq_true] at h
  unfold no32
  rw [List.all_eq_true]
  intro c hc
  have := h c hc
  rw [bne_iff_ne]
  intro e
  subst e
  exact absurd this (by decide)
theorem named_small (s : ByteArray) (h : named s.data.toList = true) : s.size ≤ 24 ∧ no32 s.data.toList = true := by
  by_cases h0 : 0 < s.size
  · rw [named_eq s _ h0 rfl, Bool.and_eq_true, Bool.and_eq_true, decide_eq_true_eq] at h
    exact ⟨h.1, no32_inn _ h.2.2⟩
  · rw [named_nil s h0] at h; cases h
theorem kept_eq (s : ByteArray) (h : no32 s.data.toList = true) : Lib.contains Ytpfnnamicbbobaa.HB.keptText (32 :: (s.data.toList ++ [32])) = Ytpfnnamicbbobaa.HB.keptB s := by
  have e : Ytpfnnamicbbobaa.HB.keptText = joined (Ytpfnnamicbbobaa.HB.keptWs.map fun x => x.data.toList) := by decide
  rw [e, has_joined _ h _ (by decide), List.any_map]
  unfold Ytpfnnamicbbobaa.HB.keptB
  congr 1
  funext x
  simp only [Function.comp, toList_data]
theorem word_eq (s : ByteArray) (hs : s.size ≤ 9223372036854775806) : clause_word.f s = some (wordOK s) := by
  unfold clause_word.f clause_named.f
  rw [if_pos (by omega), Option.bind_some]
  unfold wordOK
  cases h : named s.data.toList with
  | false => rfl
  | true =>
    have hn := named_small s h
    rw [if_pos rfl]
    unfold clause_isKept.f
    rw [if_pos hn.1, Option.bind_some, kept_eq s hn.2]
    rfl
theorem text_eq (op n : Int) (s : ByteArray) (hs : s.size ≤ 9223372036854775806) : clause_text.f op n s = some (textOK op s) := by
  unfold clause_text.f textOK
  have hst := strip_le s
  by_cases h1 : op = 1
  · rw [if_pos h1, if_pos h1, trim_eq s hs, Option.bind_some, number_eq _ false (by omega)]; rfl
  · rw [if_neg h1, if_neg h1]
    by_cases h2 : op = 2
    · rw [if_pos h2, if_pos h2, cutp_eq s, Option.bind_some]
      unfold sumOK
      by_cases h3 : s.data.toList.head? = some 36
      · rw [if_pos h3, decide_eq_true h3, Bool.true_and]
        have hx : 0 < s.size := by
          by_cases h0 : 0 < s.size
          · exact h0
          · rw [show s.data.toList = [] from List.eq_nil_of_length_eq_zero (by rw [lsize]; omega)] at h3; cases h3
        show (if true = true then (clause_number.f (s.extract 1 s.size) true).bind fun t => some t else some false) = _
        rw [if_pos rfl, number_eq _ true (by rw [ex_size _ _ _ (Nat.le_refl _)]; omega), ex_list _ _ _ (Nat.le_refl _), List.take_of_length_le (by rw [List.length_drop, lsize]; omega), List.drop_one]; rfl
      · rw [if_neg h3, decide_eq_false h3]; rfl
    · rw [if_neg h2, if_neg h2]
      by_cases h5 : op = 5
      · rw [if_pos h5, if_pos h5, word_eq s hs]; rfl
      · rw [if_neg h5, if_neg h5]
theorem node_ev (op n : Int) (s : ByteArray) (hs : s.size ≤ 9223372036854775806) : Ev (fun k => clause_node.f k op n s) (nodeOK op n s) := by
  unfold clause_node.f
  refine Ev.bind (parts_ev op) ?_
  simp only [text_eq op n s hs, Option.bind_some]
  unfold nodeOK
  by_cases h1 : op ≥ 1
  · by_cases h2 : op ≤ 23
    · rw [decide_eq_true (show 1 ≤ op ∧ op ≤ 23 from ⟨h1, h2⟩), Bool.true_and]
      simp only [if_pos h1, if_pos h2]
      by_cases h3 : pcount op ≥ 0
      · simp only [if_pos h3, if_neg (show ¬ pcount op < 0 by omega)]
        rw [decide_eq_false (show ¬ (pcount op < 0 ∧ 1 ≤ n) by omega), Bool.or_false]
        by_cases h4 : n = pcount op
        · simp only [if_pos h4]; rw [decide_eq_true ⟨h3, h4⟩, Bool.true_and]; exact Ev.const
        · simp only [if_neg h4]; rw [decide_eq_false (fun q => h4 q.2), Bool.false_and]; exact Ev.const
      · simp only [if_neg h3, if_pos (show pcount op < 0 by omega)]
        rw [decide_eq_false (show ¬ (0 ≤ pcount op ∧ n = pcount op) by omega), Bool.false_or]
        by_cases h4 : n ≥ 1
        · simp only [if_pos h4]; rw [decide_eq_true (show pcount op < 0 ∧ 1 ≤ n by omega), Bool.true_and]; exact Ev.const
        · simp only [if_neg h4]; rw [decide_eq_false (show ¬ (pcount op < 0 ∧ 1 ≤ n) by omega), Bool.false_and]; exact Ev.const
    · simp only [if_pos h1, if_neg h2]
      rw [decide_eq_false (fun q => h2 q.2), Bool.false_and, Bool.false_and]; exact Ev.const
  · simp only [if_neg h1]
    rw [decide_eq_false (fun q => h1 q.1), Bool.false_and, Bool.false_and]; exact Ev.const
end Go.Proofs.Ytpfnnamicbbobaa.PL
/- Plain law, part 7: whole formulas: clause.CheckFormula and the document's. -/
namespace Go.Proofs.Ytpfnnamicbbobaa.PL
set_option linter.unusedSimpArgs false
open Go.RowKit Go.Proofs.YtpfnnamicbbobaaW.PrintWords Go.Proofs.YtpfnnamicbbobaaW.PrintMore Go.Proofs.Ytpfnnamicbbobaa.HS Go.Proofs.Ytpfnnamicbbobaa.PAll
abbrev Nd := S56
/-- Texts are no longer than a memory bears. -/
def small (l : List Nd) : Prop := ∀ x ∈ l, x.f2.size ≤ 9223372036854775806
def mxs (b : Int) (l : List Int) : Int := l.foldl mx b
/-- How deep the formulas on the stack are; none: a node is wrong. -/
def wgo : List Nd → List Int → Option (List Int)
  | [], st => some st
  | x :: r, st => if nodeOK x.f0 x.f1 x.f2 = true ∧ x.f1 ≤ st.length then wgo r (st.take (st.length - x.f1.toNat) ++ [wrap64 (mxs 0 (st.drop (st.length - x.f1.toNat)) + 1)]) else none
def wres : Option (List Int) → Int × Bool
  | some [d] => (d, true)
  | _ => (0, false)
theorem nodeOK_n (op n : Int) (s : ByteArray) (h : nodeOK op n s = true) : 0 ≤ n := by
  unfold nodeOK at h
  simp only [Bool.and_eq_true, Bool.or_eq_true, decide_eq_true_eq] at h
  omega
theorem rd_drop (l : List Nd) (j : Nat) (h : j < l.length) : l.drop j = rd_T56 l (j : Int) :: l.drop (j + 1) := by
  rw [List.drop_eq_getElem_cons h]
  simp [rd_T56, List.getD_eq_getElem?_getD, h]
theorem rd_mem (l : List Nd) (j : Nat) (h : j < l.length) : rd_T56 l (j : Int) ∈ l := by
  have := List.mem_of_mem_drop (rd_drop l j h ▸ List.mem_cons_self)
  exact this
theorem rdi_drop (l : List Int) (j : Nat) (h : j < l.length) : l.drop j = rd l (j : Int) :: l.drop (j + 1) := by
  rw [List.drop_eq_getElem_cons h]
  simp [rd, List.getD_eq_getElem?_getD, h]
theorem succ64 (j n : Nat) (h : j < n) (hn : n ≤ 9223372036854775807) : wrap64 ((j : Int) + 1) = ((j + 1 : Nat) : Int) := by rw [w64 _ (by omega) (by omega)]; rfl
section
variable (l : List Nd) (hl : l.length ≤ 8796093022208)
theorem whole_l1 (st : List Int) (j : Nat) (x0 x1 : Int) (x2 : ByteArray) (V : Int × Bool) (h1 : 0 ≤ x1) (h2 : x1 ≤ st.length) (hst : st.length ≤ 8796093022208) (ys : List Int) (hys : ys.length ≤ 8796093022208) :
    ∀ (m i : Nat) (b : Int), ys.length - i = m → i ≤ ys.length → Ev (fun k => clause_whole.l0 k (st.take (st.length - x1.toNat) ++ [wrap64 (mxs b (ys.drop i) + 1)]) l (l.length : Int) (wrap64 ((j : Int) + 1))) V →
    Ev (fun k => clause_whole.l1 k st b l (l.length : Int) (j : Int) ys (ys.length : Int) (i : Int) x0 x1 x2) V := by
  intro m
  induction m with
  | zero =>
    intro i b hm hi h
    rw [List.drop_eq_nil_of_le (by omega)] at h
    refine Ev.step (fun k => by rw [clause_whole.l1]) ?_
    have hw : wrap64 ((st.length : Int) - x1) = ((st.length - x1.toNat : Nat) : Int) := by rw [w64 _ (by omega) (by omega)]; omega
    simp only [if_neg (show ¬ (i : Int) < (ys.length : Int) by omega), hw, if_pos (show (0 : Int) ≤ ((st.length - x1.toNat : Nat) : Int) by omega), if_pos (show ((st.length - x1.toNat : Nat) : Int) ≤ (st.length : Int) by omega), Int.toNat_natCast, Option.bind_some,
      if_pos (show (st.take (st.length - x1.toNat)).length < 17592186044416 by rw [List.length_take]; omega)]
    exact h
  | succ m ih =>
    intro i b hm hi h
    have hlt : i < ys.length := by omega
    rw [rdi_drop ys i hlt] at h
    have := ih (i + 1) (mx b (rd ys i)) (by omega) (by omega) h
    refine Ev.step (fun k => by rw [clause_whole.l1]) ?_
    simp only [if_pos (show (i : Int) < (ys.length : Int) by omega), if_pos (show (0 : Int) ≤ (i : Int) by omega), succ64 i _ hlt (by omega)]
    exact this
include hl in
theorem whole_l (hs : small l) : ∀ (m j : Nat) (st : List Int), l.length - j = m → j ≤ l.length → st.length ≤ j → Ev (fun k => clause_whole.l0 k st l (l.length : Int) (j : Int)) (wres (wgo (l.drop j) st)) := by
  intro m
  induction m with
  | zero =>
    intro j st hm hj hst
    rw [List.drop_eq_nil_of_le (by omega)]
    refine Ev.step (fun k => by rw [clause_whole.l0]) ?_
    simp only [if_neg (show ¬ (j : Int) < (l.length : Int) by omega)]
    match st with
    | [] => exact Ev.const
    | [d] => exact Ev.const
    | a :: b :: r =>
      simp only [if_neg (show ¬ (((a :: b :: r : List Int).length : Nat) : Int) = 1 by simp; omega)]
      exact Ev.const
  | succ m ih =>
    intro j st hm hj hst
    have hlt : j < l.length := by omega
    have hmem := rd_mem l j hlt
    rw [rd_drop l j hlt]
    refine Ev.step (fun k => by rw [clause_whole.l0]) ?_
    generalize hx : rd_T56 l (j : Int) = x at hmem ⊢
    simp only [if_pos (show (j : Int) < (l.length : Int) by omega), if_pos (show (0 : Int) ≤ (j : Int) by omega), hx]
    refine Ev.bind (node_ev x.f0 x.f1 x.f2 (hs x hmem)) ?_
    unfold wgo
    have no : Ev (fun k => clause_whole.j1 k st l (l.length : Int) (j : Int) true x.f0 x.f1 x.f2) (0, false) := by
      refine Ev.step (fun k => by rw [clause_whole.j1]) ?_
      exact Ev.const
    cases hn : nodeOK x.f0 x.f1 x.f2 with
    | false =>
      rw [if_neg (by simp)]
      exact no
    | true =>
      have h0 := nodeOK_n _ _ _ hn
      by_cases h1 : x.f1 ≤ st.length
      · rw [if_pos ⟨rfl, h1⟩, decide_eq_false (show ¬ x.f1 > (st.length : Int) by omega)]
        simp only [if_true]
        refine Ev.step (fun k => by rw [clause_whole.j1]) ?_
        have hw : wrap64 ((st.length : Int) - x.f1) = ((st.length - x.f1.toNat : Nat) : Int) := by rw [w64 _ (by omega) (by omega)]; omega
        simp only [Bool.false_eq_true, if_false, hw, if_pos (show (0 : Int) ≤ ((st.length - x.f1.toNat : Nat) : Int) by omega), if_pos (show ((st.length - x.f1.toNat : Nat) : Int) ≤ (st.length : Int) by omega), Int.toNat_natCast, Option.bind_some]
        refine whole_l1 l st j x.f0 x.f1 x.f2 _ h0 h1 (by omega) _ (by rw [List.length_drop]; omega) _ 0 0 rfl (by omega) ?_
        rw [List.drop_zero, succ64 j _ hlt (by omega)]
        exact ih (j + 1) _ (by omega) (by omega) (by rw [List.length_append, List.length_take, List.length_singleton]; omega)
      · rw [if_neg (fun q => h1 q.2), decide_eq_true (show x.f1 > (st.length : Int) by omega)]
        exact no
include hl in
theorem whole_ev (hs : small l) : Ev (fun k => clause_whole.f k l) (wres (wgo l [])) := by
  unfold clause_whole.f
  exact whole_l l hl hs l.length 0 [] (by omega) (by omega) (by simp)
include hl in
include hl in
end
/-- What CheckFormula says. -/
def checkF (l : List Nd) : Int := if l.length > 1024 then 3 else if (wres (wgo l [])).2 = true then (if mx 0 (wres (wgo l [])).1 > 64 then 173 else 0) else 5
theorem check_ev (l : List Nd) (hs : small l) : Ev (fun k => clause_CheckFormula.f k l) (checkF l) := by
  unfold clause_CheckFormula.f clause_worst.f checkF
  by_cases h : l.length > 1024
  · rw [if_pos h, decide_eq_true (show (l.length : Int) > 1024 by omega)]
    exact Ev.const
  · rw [if_neg h, decide_eq_false (show ¬ (l.length : Int) > 1024 by omega)]
    simp only [Bool.false_eq_true, if_false]
    have hw := whole_ev l (by omega) hs
    refine Ev.bind (v := _) (h := fun _ t => some t) ?_ Ev.const
    refine Ev.step (fun k => by rw [clause_worst.l0]) ?_
    simp only [show ((([l] : List (List Nd)).length : Nat) : Int) = 1 from rfl, if_pos (show (0 : Int) < 1 by omega), if_pos (show (0 : Int) ≤ 0 by omega), show rd_L23 [l] 0 = l from rfl]
    refine Ev.bind hw ?_
    cases hb : (wres (wgo l [])).2 with
    | false => exact Ev.const
    | true =>
      simp only [if_true]
      refine Ev.step (fun k => by rw [clause_worst.l0]) ?_
      simp only [show wrap64 (0 + 1) = 1 by rw [w64 _ (by omega) (by omega)]; rfl, if_neg (show ¬ (1 : Int) < 1 by omega)]
      by_cases h2 : mx 0 (wres (wgo l [])).1 > 64
      · simp only [if_pos h2]; exact Ev.const
      · simp only [if_neg h2]; exact Ev.const
end Go.Proofs.Ytpfnnamicbbobaa.PL
/- Plain law, part 8: the chapter's two examples; copies; the same formulas. -/
namespace Go.Proofs.Ytpfnnamicbbobaa.PL
set_option linter.unusedSimpArgs false
open Go.RowKit Go.Proofs.YtpfnnamicbbobaaW.PrintWords Go.Proofs.YtpfnnamicbbobaaW.PrintMore Go.Proofs.Ytpfnnamicbbobaa.HS Go.Proofs.Ytpfnnamicbbobaa.PAll
theorem works_60 : tontinelaw18_works.f 60 = some true := by kernel_rfl
theorem works_ev : Ev (fun k => tontinelaw18_works.f k) true := Ev.of (tontinelaw18_works.mono) works_60
theorem checkF_len (l : List Nd) (h : checkF l = 0) : l.length ≤ 1024 := by
  unfold checkF at h
  split at h
  · cases h
  · omega
theorem checkF_long (l : List Nd) (h : l.length > 1024) : checkF l = 3 := if_pos h
end Go.Proofs.Ytpfnnamicbbobaa.PL
/- Plain law, part 9: Put. -/
namespace Go.Proofs.Ytpfnnamicbbobaa.PL
set_option linter.unusedSimpArgs false
open Go.RowKit Go.Proofs.YtpfnnamicbbobaaW.PrintWords Go.Proofs.YtpfnnamicbbobaaW.PrintMore Go.Proofs.Ytpfnnamicbbobaa.HS Go.Proofs.Ytpfnnamicbbobaa.PAll
/-- What comes of a formula that was put together. -/
def fin (out : List Nd) : List Nd × Int := if checkF out = 0 then (out, 0) else ([], checkF out)
theorem fin_long (l : List Nd) (h : l.length > 1024) : fin l = ([], 3) := by
  unfold fin
  rw [checkF_long l h]; rfl
def put1 (w : ByteArray) (g : List Nd) (x : Nd) : List Nd := if x.f0 = 5 ∧ x.f2.toList = w.toList then g else [x]
def puts (f : List Nd) (w : ByteArray) (g : List Nd) : List Nd := f.flatMap (put1 w g)
theorem small_puts (f : List Nd) (w : ByteArray) (g : List Nd) (hf : small f) (hg : small g) : small (puts f w g) := by
  intro x hx
  unfold puts at hx
  rw [List.mem_flatMap] at hx
  obtain ⟨y, hy, hx⟩ := hx
  unfold put1 at hx
  split at hx
  · exact hg x hx
  · rw [List.mem_singleton] at hx; exact hx ▸ hf y hy
theorem small_app (a b : List Nd) (ha : small a) (hb : small b) : small (a ++ b) := fun x hx => by
  rcases List.mem_append.mp hx with h | h
  · exact ha x h
  · exact hb x h
section
variable (l : List Nd) (w : ByteArray) (g : List Nd) (hl : l.length ≤ 1024) (hs : small l) (hgl : g.length ≤ 1024) (hg : small g)
include hl hs hgl hg
theorem put_l : ∀ (m j : Nat) (acc : List Nd), l.length - j = m → j ≤ l.length → acc.length ≤ 2048 → small acc → Ev (fun k => kind_Put.l0 k w g acc l (l.length : Int) (j : Int)) (fin (acc ++ puts (l.drop j) w g)) := by
  intro m
  induction m with
  | zero =>
    intro j acc hm hj ha hsa
    rw [List.drop_eq_nil_of_le (by omega), show puts [] w g = [] from rfl, List.append_nil]
    refine Ev.step (fun k => by rw [kind_Put.l0]) ?_
    simp only [if_neg (show ¬ (j : Int) < (l.length : Int) by omega)]
    refine Ev.bind (check_ev acc hsa) ?_
    unfold fin
    by_cases h : checkF acc = 0
    · simp only [if_pos h]; exact Ev.const
    · simp only [if_neg h]; exact Ev.const
  | succ m ih =>
    intro j acc hm hj ha hsa
    have hlt : j < l.length := by omega
    have hmem := rd_mem l j hlt
    rw [rd_drop l j hlt]
    refine Ev.step (fun k => by rw [kind_Put.l0]) ?_
    generalize hx : rd_T56 l (j : Int) = x at hmem ⊢
    simp only [if_pos (show (j : Int) < (l.length : Int) by omega), if_pos (show (0 : Int) ≤ (j : Int) by omega), hx]
    rw [show puts (x :: l.drop (j + 1)) w g = put1 w g x ++ puts (l.drop (j + 1)) w g from rfl, ← List.append_assoc]
    have go : ∀ y : List Nd, small y → Ev (fun k => if (y.length : Int) > 2048 then some (([] : List Nd), (3 : Int)) else kind_Put.l0 k w g y l (l.length : Int) (wrap64 ((j : Int) + 1))) (fin (y ++ puts (l.drop (j + 1)) w g)) := by
      intro y hy
      by_cases h : (y.length : Int) > 2048
      · simp only [if_pos h]
        rw [fin_long _ (by rw [List.length_append]; omega)]; exact Ev.const
      · simp only [if_neg h, succ64 j _ hlt (by omega)]
        exact ih (j + 1) y (by omega) (by omega) (by omega) hy
    have yes : x.f0 = 5 ∧ x.f2.toList = w.toList → Ev (fun k => kind_Put.j1 k w g acc l (l.length : Int) (j : Int) true x.f0 x.f1 x.f2) (fin (acc ++ put1 w g x ++ puts (l.drop (j + 1)) w g)) := by
      intro hq
      refine Ev.step (fun k => by rw [kind_Put.j1]) ?_
      simp only [if_true, if_pos (show acc.length + g.length < 4398046511104 by omega), Option.bind_some]
      rw [show put1 w g x = g from if_pos hq]
      exact go _ (small_app _ _ hsa hg)
    have no : ¬ (x.f0 = 5 ∧ x.f2.toList = w.toList) → Ev (fun k => kind_Put.j1 k w g acc l (l.length : Int) (j : Int) false x.f0 x.f1 x.f2) (fin (acc ++ put1 w g x ++ puts (l.drop (j + 1)) w g)) := by
      intro hq
      refine Ev.step (fun k => by rw [kind_Put.j1]) ?_
      simp only [Bool.false_eq_true, if_false, if_pos (show acc.length < 4398046511104 by omega), Option.bind_some]
      rw [show put1 w g x = [x] from if_neg hq]
      exact go _ (small_app _ _ hsa (fun z hz => by rw [List.mem_singleton] at hz; exact hz ▸ hs x hmem))
    by_cases h5 : x.f0 = 5
    · simp only [if_pos h5]
      by_cases h6 : x.f2.toList = w.toList
      · simp only [beq_iff_eq.mpr h6]; exact yes ⟨h5, h6⟩
      · simp only [beq_eq_false_iff_ne.mpr h6]; exact no (fun q => h6 q.2)
    · simp only [if_neg h5]; exact no (fun q => h5 q.1)
end
/-- What Put answers. -/
def putS (f : List Nd) (w : ByteArray) (g : List Nd) : List Nd × Int :=
  if checkF f = 0 then (if named w.data.toList = true then (if checkF g = 0 then fin (puts f w g) else ([], checkF g)) else ([], 2)) else ([], checkF f)
theorem put_ev (f : List Nd) (w : ByteArray) (g : List Nd) (hf : small f) (hw : w.size ≤ 9223372036854775807) (hg : small g) : Ev (fun k => kind_Put.f k f w g) (putS f w g) := by
  unfold kind_Put.f putS
  refine Ev.bind (check_ev f hf) ?_
  by_cases h1 : checkF f = 0
  · simp only [if_pos h1]
    refine Ev.bind (isName_ev w hw) ?_
    cases named w.data.toList with
    | false => exact Ev.const
    | true =>
      simp only [if_true]
      refine Ev.bind (check_ev g hg) ?_
      by_cases h2 : checkF g = 0
      · simp only [if_pos h2]
        have := put_l f w g (checkF_len f h1) hf (checkF_len g h2) hg f.length 0 [] (by omega) (by omega) (by simp) (fun x hx => by cases hx)
        exact this
      · simp only [if_neg h2]; exact Ev.const
  · simp only [if_neg h1]; exact Ev.const
end Go.Proofs.Ytpfnnamicbbobaa.PL
/- Plain law, part 10: the type of a node: kind.node answers what the document's made does. -/
namespace Go.Proofs.Ytpfnnamicbbobaa.PL
set_option linter.unusedSimpArgs false
open Go.RowKit Go.Proofs.YtpfnnamicbbobaaW.PrintWords Go.Proofs.YtpfnnamicbbobaaW.PrintMore Go.Proofs.Ytpfnnamicbbobaa.HS Go.Proofs.Ytpfnnamicbbobaa.PAll Go.Proofs.Ytpfnnamicbbobaa.HD
theorem plain_eq (a : Int) : kind_plain.f a = some (calcB a) := by
  unfold kind_plain.f calcB
  by_cases h : a = 1
  · simp [h]
  · simp [h]
theorem when_eq (b : Bool) (t : Int) : kind_when.f b t = some (whenS b t) := by
  unfold kind_when.f whenS
  cases b <;> rfl
theorem product_eq (k : Nat) (a b : Int) : kind_product.f (k + 1) a b = some (mul2 a b) := by
  unfold kind_product.f mul2 whenS
  simp only [kind_product.j0, plain_eq, calcB, Option.bind_some]
  by_cases h1 : a = 1 <;> by_cases h2 : b = 1 <;> by_cases h3 : a = 2 <;> by_cases h4 : b = 2 <;> simp [h1, h2, h3, h4] <;> (try omega)
theorem quotient_eq (k : Nat) (a b : Int) : kind_quotient.f (k + 1) a b = some (div2 a b) := by
  unfold kind_quotient.f div2 whenS
  simp only [kind_quotient.j0, plain_eq, calcB, Option.bind_some]
  by_cases h1 : a = 1 <;> by_cases h2 : b = 1 <;> by_cases h3 : a = 2 <;> by_cases h4 : b = 2 <;> simp [h1, h2, h3, h4] <;> (try omega)
theorem alike_eq (a : Int) (r : List Int) : kind_alike.f (a :: r) = some (calcB a && !(r.any fun x => x != a)) := by
  unfold kind_alike.f Ytpfnnamicbbobaa.HC.odd calcB
  simp
theorem most_eq (a : Int) (r : List Int) : mostN a (a :: r) = whenS (calcB a && !(r.any fun x => x != a)) a := by
  unfold mostN whenS
  cases h : (r.any fun x => x != a) <;> simp [h, whenS]
theorem rd0 (a : Int) (r : List Int) : rd (a :: r) 0 = a := rfl
theorem rd1 (a b : Int) (r : List Int) : rd (a :: b :: r) 1 = b := rfl
theorem rd2 (a b c : Int) (r : List Int) : rd (a :: b :: c :: r) 2 = c := rfl
theorem pos1 (a : Int) (r : List Int) : (0 : Int) < (((a :: r : List Int).length : Nat) : Int) := by rw [List.length_cons]; omega
theorem pos2 (a b : Int) (r : List Int) : (1 : Int) < (((a :: b :: r : List Int).length : Nat) : Int) := by rw [List.length_cons, List.length_cons]; omega
theorem pos3 (a b c : Int) (r : List Int) : (2 : Int) < (((a :: b :: c :: r : List Int).length : Nat) : Int) := by rw [List.length_cons, List.length_cons, List.length_cons]; omega
theorem bne2 (a b : Int) : (!(b != a)) = (b == a) := by unfold bne; simp
theorem beq_sw (a b : Int) : (a == b) = (b == a) := by
  rw [Bool.eq_iff_iff, beq_iff_eq, beq_iff_eq]
  exact eq_comm
/-- The type of a node by those of its parts. -/
def madeS (a0 : Int) (l1 : List Int) : Option Int :=
  match l1 with
  | [] => if a0 = 1 then some (1) else if a0 = 2 then some (2) else if a0 = 3 then some (3) else if a0 = 4 then some (3) else none
  | [a] => if a0 = 6 then some (whenS (calcB a) a) else if a0 = 7 then some (whenS (a == 3) 3) else if a0 = 21 ∨ a0 = 22 then some (mostN a l1) else none
  | [a, b] => if a0 = 8 then some (mul2 a b) else if a0 = 9 then some (div2 a b) else if a0 = 10 then some (whenS (calcB a && b == a) a) else if a0 = 11 then some (whenS (calcB a && b == a) a) else if a0 = 12 then some (whenS (calcB a && b == a) 3) else if a0 = 13 then some (whenS (calcB a && b == a) 3) else if a0 = 14 then some (whenS (calcB a && b == a) 3) else if a0 = 15 then some (whenS (calcB a && b == a) 3) else if a0 = 16 then some (whenS (b == a) 3) else if a0 = 17 then some (whenS (b == a) 3) else if a0 = 18 then some (whenS (a == 3 && b == 3) 3) else if a0 = 19 then some (whenS (a == 3 && b == 3) 3) else if a0 = 23 then some (whenS (calcB a && b == a) a) else if a0 = 21 ∨ a0 = 22 then some (mostN a l1) else none
  | [a, b, d] => if a0 = 20 then some (whenS (a == 3 && d == b) b) else if a0 = 21 ∨ a0 = 22 then some (mostN a l1) else none
  | a :: _ :: _ :: _ :: _ => if a0 = 21 ∨ a0 = 22 then some (mostN a l1) else none
theorem node_is (op : Int) (l : List Int) (t : Int) (h : madeS op l = some t) : kind_node.f 6 op l = some t := by
  unfold madeS at h
  match l with
  | [] =>
    have hc : op = 1 ∨ op = 2 ∨ op = 3 ∨ op = 4 ∨ (op ≠ 1 ∧ op ≠ 2 ∧ op ≠ 3 ∧ op ≠ 4) := by omega
    rcases hc with rfl | rfl | rfl | rfl | hne
    all_goals first
      | (simp only [Int.reduceEq, ↓reduceIte, or_true, true_or, or_false, false_or, reduceCtorEq] at h; done)
      | (simp only [Int.reduceEq, ↓reduceIte, or_true, true_or, or_false, false_or] at h
         obtain rfl := Option.some.inj h
         simp [kind_node.f, kind_node.j0, kind_node.j1, kind_node.j2, kind_node.j3, when_eq, product_eq, quotient_eq, alike_eq, most_eq, rd0, rd1, rd2, pos1, pos2, pos3, bne2] <;> first | omega | (rw [beq_sw]; done) | (by_cases q : a = 3 <;> simp [q, beq_sw b d, whenS]) | (by_cases q : a = 3 <;> simp [q, whenS]))
      | (exfalso; revert h; simp [hne])
  | [a] =>
    have hc : op = 6 ∨ op = 7 ∨ op = 21 ∨ op = 22 ∨ (op ≠ 6 ∧ op ≠ 7 ∧ op ≠ 21 ∧ op ≠ 22) := by omega
    rcases hc with rfl | rfl | rfl | rfl | hne
    all_goals first
      | (simp only [Int.reduceEq, ↓reduceIte, or_true, true_or, or_false, false_or, reduceCtorEq] at h; done)
      | (simp only [Int.reduceEq, ↓reduceIte, or_true, true_or, or_false, false_or] at h
         obtain rfl := Option.some.inj h
         simp [kind_node.f, kind_node.j0, kind_node.j1, kind_node.j2, kind_node.j3, when_eq, product_eq, quotient_eq, alike_eq, most_eq, rd0, rd1, rd2, pos1, pos2, pos3, bne2] <;> first | omega | (rw [beq_sw]; done) | (by_cases q : a = 3 <;> simp [q, beq_sw b d, whenS]) | (by_cases q : a = 3 <;> simp [q, whenS]))
      | (exfalso; revert h; simp [hne])
  | [a, b] =>
    have hc : op = 8 ∨ op = 9 ∨ op = 10 ∨ op = 11 ∨ op = 12 ∨ op = 13 ∨ op = 14 ∨ op = 15 ∨ op = 16 ∨ op = 17 ∨ op = 18 ∨ op = 19 ∨ op = 21 ∨ op = 22 ∨ op = 23 ∨ (op ≠ 8 ∧ op ≠ 9 ∧ op ≠ 10 ∧ op ≠ 11 ∧ op ≠ 12 ∧ op ≠ 13 ∧ op ≠ 14 ∧ op ≠ 15 ∧ op ≠ 16 ∧ op ≠ 17 ∧ op ≠ 18 ∧ op ≠ 19 ∧ op ≠ 21 ∧ op ≠ 22 ∧ op ≠ 23) := by omega
    rcases hc with rfl | rfl | rfl | rfl | rfl | rfl | rfl | rfl | rfl | rfl | rfl | rfl | rfl | rfl | rfl | hne
    all_goals first
      | (simp only [Int.reduceEq, ↓reduceIte, or_true, true_or, or_false, false_or, reduceCtorEq] at h; done)
      | (simp only [Int.reduceEq, ↓reduceIte, or_true, true_or, or_false, false_or] at h
         obtain rfl := Option.some.inj h
         simp [kind_node.f, kind_node.j0, kind_node.j1, kind_node.j2, kind_node.j3, when_eq, product_eq, quotient_eq, alike_eq, most_eq, rd0, rd1, rd2, pos1, pos2, pos3, bne2] <;> first | omega | (rw [beq_sw]; done) | (by_cases q : a = 3 <;> simp [q, beq_sw b d, whenS]) | (by_cases q : a = 3 <;> simp [q, whenS]))
      | (exfalso; revert h; simp [hne])
  | [a, b, d] =>
    have hc : op = 20 ∨ op = 21 ∨ op = 22 ∨ (op ≠ 20 ∧ op ≠ 21 ∧ op ≠ 22) := by omega
    rcases hc with rfl | rfl | rfl | hne
    all_goals first
      | (simp only [Int.reduceEq, ↓reduceIte, or_true, true_or, or_false, false_or, reduceCtorEq] at h; done)
      | (simp only [Int.reduceEq, ↓reduceIte, or_true, true_or, or_false, false_or] at h
         obtain rfl := Option.some.inj h
         simp [kind_node.f, kind_node.j0, kind_node.j1, kind_node.j2, kind_node.j3, when_eq, product_eq, quotient_eq, alike_eq, most_eq, rd0, rd1, rd2, pos1, pos2, pos3, bne2] <;> first | omega | (rw [beq_sw]; done) | (by_cases q : a = 3 <;> simp [q, beq_sw b d, whenS]) | (by_cases q : a = 3 <;> simp [q, whenS]))
      | (exfalso; revert h; simp [hne])
  | a :: b :: d :: e :: r =>
    have hc : op = 21 ∨ op = 22 ∨ (op ≠ 21 ∧ op ≠ 22) := by omega
    rcases hc with rfl | rfl | hne
    all_goals first
      | (simp only [Int.reduceEq, ↓reduceIte, or_true, true_or, or_false, false_or, reduceCtorEq] at h; done)
      | (simp only [Int.reduceEq, ↓reduceIte, or_true, true_or, or_false, false_or] at h
         obtain rfl := Option.some.inj h
         simp [kind_node.f, kind_node.j0, kind_node.j1, kind_node.j2, kind_node.j3, when_eq, product_eq, quotient_eq, alike_eq, most_eq, rd0, rd1, rd2, pos1, pos2, pos3, bne2] <;> first | omega | (rw [beq_sw]; done) | (by_cases q : a = 3 <;> simp [q, beq_sw b d, whenS]) | (by_cases q : a = 3 <;> simp [q, whenS]))
      | (exfalso; revert h; simp [hne])
/-- The type of a right node, by those of its parts. -/
def typ (op : Int) (l : List Int) : Int := (madeS op l).getD 0
theorem made_some (op n : Int) (s : ByteArray) (l : List Int) (hn : nodeOK op n s = true) (h5 : op ≠ 5) (hl : (l.length : Int) = n) : madeS op l = some (typ op l) := by
  unfold nodeOK at hn
  simp only [Bool.and_eq_true, Bool.or_eq_true, decide_eq_true_eq] at hn
  obtain ⟨⟨⟨g1, g2⟩, g3⟩, -⟩ := hn
  suffices h : ∃ t, madeS op l = some t by
    obtain ⟨t, h⟩ := h
    unfold typ
    rw [h]; rfl
  have hc : op = 1 ∨ op = 2 ∨ op = 3 ∨ op = 4 ∨ op = 6 ∨ op = 7 ∨ op = 8 ∨ op = 9 ∨ op = 10 ∨ op = 11 ∨ op = 12 ∨ op = 13 ∨ op = 14 ∨ op = 15 ∨ op = 16 ∨ op = 17 ∨ op = 18 ∨ op = 19 ∨ op = 20 ∨ op = 21 ∨ op = 22 ∨ op = 23 := by omega
  match l with
  | [] => rcases hc with rfl | rfl | rfl | rfl | rfl | rfl | rfl | rfl | rfl | rfl | rfl | rfl | rfl | rfl | rfl | rfl | rfl | rfl | rfl | rfl | rfl | rfl <;> simp [pcount] at g3 hl <;> first | omega | exact ⟨_, rfl⟩
  | [a] => rcases hc with rfl | rfl | rfl | rfl | rfl | rfl | rfl | rfl | rfl | rfl | rfl | rfl | rfl | rfl | rfl | rfl | rfl | rfl | rfl | rfl | rfl | rfl <;> simp [pcount] at g3 hl <;> first | omega | exact ⟨_, rfl⟩
  | [a, b] => rcases hc with rfl | rfl | rfl | rfl | rfl | rfl | rfl | rfl | rfl | rfl | rfl | rfl | rfl | rfl | rfl | rfl | rfl | rfl | rfl | rfl | rfl | rfl <;> simp [pcount] at g3 hl <;> first | omega | exact ⟨_, rfl⟩
  | [a, b, c] => rcases hc with rfl | rfl | rfl | rfl | rfl | rfl | rfl | rfl | rfl | rfl | rfl | rfl | rfl | rfl | rfl | rfl | rfl | rfl | rfl | rfl | rfl | rfl <;> simp [pcount] at g3 hl <;> first | omega | exact ⟨_, rfl⟩
  | a :: b :: c :: d :: r => rcases hc with rfl | rfl | rfl | rfl | rfl | rfl | rfl | rfl | rfl | rfl | rfl | rfl | rfl | rfl | rfl | rfl | rfl | rfl | rfl | rfl | rfl | rfl <;> simp [pcount] at g3 hl <;> first | omega | exact ⟨_, rfl⟩
theorem node_typ (op n : Int) (s : ByteArray) (l : List Int) (hn : nodeOK op n s = true) (h5 : op ≠ 5) (hl : (l.length : Int) = n) : Ev (fun k => kind_node.f k op l) (typ op l) :=
  Ev.of (kind_node.mono op l) (node_is op l _ (made_some op n s l hn h5 hl))
end Go.Proofs.Ytpfnnamicbbobaa.PL
/- Plain law, part 11: words that are handed in, and what they stand for: known and looked, the map and find. -/
namespace Go.Proofs.Ytpfnnamicbbobaa.PL
set_option linter.unusedSimpArgs false
open Go.RowKit Go.Proofs.YtpfnnamicbbobaaW.PrintWords Go.Proofs.YtpfnnamicbbobaaW.PrintMore Go.Proofs.Ytpfnnamicbbobaa.HS Go.Proofs.Ytpfnnamicbbobaa.PAll Go.Proofs.Ytpfnnamicbbobaa.HM
abbrev Wd := S59
def smallW (l : List Wd) : Prop := ∀ x ∈ l, x.f0.size ≤ 9223372036854775806
theorem bytes_ext (a b : ByteArray) : a.toList = b.toList ↔ a = b := by
  rw [toList_data, toList_data]
  constructor
  · intro h
    exact ByteArray.ext (Array.toList_inj.mp h)
  · intro h; rw [h]
theorem rdw_drop (l : List Wd) (j : Nat) (h : j < l.length) : l.drop j = rd_T59 l (j : Int) :: l.drop (j + 1) := by
  rw [List.drop_eq_getElem_cons h]
  simp [rd_T59, List.getD_eq_getElem?_getD, h]
theorem rdw_mem (l : List Wd) (j : Nat) (h : j < l.length) : rd_T59 l (j : Int) ∈ l :=
  List.mem_of_mem_drop (rdw_drop l j h ▸ List.mem_cons_self)
def wordOKt (x : Wd) : Bool := named x.f0.data.toList && (decide (1 ≤ x.f1) && decide (x.f1 ≤ 3))
def wordsOK (ws : List Wd) : Bool := ws.all wordOKt
def mfold (m : List (ByteArray × Int)) (ws : List Wd) : List (ByteArray × Int) := ws.foldl (fun m x => mput m x.f0 x.f1) m
/-- What a name stands for: the last one counts; 0: nothing. -/
def fnd (ws : List Wd) (s : ByteArray) : Int := ws.foldl (fun a x => if s = x.f0 then x.f1 else a) 0
theorem mget_fold (s : ByteArray) : ∀ (ws : List Wd) (m : List (ByteArray × Int)), (mget (mfold m ws) s).getD 0 = ws.foldl (fun a x => if s = x.f0 then x.f1 else a) ((mget m s).getD 0)
  | [], m => rfl
  | x :: r, m => by
    have := mget_fold s r (mput m x.f0 x.f1)
    rw [mget_put] at this
    unfold mfold at this ⊢
    rw [List.foldl_cons, List.foldl_cons, this]
    by_cases h : s = x.f0 <;> simp [h]
theorem mgetD_fold (ws : List Wd) (b : Nat) : (fun s => mgetD ⟨b, mfold [] ws⟩ s) = fnd ws := by
  funext s
  show (mget (mfold [] ws) s).getD 0 = _
  rw [mget_fold]; rfl
theorem go_ev : ∀ (ws : List Wd) (m : List (ByteArray × Int)), smallW ws → Ev (fun k => kind_known.go k ws m) (if wordsOK ws = true then some (mfold m ws) else none)
  | [], m, _ => Ev.const
  | x :: r, m, hs => by
    have ih := go_ev r (mput m x.f0 x.f1) (fun y hy => hs y (List.mem_cons_of_mem _ hy))
    refine Ev.congr (e := fun k => (kind_isName.f k x.f0).bind fun b => if b = true ∧ 1 ≤ x.f1 ∧ x.f1 ≤ 3 then kind_known.go k r (mput m x.f0 x.f1) else some none) (fun k => rfl) ?_
    refine Ev.bind (isName_ev x.f0 (by have := hs x List.mem_cons_self; omega)) ?_
    have e : wordsOK (x :: r) = (wordOKt x && wordsOK r) := rfl
    by_cases hc : named x.f0.data.toList = true ∧ 1 ≤ x.f1 ∧ x.f1 ≤ 3
    · simp only [if_pos hc]
      have : wordOKt x = true := by unfold wordOKt; simp [hc.1, hc.2.1, hc.2.2]
      rw [e, this, Bool.true_and]
      exact ih
    · simp only [if_neg hc]
      have : wordOKt x = false := by
        rw [Bool.eq_false_iff]
        intro q
        unfold wordOKt at q
        simp only [Bool.and_eq_true, decide_eq_true_eq] at q
        exact hc ⟨q.1, q.2.1, q.2.2⟩
      rw [e, this, Bool.false_and]
      exact Ev.const
/-- What is wrong with a formula and words. -/
def lookS (l : List Nd) (ws : List Wd) : Int := if checkF l = 0 then (if ws.length > 4096 then 3 else if wordsOK ws = true then 0 else 5) else checkF l
theorem known_ev (l : List Nd) (ws : List Wd) (hs : small l) (hw : smallW ws) : Ev (fun k => kind_known.f k l ws) (lookS l ws, if lookS l ws = 0 then mfold [] ws else []) := by
  unfold kind_known.f lookS
  refine Ev.bind (check_ev l hs) ?_
  by_cases h : checkF l = 0
  · simp only [if_pos h]
    by_cases h2 : ws.length > 4096
    · simp only [if_pos h2]; exact Ev.const
    · simp only [if_neg h2]
      refine Ev.bind (go_ev ws [] hw) ?_
      cases hq : wordsOK ws with
      | true => exact Ev.const
      | false => exact Ev.const
  · simp only [if_neg h]
    exact Ev.const
end Go.Proofs.Ytpfnnamicbbobaa.PL
/- Plain law, part 12: the types of a right formula's nodes: each and typed; Each and Of of both. -/
namespace Go.Proofs.Ytpfnnamicbbobaa.PL
set_option linter.unusedSimpArgs false
open Go.RowKit Go.Proofs.YtpfnnamicbbobaaW.PrintWords Go.Proofs.YtpfnnamicbbobaaW.PrintMore Go.Proofs.Ytpfnnamicbbobaa.HS Go.Proofs.Ytpfnnamicbbobaa.PAll Go.Proofs.Ytpfnnamicbbobaa.HM
/-- A node's type, where names stand for g and the types st are on the stack. -/
def nty (g : ByteArray → Int) (st : List Int) (x : Nd) : Int := if x.f0 = 5 then g x.f2 else typ x.f0 (st.drop (st.length - x.f1.toNat))
def push (st : List Int) (x : Nd) (t : Int) : List Int := st.take (st.length - x.f1.toNat) ++ [t]
/-- The types of all nodes; the place and the error, if one is wrong. -/
def tgo (g : ByteArray → Int) : List Nd → Int → List Int → List Int → List Int × Int × Int
  | [], _, all, _ => (all, 0, 0)
  | x :: r, i, all, st => if nty g st x = 0 then ([], i, if x.f0 = 5 then 181 else 180) else tgo g r (i + 1) (all ++ [nty g st x]) (push st x (nty g st x))
theorem wgo_cons {x : Nd} {r : List Nd} {sd d : List Int} (h : wgo (x :: r) sd = some d) : nodeOK x.f0 x.f1 x.f2 = true ∧ 0 ≤ x.f1 ∧ x.f1 ≤ sd.length ∧ ∃ y, wgo r (sd.take (sd.length - x.f1.toNat) ++ [y]) = some d := by
  unfold wgo at h
  split at h
  · rename_i hc
    exact ⟨hc.1, nodeOK_n _ _ _ hc.1, hc.2, _, h⟩
  · cases h
theorem push_len (st : List Int) (x : Nd) (t : Int) : (push st x t).length = st.length - x.f1.toNat + 1 := by
  unfold push
  rw [List.length_append, List.length_take, List.length_singleton]; omega
section
variable (l : List Nd) (hl : l.length ≤ 1024)
include hl
theorem each_l (M : MapV) : ∀ (m j : Nat) (sd st all d : List Int), l.length - j = m → j ≤ l.length → wgo (l.drop j) sd = some d → sd.length = st.length → st.length ≤ j → all.length ≤ j →
    Ev (fun k => kind_each.l0 k M all st l (l.length : Int) (j : Int)) (tgo (fun s => mgetD M s) (l.drop j) j all st) := by
  intro m
  induction m with
  | zero =>
    intro j sd st all d hm hj hw hsd hst hall
    rw [List.drop_eq_nil_of_le (by omega)]
    refine Ev.step (fun k => by rw [kind_each.l0]) ?_
    simp only [if_neg (show ¬ (j : Int) < (l.length : Int) by omega)]
    exact Ev.const
  | succ m ih =>
    intro j sd st all d hm hj hw hsd hst hall
    have hlt : j < l.length := by omega
    rw [rd_drop l j hlt] at hw ⊢
    refine Ev.step (fun k => by rw [kind_each.l0]) ?_
    generalize hx : rd_T56 l (j : Int) = x at hw ⊢
    obtain ⟨hn, h0, h1, y, hw⟩ := wgo_cons hw
    have ew : wrap64 ((st.length : Int) - x.f1) = ((st.length - x.f1.toNat : Nat) : Int) := by rw [w64 _ (by omega) (by omega)]; omega
    simp only [if_pos (show (j : Int) < (l.length : Int) by omega), if_pos (show (0 : Int) ≤ (j : Int) by omega), hx, ew, if_pos (show (0 : Int) ≤ ((st.length - x.f1.toNat : Nat) : Int) by omega),
      if_pos (show ((st.length - x.f1.toNat : Nat) : Int) ≤ (st.length : Int) by omega), Int.toNat_natCast, Option.bind_some]
    unfold tgo
    have go : ∀ t : Int, nty (fun s => mgetD M s) st x = t → Ev (fun k => if (st.take (st.length - x.f1.toNat)).length < 17592186044416 then (if all.length < 17592186044416 then kind_each.l0 k M (all ++ [t]) (st.take (st.length - x.f1.toNat) ++ [t]) l (l.length : Int) (wrap64 ((j : Int) + 1)) else none) else none) (tgo (fun s => mgetD M s) (l.drop (j + 1)) ((j : Int) + 1) (all ++ [nty (fun s => mgetD M s) st x]) (push st x (nty (fun s => mgetD M s) st x))) := by
      intro t ht
      rw [ht]
      simp only [if_pos (show (st.take (st.length - x.f1.toNat)).length < 17592186044416 by rw [List.length_take]; omega), if_pos (show all.length < 17592186044416 by omega), succ64 j _ hlt (by omega)]
      refine ih (j + 1) _ (push st x t) (all ++ [t]) d (by omega) (by omega) hw ?_ ?_ ?_
      · rw [push_len, List.length_append, List.length_take, List.length_singleton]; omega
      · rw [push_len]; omega
      · rw [List.length_append, List.length_singleton]; omega
    by_cases h5 : x.f0 = 5
    · have e : nty (fun s => mgetD M s) st x = mgetD M x.f2 := if_pos h5
      simp only [if_pos h5]
      by_cases hz : mgetD M x.f2 = 0
      · rw [if_pos (e.trans hz)]
        simp only [if_pos hz]; exact Ev.const
      · rw [if_neg (fun q => hz (e.symm.trans q))]
        simp only [if_neg hz]
        exact go _ e
    · have e : nty (fun s => mgetD M s) st x = typ x.f0 (st.drop (st.length - x.f1.toNat)) := if_neg h5
      simp only [if_neg h5]
      refine Ev.bind (node_typ x.f0 x.f1 x.f2 _ hn h5 (by rw [List.length_drop]; omega)) ?_
      by_cases hz : typ x.f0 (st.drop (st.length - x.f1.toNat)) = 0
      · rw [if_pos (e.trans hz)]
        simp only [if_pos hz]; exact Ev.const
      · rw [if_neg (fun q => hz (e.symm.trans q))]
        simp only [if_neg hz]
        exact go _ e
end
section
variable (l : List Nd) (hl : l.length ≤ 1024) (ws : List Wd) (hw0 : ws.length ≤ 4096)
include hl hw0
end
theorem checkF_ok (l : List Nd) (h : checkF l = 0) : l.length ≤ 1024 ∧ ∃ d, wgo l [] = some [d] ∧ mx 0 d ≤ 64 := by
  refine ⟨checkF_len l h, ?_⟩
  unfold checkF at h
  split at h
  · cases h
  · split at h
    · rename_i hq
      split at h
      · cases h
      · rename_i hd
        unfold wres at hq hd
        split at hq
        · rename_i d he
          rw [he] at hd
          exact ⟨d, he, by simpa using hd⟩
        · cases hq
    · cases h
theorem lookS_ok (l : List Nd) (ws : List Wd) (h : lookS l ws = 0) : checkF l = 0 ∧ ws.length ≤ 4096 ∧ wordsOK ws = true := by
  unfold lookS at h
  split at h
  · rename_i h1
    split at h
    · cases h
    · split at h
      · rename_i h2 h3; exact ⟨h1, by omega, h3⟩
      · cases h
  · rename_i h1; exact absurd h h1
/-- What Each answers. -/
def eachS (l : List Nd) (ws : List Wd) : List Int × Int × Int := if lookS l ws = 0 then tgo (fnd ws) l 0 [] [] else ([], 0, lookS l ws)
theorem each_ev (l : List Nd) (ws : List Wd) (hs : small l) (hw : smallW ws) : Ev (fun k => kind_Each.f k l ws) (eachS l ws) := by
  unfold kind_Each.f eachS
  refine Ev.bind (known_ev l ws hs hw) ?_
  by_cases h : lookS l ws = 0
  · simp only [if_pos h]
    obtain ⟨hc, -, -⟩ := lookS_ok l ws h
    obtain ⟨h1, d, hd, -⟩ := checkF_ok l hc
    unfold kind_each.f
    have := each_l l h1 ⟨0, mfold [] ws⟩ l.length 0 [] [] [] [d] (by omega) (by omega) hd rfl (by simp) (by simp)
    rw [mgetD_fold] at this
    exact this
  · simp only [if_neg h]; exact Ev.const
theorem tgo_ok (g : ByteArray → Int) : ∀ (l : List Nd) (i : Int) (all st : List Int), (tgo g l i all st).2.2 = 0 → (tgo g l i all st).2.1 = 0 ∧ (tgo g l i all st).1.length = all.length + l.length
  | [], i, all, st, _ => ⟨rfl, by simp [tgo]⟩
  | x :: r, i, all, st, h => by
    unfold tgo at h ⊢
    by_cases hz : nty g st x = 0
    · rw [if_pos hz] at h
      exfalso
      by_cases h5 : x.f0 = 5 <;> simp [h5] at h
    · rw [if_neg hz] at h ⊢
      obtain ⟨a, b⟩ := tgo_ok g r _ _ _ h
      exact ⟨a, by rw [b, List.length_append, List.length_singleton, List.length_cons]; omega⟩
theorem eachS_ok (l : List Nd) (ws : List Wd) (h : (eachS l ws).2.2 = 0) : lookS l ws = 0 ∧ eachS l ws = tgo (fnd ws) l 0 [] [] ∧ (eachS l ws).2.1 = 0 ∧ (eachS l ws).1.length = l.length ∧ 0 < l.length ∧ l.length ≤ 1024 := by
  have hk : lookS l ws = 0 := by
    by_cases hk : lookS l ws = 0
    · exact hk
    · unfold eachS at h
      rw [if_neg hk] at h
      exact h
  have e : eachS l ws = tgo (fnd ws) l 0 [] [] := if_pos hk
  obtain ⟨hc, -, -⟩ := lookS_ok l ws hk
  obtain ⟨h1, d, hd, -⟩ := checkF_ok l hc
  rw [e] at h ⊢
  obtain ⟨a, b⟩ := tgo_ok _ _ _ _ _ h
  refine ⟨hk, rfl, a, by simpa using b, ?_, h1⟩
  cases l with
  | nil => unfold wgo at hd; cases hd
  | cons x r => simp
/-- What Of answers. -/
def ofS (l : List Nd) (ws : List Wd) : Int × Int × Int := if (eachS l ws).2.2 = 0 then (rd (eachS l ws).1 ((l.length : Int) - 1), 0, 0) else (0, (eachS l ws).2.1, (eachS l ws).2.2)
theorem of_ev (l : List Nd) (ws : List Wd) (hs : small l) (hw : smallW ws) : Ev (fun k => kind_Of.f k l ws) (ofS l ws) := by
  unfold kind_Of.f ofS
  refine Ev.bind (each_ev l ws hs hw) ?_
  by_cases h : (eachS l ws).2.2 = 0
  · obtain ⟨-, -, h1, h2, h3, h4⟩ := eachS_ok l ws h
    simp only [if_pos h, h, h1, h2, beq_self_eq_true, Bool.not_true, Bool.or_false, Bool.false_eq_true, if_false]
    rw [w64 _ (by omega) (by omega)]
    simp only [if_pos (show (0 : Int) ≤ (l.length : Int) - 1 by omega), if_pos (show (l.length : Int) - 1 < (l.length : Int) by omega)]
    exact Ev.const
  · simp only [if_neg h, beq_eq_false_iff_ne.mpr h, Bool.not_false, Bool.or_true, if_true]
    exact Ev.const
end Go.Proofs.Ytpfnnamicbbobaa.PL
/- Plain law, part 13: the words that a formula uses; KindFormulas. -/
namespace Go.Proofs.Ytpfnnamicbbobaa.PL
set_option linter.unusedSimpArgs false
open Go.RowKit Go.Proofs.YtpfnnamicbbobaaW.PrintWords Go.Proofs.YtpfnnamicbbobaaW.PrintMore Go.Proofs.Ytpfnnamicbbobaa.HS Go.Proofs.Ytpfnnamicbbobaa.PAll Go.Proofs.Ytpfnnamicbbobaa.HM
instance memDec (s : ByteArray) (xs : List ByteArray) : Decidable (s ∈ xs) := decidable_of_iff ((xs.any fun y => decide (y = s)) = true) (by simp)
theorem rdb_drop (l : List ByteArray) (j : Nat) (h : j < l.length) : l.drop j = rdOf ByteArray.empty l (j : Int) :: l.drop (j + 1) := by
  rw [List.drop_eq_getElem_cons h]
  simp [rdOf, List.getD_eq_getElem?_getD, h]
theorem index_l (xs : List ByteArray) (hx : xs.length ≤ 9223372036854775807) (s : ByteArray) : ∀ (m j : Nat), xs.length - j = m → j ≤ xs.length →
    ∃ r : Int, Ev (fun k => slices_Index_string_string.l0 k xs s (xs.length : Int) (j : Int)) r ∧ (r ≥ 0 ↔ s ∈ xs.drop j) := by
  intro m
  induction m with
  | zero =>
    intro j hm hj
    rw [List.drop_eq_nil_of_le (by omega)]
    refine ⟨-1, Ev.step (fun k => by rw [slices_Index_string_string.l0]) ?_, by simp⟩
    simp only [if_neg (show ¬ (j : Int) < (xs.length : Int) by omega)]
    exact Ev.const
  | succ m ih =>
    intro j hm hj
    have hlt : j < xs.length := by omega
    rw [rdb_drop xs j hlt]
    by_cases hq : s = rdOf ByteArray.empty xs (j : Int)
    · refine ⟨(j : Int), Ev.step (fun k => by rw [slices_Index_string_string.l0]) ?_, ⟨fun _ => by rw [← hq]; exact List.mem_cons_self, fun _ => by omega⟩⟩
      simp only [if_pos (show (j : Int) < (xs.length : Int) by omega), if_pos (show (0 : Int) ≤ (j : Int) by omega), bytes_ext, if_pos hq]
      exact Ev.const
    · obtain ⟨r, hr, hm'⟩ := ih (j + 1) (by omega) (by omega)
      refine ⟨r, Ev.step (fun k => by rw [slices_Index_string_string.l0]) ?_, ?_⟩
      · simp only [if_pos (show (j : Int) < (xs.length : Int) by omega), if_pos (show (0 : Int) ≤ (j : Int) by omega), bytes_ext, if_neg hq, succ64 j _ hlt hx]
        exact hr
      · rw [hm', List.mem_cons]
        exact ⟨.inr, fun h => h.resolve_left hq⟩
theorem contains_ev (xs : List ByteArray) (hx : xs.length ≤ 9223372036854775807) (s : ByteArray) : Ev (fun k => slices_Contains_string_string.f k xs s) (decide (s ∈ xs)) := by
  unfold slices_Contains_string_string.f slices_Index_string_string.f
  obtain ⟨r, hr, hm⟩ := index_l xs hx s xs.length 0 (by omega) (by omega)
  rw [List.drop_zero] at hm
  refine Ev.bind hr ?_
  rw [show decide (s ∈ xs) = decide (r ≥ 0) by simp only [hm]]
  exact Ev.const
def use1 (acc : List ByteArray) (x : Nd) : List ByteArray := if x.f0 = 5 ∧ ¬ x.f2 ∈ acc then acc ++ [x.f2] else acc
/-- The words that a formula uses, each once. -/
def usesGo (l : List Nd) (acc : List ByteArray) : List ByteArray := l.foldl use1 acc
def hasN (l : List Nd) (s : ByteArray) : Bool := l.any fun y => decide (y.f0 = 5 ∧ y.f2 = s)
theorem use1_len (acc : List ByteArray) (x : Nd) : (use1 acc x).length ≤ acc.length + 1 := by
  unfold use1
  split
  · rw [List.length_append, List.length_singleton]; omega
  · omega
theorem mem_uses (s : ByteArray) : ∀ (l : List Nd) (acc : List ByteArray), s ∈ usesGo l acc ↔ s ∈ acc ∨ hasN l s = true
  | [], acc => by simp [usesGo, hasN]
  | x :: r, acc => by
    have ih := mem_uses s r (use1 acc x)
    have e1 : usesGo (x :: r) acc = usesGo r (use1 acc x) := rfl
    have e2 : hasN (x :: r) s = (decide (x.f0 = 5 ∧ x.f2 = s) || hasN r s) := rfl
    rw [e1, ih, e2, Bool.or_eq_true, decide_eq_true_eq]
    unfold use1
    by_cases h5 : x.f0 = 5
    · by_cases hm : x.f2 ∈ acc
      · rw [if_neg (fun q => q.2 hm)]
        constructor
        · rintro (h | h)
          · exact .inl h
          · exact .inr (.inr h)
        · rintro (h | ⟨-, rfl⟩ | h)
          · exact .inl h
          · exact .inl hm
          · exact .inr h
      · rw [if_pos ⟨h5, hm⟩, List.mem_append, List.mem_singleton]
        constructor
        · rintro ((h | h) | h)
          · exact .inl h
          · exact .inr (.inl ⟨h5, h.symm⟩)
          · exact .inr (.inr h)
        · rintro (h | ⟨-, h⟩ | h)
          · exact .inl (.inl h)
          · exact .inl (.inr h.symm)
          · exact .inr h
    · rw [if_neg (fun q => h5 q.1)]
      constructor
      · rintro (h | h)
        · exact .inl h
        · exact .inr (.inr h)
      · rintro (h | ⟨h, -⟩ | h)
        · exact .inl h
        · exact absurd h h5
        · exact .inr h
section
variable (l : List Nd) (hl : l.length ≤ 1024)
include hl
theorem uses_l : ∀ (m j : Nat) (acc : List ByteArray), l.length - j = m → j ≤ l.length → acc.length ≤ j → Ev (fun k => kind_uses.l0 k acc l (l.length : Int) (j : Int)) (usesGo (l.drop j) acc) := by
  intro m
  induction m with
  | zero =>
    intro j acc hm hj ha
    rw [List.drop_eq_nil_of_le (by omega)]
    refine Ev.step (fun k => by rw [kind_uses.l0]) ?_
    simp only [if_neg (show ¬ (j : Int) < (l.length : Int) by omega)]
    exact Ev.const
  | succ m ih =>
    intro j acc hm hj ha
    have hlt : j < l.length := by omega
    rw [rd_drop l j hlt]
    refine Ev.step (fun k => by rw [kind_uses.l0]) ?_
    generalize hx : rd_T56 l (j : Int) = x
    simp only [if_pos (show (j : Int) < (l.length : Int) by omega), if_pos (show (0 : Int) ≤ (j : Int) by omega), hx, succ64 j _ hlt (by omega)]
    rw [show usesGo (x :: l.drop (j + 1)) acc = usesGo (l.drop (j + 1)) (use1 acc x) from rfl]
    have hu := use1_len acc x
    have ih := ih (j + 1) (use1 acc x) (by omega) (by omega) (by omega)
    by_cases h5 : x.f0 = 5
    · simp only [if_pos h5]
      refine Ev.bind (contains_ev acc (by omega) x.f2) ?_
      by_cases hm : x.f2 ∈ acc
      · rw [show use1 acc x = acc from if_neg (fun q => q.2 hm)] at ih ⊢
        simp only [decide_eq_true hm, if_true]; exact ih
      · rw [show use1 acc x = acc ++ [x.f2] from if_pos ⟨h5, hm⟩] at ih ⊢
        simp only [decide_eq_false hm, Bool.false_eq_true, if_false, if_pos (show acc.length < 8796093022208 by omega)]; exact ih
    · rw [show use1 acc x = acc from if_neg (fun q => h5 q.1)] at ih ⊢
      simp only [if_neg h5]; exact ih
omit hl in
omit hl in
end
/-- What Uses answers. -/
def usesS (l : List Nd) : List ByteArray × Int := if checkF l = 0 then (usesGo l [], 0) else ([], checkF l)
theorem uses_ev (l : List Nd) (hs : small l) : Ev (fun k => kind_Uses.f k l) (usesS l) := by
  unfold kind_Uses.f usesS
  refine Ev.bind (check_ev l hs) ?_
  by_cases h : checkF l = 0
  · simp only [if_pos h]
    have := uses_l l (checkF_len l h) l.length 0 [] (by omega) (by omega) (by simp)
    unfold kind_uses.f
    exact Ev.bind this Ev.const
  · simp only [if_neg h]; exact Ev.const
theorem usesGo_len : ∀ (l : List Nd) (acc : List ByteArray), (usesGo l acc).length ≤ acc.length + l.length
  | [], acc => by simp [usesGo]
  | x :: r, acc => by
    have := usesGo_len r (use1 acc x)
    have h2 := use1_len acc x
    rw [show usesGo (x :: r) acc = usesGo r (use1 acc x) from rfl, List.length_cons]; omega
theorem usesS_len (l : List Nd) : (usesS l).1.length ≤ 1024 := by
  unfold usesS
  split
  · rename_i h
    have := usesGo_len l []
    have h2 := checkF_len l h
    simp at this ⊢; omega
  · simp
end Go.Proofs.Ytpfnnamicbbobaa.PL
/- Plain law, part 14: runs of formulas over a stack of types; SUBSTITUTION. -/
namespace Go.Proofs.Ytpfnnamicbbobaa.PL
set_option linter.unusedSimpArgs false
open Go.RowKit Go.Proofs.YtpfnnamicbbobaaW.PrintWords Go.Proofs.YtpfnnamicbbobaaW.PrintMore Go.Proofs.Ytpfnnamicbbobaa.HS Go.Proofs.Ytpfnnamicbbobaa.PAll Go.Proofs.Ytpfnnamicbbobaa.HM
/-- What stands on the stack behind some nodes. -/
def trun (g : ByteArray → Int) : List Nd → List Int → Option (List Int)
  | [], st => some st
  | x :: r, st => if nodeOK x.f0 x.f1 x.f2 = true ∧ x.f1 ≤ st.length ∧ nty g st x ≠ 0 then trun g r (push st x (nty g st x)) else none
theorem trun_app (g : ByteArray → Int) : ∀ (a b : List Nd) (st : List Int), trun g (a ++ b) st = (trun g a st).bind (trun g b)
  | [], b, st => rfl
  | x :: r, b, st => by
    rw [List.cons_append]
    unfold trun
    split
    · exact trun_app g r b _
    · rfl
theorem drop_base (base st : List Int) (n : Nat) (h : n ≤ st.length) : (base ++ st).drop ((base ++ st).length - n) = st.drop (st.length - n) := by
  rw [List.length_append, List.drop_append, List.drop_eq_nil_of_le (by omega), List.nil_append]
  congr 1; omega
theorem take_base (base st : List Int) (n : Nat) (h : n ≤ st.length) : (base ++ st).take ((base ++ st).length - n) = base ++ st.take (st.length - n) := by
  rw [List.length_append, List.take_append, List.take_of_length_le (by omega)]
  congr 2; omega
theorem nty_base (g : ByteArray → Int) (base st : List Int) (x : Nd) (h0 : 0 ≤ x.f1) (h : x.f1 ≤ st.length) : nty g (base ++ st) x = nty g st x := by
  unfold nty
  rw [drop_base base st _ (by omega)]
theorem push_base (base st : List Int) (x : Nd) (t : Int) (h0 : 0 ≤ x.f1) (h : x.f1 ≤ st.length) : push (base ++ st) x t = base ++ push st x t := by
  unfold push
  rw [take_base base st _ (by omega), List.append_assoc]
theorem trun_base (g : ByteArray → Int) (base : List Int) : ∀ (l : List Nd) (st st' : List Int), trun g l st = some st' → trun g l (base ++ st) = some (base ++ st')
  | [], st, st', h => by rw [Option.some.inj h]; rfl
  | x :: r, st, st', h => by
    unfold trun at h ⊢
    split at h
    · rename_i hc
      have h0 := nodeOK_n _ _ _ hc.1
      rw [nty_base g base st x h0 hc.2.1, if_pos ⟨hc.1, by rw [List.length_append]; omega, hc.2.2⟩, push_base base st x _ h0 hc.2.1]
      exact trun_base g base r _ st' h
    · cases h
theorem push_last (st : List Int) (x : Nd) (t : Int) : (push st x t).getLast? = some t := by
  unfold push
  rw [List.getLast?_append]; rfl
/-- A run and its list of types. -/
theorem tgo_run (g : ByteArray → Int) : ∀ (l : List Nd) (sd d st all : List Int) (i : Int), wgo l sd = some d → sd.length = st.length → all.getLast? = st.getLast? →
    (∃ st', trun g l st = some st' ∧ (tgo g l i all st).2 = (0, 0) ∧ (tgo g l i all st).1.getLast? = st'.getLast? ∧ st'.length = d.length) ∨ (trun g l st = none ∧ (tgo g l i all st).2.2 ≠ 0)
  | [], sd, d, st, all, i, hw, hl, hq => .inl ⟨st, rfl, rfl, hq, by rw [← hl, Option.some.inj hw]⟩
  | x :: r, sd, d, st, all, i, hw, hl, hq => by
    obtain ⟨hn, h0, h1, y, hw⟩ := wgo_cons hw
    unfold trun tgo
    by_cases hz : nty g st x = 0
    · refine .inr ⟨if_neg (fun q => q.2.2 hz), ?_⟩
      rw [if_pos hz]
      by_cases h5 : x.f0 = 5 <;> simp [h5]
    · rw [if_neg hz, if_pos ⟨hn, by omega, hz⟩]
      refine tgo_run g r _ d _ _ _ hw ?_ ?_
      · rw [push_len, List.length_append, List.length_take, List.length_singleton]; omega
      · rw [push_last, List.getLast?_append]; rfl
theorem trun_ne (g : ByteArray → Int) : ∀ (l : List Nd) (st st' : List Int), trun g l st = some st' → (∀ t ∈ st, t ≠ 0) → ∀ t ∈ st', t ≠ 0
  | [], st, st', h, hs => by rw [← Option.some.inj h]; exact hs
  | x :: r, st, st', h, hs => by
    unfold trun at h
    split at h
    · rename_i hc
      refine trun_ne g r _ st' h fun t ht => ?_
      unfold push at ht
      rcases List.mem_append.mp ht with h' | h'
      · exact hs t (List.mem_of_mem_take h')
      · rw [List.mem_singleton] at h'; exact h' ▸ hc.2.2
    · cases h
theorem rd_last (l : List Int) (t : Int) (h : l.getLast? = some t) : rd l ((l.length : Int) - 1) = t := by
  rw [List.getLast?_eq_getElem?] at h
  unfold rd
  rw [List.getD_eq_getElem?_getD, show ((l.length : Int) - 1).toNat = l.length - 1 by omega, h]; rfl
theorem ofS_run (l : List Nd) (ws : List Wd) (h : lookS l ws = 0) : (∃ t, trun (fnd ws) l [] = some [t] ∧ t ≠ 0 ∧ ofS l ws = (t, 0, 0)) ∨ (trun (fnd ws) l [] = none ∧ (ofS l ws).1 = 0 ∧ (ofS l ws).2.2 ≠ 0) := by
  obtain ⟨hc, -, -⟩ := lookS_ok l ws h
  obtain ⟨-, d, hd, -⟩ := checkF_ok l hc
  have e : eachS l ws = tgo (fnd ws) l 0 [] [] := if_pos h
  rcases tgo_run (fnd ws) l [] [d] [] [] 0 hd rfl rfl with ⟨st', h1, h2, h3, h4⟩ | ⟨h1, h2⟩
  · match st', h4 with
    | [t], _ =>
      have ht := trun_ne (fnd ws) l [] [t] h1 (fun t ht => by cases ht) t List.mem_cons_self
      refine .inl ⟨t, h1, ht, ?_⟩
      have hz : (eachS l ws).2.2 = 0 := by rw [e, h2]
      obtain ⟨-, -, -, hlen, -, -⟩ := eachS_ok l ws hz
      unfold ofS
      rw [if_pos hz, ← hlen, rd_last _ t (by rw [e]; exact h3)]
  · refine .inr ⟨h1, ?_⟩
    unfold ofS
    rw [e, if_neg h2]
    exact ⟨rfl, h2⟩
theorem ofS_bad (l : List Nd) (ws : List Wd) (h : lookS l ws ≠ 0) : ofS l ws = (0, 0, lookS l ws) := by
  have e : eachS l ws = ([], 0, lookS l ws) := if_neg h
  unfold ofS
  rw [e, if_neg h]
theorem ofS_ok (l : List Nd) (ws : List Wd) (h : (ofS l ws).2.2 = 0) : lookS l ws = 0 ∧ ∃ t, trun (fnd ws) l [] = some [t] ∧ t ≠ 0 ∧ ofS l ws = (t, 0, 0) := by
  by_cases hk : lookS l ws = 0
  · rcases ofS_run l ws hk with hr | ⟨-, -, h2⟩
    · exact ⟨hk, hr⟩
    · exact absurd h h2
  · rw [ofS_bad l ws hk] at h
    exact absurd h hk
theorem ofS_of (l : List Nd) (ws : List Wd) (t : Int) (h : lookS l ws = 0) (hr : trun (fnd ws) l [] = some [t]) : ofS l ws = (t, 0, 0) := by
  rcases ofS_run l ws h with ⟨t', h1, -, h3⟩ | ⟨h1, -⟩
  · rw [hr] at h1
    have : t = t' := by simpa using h1
    rw [this]; exact h3
  · rw [hr] at h1; cases h1
theorem name_n (n : Int) (s : ByteArray) (h : nodeOK 5 n s = true) : n = 0 := by
  unfold nodeOK at h
  simp only [Bool.and_eq_true, Bool.or_eq_true, decide_eq_true_eq] at h
  obtain ⟨⟨-, g3⟩, -⟩ := h
  simp [pcount] at g3
  omega
/-- SUBSTITUTION: in the place of a word of type b, a formula of that type. -/
theorem trun_puts (gg : ByteArray → Int) (w : ByteArray) (g : List Nd) (b : Int) (hg : trun gg g [] = some [b]) (hb : gg w = b) : ∀ (f : List Nd) (st st' : List Int), trun gg f st = some st' → trun gg (puts f w g) st = some st'
  | [], st, st', h => h
  | x :: r, st, st', h => by
    rw [show puts (x :: r) w g = put1 w g x ++ puts r w g from rfl, trun_app]
    unfold trun at h
    split at h
    · rename_i hc
      have ih := trun_puts gg w g b hg hb r _ st' h
      by_cases hq : x.f0 = 5 ∧ x.f2.toList = w.toList
      · rw [show put1 w g x = g from if_pos hq]
        have e2 : x.f2 = w := (bytes_ext _ _).mp hq.2
        have en : x.f1 = 0 := name_n x.f1 x.f2 (hq.1 ▸ hc.1)
        have et : nty gg st x = b := by
          unfold nty
          rw [if_pos hq.1, e2, hb]
        have ep : push st x (nty gg st x) = st ++ [b] := by
          unfold push
          rw [et, en, show st.length - (0 : Int).toNat = st.length by simp, List.take_length]
        have := trun_base gg st g [] [b] hg
        rw [List.append_nil] at this
        rw [this, Option.bind_some, ← ep]
        exact ih
      · rw [show put1 w g x = [x] from if_neg hq]
        have : trun gg [x] st = some (push st x (nty gg st x)) := by
          unfold trun
          rw [if_pos hc]; rfl
        rw [this, Option.bind_some]
        exact ih
    · cases h
theorem putS_ok (f : List Nd) (w : ByteArray) (g : List Nd) (h : (putS f w g).2 = 0) : checkF (putS f w g).1 = 0 ∧ (putS f w g).1 = puts f w g := by
  unfold putS at h ⊢
  split at h
  · rename_i h1
    rw [if_pos h1]
    split at h
    · rename_i h2
      rw [if_pos h2]
      split at h
      · rename_i h3
        rw [if_pos h3]
        unfold fin at h ⊢
        split at h
        · rename_i h4
          rw [if_pos h4]; exact ⟨h4, rfl⟩
        · rename_i h4; exact absurd h h4
      · rename_i h3; exact absurd h h3
    · cases h
  · rename_i h1; exact absurd h h1
theorem putS_bad (f : List Nd) (w : ByteArray) (g : List Nd) (h : (putS f w g).2 ≠ 0) : (putS f w g).1 = [] := by
  unfold putS at h ⊢
  split at h
  · rename_i h1
    rw [if_pos h1]
    split at h
    · rename_i h2
      rw [if_pos h2]
      split at h
      · rename_i h3
        rw [if_pos h3]
        unfold fin at h ⊢
        split at h
        · exact absurd rfl h
        · rename_i h4
          rw [if_neg h4]
      · rename_i h3; rw [if_neg h3]
    · rename_i h2; rw [if_neg h2]
  · rename_i h1; rw [if_neg h1]
theorem lookS_of (l : List Nd) (ws : List Wd) (h1 : checkF l = 0) (h2 : ws.length ≤ 4096) (h3 : wordsOK ws = true) : lookS l ws = 0 := by
  unfold lookS
  rw [if_pos h1, if_neg (by omega), if_pos h3]
theorem small_put (f : List Nd) (w : ByteArray) (g : List Nd) (hf : small f) (hg : small g) : small (putS f w g).1 := by
  by_cases h : (putS f w g).2 = 0
  · rw [(putS_ok f w g h).2]; exact small_puts f w g hf hg
  · rw [putS_bad f w g h]; intro x hx; cases hx
section
variable (f g : List Nd) (ws : List Wd) (hf : small f) (hg : small g) (hw : smallW ws) (hwl : ws.length ≤ 9223372036854775807) (a b : Int)
  (ha : ofS f ws = (a, 0, 0)) (hb : ofS g ws = (b, 0, 0))
include hf hg hw hwl ha hb
theorem subst_l : ∀ (m j : Nat), ws.length - j = m → j ≤ ws.length → Ev (fun k => tontinelaw18_KindSubstitutes.l0 k f g ws a b ws (ws.length : Int) (j : Int)) true := by
  obtain ⟨hk, t, h1, h2, h3⟩ := ofS_ok f ws (by rw [ha])
  obtain ⟨hk', t', h1', h2', h3'⟩ := ofS_ok g ws (by rw [hb])
  obtain rfl : a = t := by rw [ha] at h3; exact (Prod.mk.inj h3).1
  obtain rfl : b = t' := by rw [hb] at h3'; exact (Prod.mk.inj h3').1
  obtain ⟨-, k2, k3⟩ := lookS_ok f ws hk
  intro m
  induction m with
  | zero =>
    intro j hm hj
    refine Ev.step (fun k => by rw [tontinelaw18_KindSubstitutes.l0]) ?_
    simp only [if_neg (show ¬ (j : Int) < (ws.length : Int) by omega)]
    exact Ev.const
  | succ m ih =>
    intro j hm hj
    have hlt : j < ws.length := by omega
    have hmem := rdw_mem ws j hlt
    refine Ev.step (fun k => by rw [tontinelaw18_KindSubstitutes.l0]) ?_
    generalize hx : rd_T59 ws (j : Int) = o at hmem ⊢
    have ho := hw o hmem
    have ih := ih (j + 1) (by omega) (by omega)
    simp only [if_pos (show (j : Int) < (ws.length : Int) by omega), if_pos (show (0 : Int) ≤ (j : Int) by omega), hx, succ64 j _ hlt hwl]
    have hs1 : small [(⟨5, 0, o.f0⟩ : Nd)] := fun x hx => by rw [List.mem_singleton] at hx; rw [hx]; exact ho
    refine Ev.bind (of_ev [(⟨5, 0, o.f0⟩ : Nd)] ws hs1 hw) ?_
    by_cases he : (ofS [(⟨5, 0, o.f0⟩ : Nd)] ws).1 = b
    · simp only [if_pos he]
      have hfo : fnd ws o.f0 = b := by
        by_cases hk1 : lookS [(⟨5, 0, o.f0⟩ : Nd)] ws = 0
        · rcases ofS_run _ ws hk1 with ⟨t, q1, q2, q3⟩ | ⟨-, q2, -⟩
          · rw [q3] at he
            obtain rfl : t = b := he
            unfold trun at q1
            split at q1
            · have e := Option.some.inj q1
              unfold push at e
              have : nty (fnd ws) [] (⟨5, 0, o.f0⟩ : Nd) = t := by simpa using e
              exact this
            · cases q1
          · exact absurd (he.symm.trans q2) h2'
        · rw [ofS_bad _ ws hk1] at he
          exact absurd he.symm h2'
      refine Ev.bind (put_ev f o.f0 g hf (by omega) hg) ?_
      by_cases hp : (putS f o.f0 g).2 = 0
      · simp only [if_pos hp]
        refine Ev.bind (of_ev _ ws (small_put f o.f0 g hf hg) hw) ?_
        obtain ⟨p1, p2⟩ := putS_ok f o.f0 g hp
        have : ofS (putS f o.f0 g).1 ws = (a, 0, 0) := by
          refine ofS_of _ ws a (lookS_of _ ws p1 k2 k3) ?_
          rw [p2]
          exact trun_puts (fnd ws) o.f0 g b h1' hfo f [] [a] h1
        simp only [this, if_true, beq_self_eq_true, Bool.not_true, Bool.or_false, Bool.false_eq_true, if_false]
        exact ih
      · simp only [if_neg hp, putS_bad f o.f0 g hp]
        exact ih
    · simp only [if_neg he]
      exact ih
end
theorem kindSubstitutes_ev (f g : List Nd) (ws : List Wd) (hf : small f) (hg : small g) (hw : smallW ws) (hwl : ws.length < 5864062014805) : Ev (fun k => tontinelaw18_KindSubstitutes.f k f g ws) true := by
  unfold tontinelaw18_KindSubstitutes.f
  refine Ev.bind works_ev ?_
  simp only [if_true]
  refine Ev.bind (of_ev f ws hf hw) ?_
  refine Ev.bind (of_ev g ws hg hw) ?_
  have yes : ∀ x y, Ev (fun k => tontinelaw18_KindSubstitutes.j0 k f g ws x y true) true := fun x y => by
    refine Ev.step (fun k => by rw [tontinelaw18_KindSubstitutes.j0]) ?_
    exact Ev.const
  by_cases h1 : (ofS f ws).2.2 = 0
  · obtain ⟨-, a, -, -, ha⟩ := ofS_ok f ws h1
    by_cases h2 : (ofS g ws).2.2 = 0
    · obtain ⟨-, b, -, -, hb⟩ := ofS_ok g ws h2
      simp only [ha, hb, beq_self_eq_true, Bool.not_true, Bool.or_false, Bool.false_eq_true, if_false]
      refine Ev.step (fun k => by rw [tontinelaw18_KindSubstitutes.j0]) ?_
      simp only [Bool.false_eq_true, if_false]
      exact subst_l f g ws hf hg hw (by omega) a b ha hb ws.length 0 (by omega) (by omega)
    · simp only [ha, beq_self_eq_true, Bool.not_true, Bool.or_false, Bool.false_eq_true, if_false, beq_eq_false_iff_ne.mpr h2, Bool.not_false, Bool.or_true]
      exact yes _ _
  · simp only [beq_eq_false_iff_ne.mpr h1, Bool.not_false, Bool.or_true, if_true]
    exact yes _ _
end Go.Proofs.Ytpfnnamicbbobaa.PL
/- Plain law, part 17: other words, or another order of them, change nothing (KindWords). -/
namespace Go.Proofs.Ytpfnnamicbbobaa.PL
set_option linter.unusedSimpArgs false
set_option linter.unusedVariables false
set_option linter.unusedSectionVars false
open Go.RowKit Go.Proofs.YtpfnnamicbbobaaW.PrintWords Go.Proofs.YtpfnnamicbbobaaW.PrintMore Go.Proofs.Ytpfnnamicbbobaa.HS Go.Proofs.Ytpfnnamicbbobaa.PAll Go.Proofs.Ytpfnnamicbbobaa.HM
theorem tgo_congr (g g' : ByteArray → Int) : ∀ (l : List Nd) (i : Int) (all st : List Int), (∀ x ∈ l, x.f0 = 5 → g x.f2 = g' x.f2) → tgo g l i all st = tgo g' l i all st
  | [], i, all, st, _ => rfl
  | x :: r, i, all, st, h => by
    have e : nty g st x = nty g' st x := by
      unfold nty
      by_cases h5 : x.f0 = 5
      · rw [if_pos h5, if_pos h5, h x List.mem_cons_self h5]
      · rw [if_neg h5, if_neg h5]
    unfold tgo
    rw [e]
    by_cases hz : nty g' st x = 0
    · rw [if_pos hz, if_pos hz]
    · rw [if_neg hz, if_neg hz]
      exact tgo_congr g g' r _ _ _ (fun y hy => h y (List.mem_cons_of_mem _ hy))
theorem tgo_code (g : ByteArray → Int) : ∀ (l : List Nd) (i : Int) (all st : List Int), (tgo g l i all st).2.2 = 0 ∨ (tgo g l i all st).2.2 = 180 ∨ (tgo g l i all st).2.2 = 181
  | [], i, all, st => .inl rfl
  | x :: r, i, all, st => by
    unfold tgo
    by_cases hz : nty g st x = 0
    · rw [if_pos hz]
      by_cases h5 : x.f0 = 5 <;> simp [h5]
    · rw [if_neg hz]
      exact tgo_code g r _ _ _
theorem mem_hasN {l : List Nd} {x : Nd} (h : x ∈ l) (h5 : x.f0 = 5) : hasN l x.f2 = true := by
  unfold hasN
  rw [List.any_eq_true]
  exact ⟨x, h, by simp [h5]⟩
/-- Words that say the same of all names used give the same types. -/
theorem ofS_words (l : List Nd) (ws ws' : List Wd) (h : lookS l ws = 0) (h' : lookS l ws' = 0) (hg : ∀ s, s ∈ usesGo l [] → fnd ws s = fnd ws' s) : ofS l ws = ofS l ws' := by
  have e : eachS l ws = eachS l ws' := by
    unfold eachS
    rw [if_pos h, if_pos h']
    exact tgo_congr _ _ l 0 [] [] (fun x hx h5 => hg x.f2 ((mem_uses x.f2 l []).mpr (.inr (mem_hasN hx h5))))
  unfold ofS
  rw [e]
theorem ofS_code (l : List Nd) (ws : List Wd) (h : lookS l ws = 0) : (ofS l ws).2.2 ≠ 3 ∧ (ofS l ws).2.2 ≠ 5 := by
  have e : eachS l ws = tgo (fnd ws) l 0 [] [] := if_pos h
  unfold ofS
  rw [e]
  have := tgo_code (fnd ws) l 0 [] []
  split
  · exact ⟨by show (0 : Int) ≠ 3; decide, by show (0 : Int) ≠ 5; decide⟩
  · exact ⟨by show (tgo (fnd ws) l 0 [] []).2.2 ≠ 3; omega, by show (tgo (fnd ws) l 0 [] []).2.2 ≠ 5; omega⟩
def named' (ws : List Wd) (s : ByteArray) : Bool := ws.any fun y => decide (y.f0 = s)
def fndI (ws : List Wd) (s : ByteArray) (a : Int) : Int := ws.foldl (fun a x => if s = x.f0 then x.f1 else a) a
theorem fndI_any : ∀ (ws : List Wd) (s : ByteArray) (a b : Int), named' ws s = true → fndI ws s a = fndI ws s b
  | [], s, a, b, h => by simp [named'] at h
  | x :: r, s, a, b, h => by
    unfold fndI
    rw [List.foldl_cons, List.foldl_cons]
    by_cases hx : s = x.f0
    · rw [if_pos hx, if_pos hx]
    · rw [if_neg hx, if_neg hx]
      exact fndI_any r s a b (by
        unfold named' at h ⊢
        rw [List.any_cons, Bool.or_eq_true] at h
        rcases h with h | h
        · exact absurd (of_decide_eq_true h).symm hx
        · exact h)
theorem fndI_none : ∀ (ws : List Wd) (s : ByteArray) (a : Int), named' ws s = false → fndI ws s a = a
  | [], s, a, h => rfl
  | x :: r, s, a, h => by
    unfold named' at h
    rw [List.any_cons, Bool.or_eq_false_iff] at h
    unfold fndI
    rw [List.foldl_cons, if_neg (fun q => (of_decide_eq_false h.1) q.symm)]
    exact fndI_none r s a h.2
theorem fnd_cons (x : Wd) (r : List Wd) (s : ByteArray) : fnd (x :: r) s = fndI r s (if s = x.f0 then x.f1 else 0) := rfl
theorem fnd_snoc (ws : List Wd) (x : Wd) (s : ByteArray) : fnd (ws ++ [x]) s = if s = x.f0 then x.f1 else fnd ws s := by
  unfold fnd
  rw [List.foldl_append]; rfl
/-- The words that were kept (back), and those of them that are used (few), behind the words r. -/
structure Kept (us : List ByteArray) (r back few : List Wd) : Prop where
  same : ∀ s, fnd back s = fnd r s
  nm : ∀ s, named' back s = named' r s
  used : ∀ s, s ∈ us → fnd few s = fnd r s
  inb : ∀ x ∈ back, x ∈ r
  inf : ∀ x ∈ few, x ∈ r
  lb : back.length ≤ r.length
  lf : few.length ≤ r.length
theorem Kept.there {us : List ByteArray} {r back few : List Wd} (h : Kept us r back few) (x : Wd) (hx : named' back x.f0 = true) : Kept us (x :: r) back few := by
  have hr : named' r x.f0 = true := (h.nm _).symm.trans hx
  have e : ∀ s, fnd (x :: r) s = fnd r s := fun s => by
    rw [fnd_cons]
    by_cases hs : s = x.f0
    · rw [if_pos hs]; exact fndI_any r s _ 0 (hs ▸ hr)
    · rw [if_neg hs]; rfl
  refine ⟨fun s => by rw [e, h.same], fun s => ?_, fun s hs => by rw [e, h.used s hs], fun y hy => List.mem_cons_of_mem _ (h.inb y hy), fun y hy => List.mem_cons_of_mem _ (h.inf y hy), by rw [List.length_cons]; have := h.lb; omega, by rw [List.length_cons]; have := h.lf; omega⟩
  rw [h.nm]
  unfold named' at hr ⊢
  rw [List.any_cons]
  by_cases hs : x.f0 = s
  · rw [decide_eq_true hs, Bool.true_or]
    rw [← hs]; exact hr
  · rw [decide_eq_false hs, Bool.false_or]
theorem Kept.new {us : List ByteArray} {r back few few' : List Wd} (h : Kept us r back few) (x : Wd) (hx : named' back x.f0 = false) (hf : few' = if x.f0 ∈ us then few ++ [x] else few) : Kept us (x :: r) (back ++ [x]) few' := by
  have hr : named' r x.f0 = false := (h.nm _).symm.trans hx
  have e : ∀ s, fnd (x :: r) s = if s = x.f0 then x.f1 else fnd r s := fun s => by
    rw [fnd_cons]
    by_cases hs : s = x.f0
    · rw [if_pos hs, if_pos hs]; exact fndI_none r s _ (hs ▸ hr)
    · rw [if_neg hs, if_neg hs]; rfl
  refine ⟨fun s => by rw [e, fnd_snoc, h.same], fun s => ?_, fun s hs => ?_, fun y hy => ?_, fun y hy => ?_, by rw [List.length_append, List.length_singleton, List.length_cons]; have := h.lb; omega, ?_⟩
  · have := h.nm s
    unfold named' at this ⊢
    rw [List.any_append, this]
    simp only [List.any_cons, List.any_nil, Bool.or_false]
    exact Bool.or_comm _ _
  · rw [hf, e]
    by_cases hq : s = x.f0
    · subst hq
      rw [if_pos hs, if_pos rfl, fnd_snoc, if_pos rfl]
    · rw [if_neg hq]
      by_cases hu : x.f0 ∈ us
      · rw [if_pos hu, fnd_snoc, if_neg hq, h.used s hs]
      · rw [if_neg hu, h.used s hs]
  · rcases List.mem_append.mp hy with hy | hy
    · exact List.mem_cons_of_mem _ (h.inb y hy)
    · rw [List.mem_singleton] at hy; exact hy ▸ List.mem_cons_self
  · rw [hf] at hy
    split at hy
    · rcases List.mem_append.mp hy with hy | hy
      · exact List.mem_cons_of_mem _ (h.inf y hy)
      · rw [List.mem_singleton] at hy; exact hy ▸ List.mem_cons_self
    · exact List.mem_cons_of_mem _ (h.inf y hy)
  · have := h.lf
    rw [hf, List.length_cons]
    split
    · rw [List.length_append, List.length_singleton]; omega
    · omega
/-- No name twice. -/
def Once : List ByteArray → Prop
  | [] => True
  | s :: r => ¬ s ∈ r ∧ Once r
theorem once_snoc : ∀ (l : List ByteArray) (s : ByteArray), Once l → ¬ s ∈ l → Once (l ++ [s])
  | [], s, _, _ => ⟨by simp, trivial⟩
  | a :: r, s, ⟨h1, h2⟩, hs => ⟨by
      intro h
      rcases List.mem_append.mp h with h | h
      · exact h1 h
      · rw [List.mem_singleton] at h; exact hs (h ▸ List.mem_cons_self), once_snoc r s h2 (fun h => hs (List.mem_cons_of_mem _ h))⟩
theorem once_uses : ∀ (l : List Nd) (acc : List ByteArray), Once acc → Once (usesGo l acc)
  | [], acc, h => h
  | x :: r, acc, h => once_uses r (use1 acc x) (by
      unfold use1
      split
      · rename_i hc; exact once_snoc acc x.f2 h hc.2
      · exact h)
section
variable (l : List Nd) (ws : List Wd) (mn : ByteArray) (mt : Int) (us : List ByteArray) (hus : us = usesGo l []) (hul : us.length ≤ 1024) (hs : small l) (hw : smallW ws) (hk : lookS l ws = 0) (hm : mn.size ≤ 9223372036854775806)
include hus hul hs hw hk hm
theorem kw_l3 (A : Int × Int × Int) (hA : A = ofS l ws) : ∀ (m j : Nat), us.length - j = m → j ≤ us.length → (∀ s ∈ us.take j, s ≠ mn) → Ev (fun k => tontinelaw18_KindWords.l3 k l ws A.1 us (us.length : Int) (j : Int) mn mt A.2.1 A.2.2) true := by
  obtain ⟨hc, k2, k3⟩ := lookS_ok l ws hk
  intro m
  induction m with
  | zero =>
    intro j hm' hj hall
    obtain rfl : j = us.length := by omega
    rw [List.take_length] at hall
    refine Ev.step (fun k => by rw [tontinelaw18_KindWords.l3]) ?_
    simp only [if_neg (show ¬ (us.length : Int) < (us.length : Int) by omega), Option.bind_some, List.length_nil, Nat.zero_add, List.nil_append, if_pos (show ws.length < 5864062014805 by omega), List.length_singleton, if_pos (show ws.length + 1 < 5864062014805 by omega)]
    have hsm : smallW (ws ++ [(⟨mn, mt⟩ : Wd)]) := fun x hx => by
      rcases List.mem_append.mp hx with h | h
      · exact hw x h
      · rw [List.mem_singleton] at h; rw [h]; exact hm
    refine Ev.bind (of_ev l _ hs hsm) ?_
    by_cases hk2 : lookS l (ws ++ [(⟨mn, mt⟩ : Wd)]) = 0
    · have e : ofS l (ws ++ [(⟨mn, mt⟩ : Wd)]) = A := by
        rw [hA]
        refine ofS_words l _ _ hk2 hk fun s hs' => ?_
        rw [fnd_snoc, if_neg (hall s (hus ▸ hs'))]
      simp only [e, if_true, beq_self_eq_true, Bool.and_self]
      exact Ev.const
    · rw [ofS_bad l _ hk2]
      have h35 : lookS l (ws ++ [(⟨mn, mt⟩ : Wd)]) = 5 ∨ lookS l (ws ++ [(⟨mn, mt⟩ : Wd)]) = 3 := by
        unfold lookS at hk2 ⊢
        rw [if_pos hc] at hk2 ⊢
        split at hk2
        · rename_i h; rw [if_pos h]; exact .inr rfl
        · rename_i h
          rw [if_neg h]
          split at hk2
          · exact absurd rfl hk2
          · rename_i h2; rw [if_neg h2]; exact .inl rfl
      generalize lookS l (ws ++ [(⟨mn, mt⟩ : Wd)]) = q at h35
      have fin5 : Ev (fun _ => if (0 : Int) = 0 then (if q = 5 then some true else some (q == 3)) else some false) true := by
        rcases h35 with rfl | rfl <;> exact Ev.const
      by_cases ha : A.1 = 0
      · by_cases hx : (A.2.1 == 0 && A.2.2 == q) = true
        · simp only [if_pos ha, if_pos hx]; exact Ev.const
        · simp only [if_pos ha, if_neg hx]; exact fin5
      · simp only [if_neg ha]; exact fin5
  | succ m ih =>
    intro j hm' hj hall
    have hlt : j < us.length := by omega
    refine Ev.step (fun k => by rw [tontinelaw18_KindWords.l3]) ?_
    simp only [if_pos (show (j : Int) < (us.length : Int) by omega), if_pos (show (0 : Int) ≤ (j : Int) by omega), bytes_ext, succ64 j _ hlt (by omega)]
    by_cases hq : rdOf ByteArray.empty us (j : Int) = mn
    · simp only [if_pos hq]; exact Ev.const
    · simp only [if_neg hq]
      refine ih (j + 1) (by omega) (by omega) fun s hs' => ?_
      have e : rdOf ByteArray.empty us (j : Int) = us[j] := by simp [rdOf, List.getD_eq_getElem?_getD, hlt]
      rw [List.take_succ_eq_append_getElem hlt] at hs'
      rcases List.mem_append.mp hs' with h | h
      · exact hall s h
      · rw [List.mem_singleton] at h
        rw [h, ← e]; exact hq
theorem kw_end (A : Int × Int × Int) (hA : A = ofS l ws) (back few : List Wd) (hK : Kept us ws back few) : Ev (fun k => tontinelaw18_KindWords.l0 k l ws A.1 us back few (-1) mn mt A.2.1 A.2.2) true := by
  obtain ⟨hc, k2, k3⟩ := lookS_ok l ws hk
  have sub : ∀ (v : List Wd), (∀ x ∈ v, x ∈ ws) → v.length ≤ ws.length → lookS l v = 0 := fun v h1 h2 => lookS_of l v hc (by omega) (by
    unfold wordsOK at k3 ⊢
    rw [List.all_eq_true] at k3 ⊢
    exact fun x hx => k3 x (h1 x hx))
  have hb := sub back hK.inb hK.lb
  have hf := sub few hK.inf hK.lf
  have eb : ofS l back = A := by rw [hA]; exact ofS_words l _ _ hb hk (fun s _ => hK.same s)
  have ef : ofS l few = A := by rw [hA]; exact ofS_words l _ _ hf hk (fun s hs' => hK.used s (hus ▸ hs'))
  refine Ev.step (fun k => by rw [tontinelaw18_KindWords.l0]) ?_
  simp only [if_neg (show ¬ ((-1 : Int) ≥ 0) by omega)]
  refine Ev.bind (of_ev l back hs (fun x hx => hw x (hK.inb x hx))) ?_
  refine Ev.bind (of_ev l few hs (fun x hx => hw x (hK.inf x hx))) ?_
  simp only [eb, ef, if_true, beq_self_eq_true, Bool.not_true, Bool.or_false, Bool.false_eq_true, if_false]
  refine Ev.step (fun k => by rw [tontinelaw18_KindWords.j4]) ?_
  simp only [Bool.false_eq_true, if_false]
  exact kw_l3 l ws mn mt us hus hul hs hw hk hm A hA us.length 0 (by omega) (by omega) (fun s h => by simp at h)
theorem kw_l2 (A : Int × Int × Int) (back : List Wd) (i : Nat) (hi : i < ws.length) (V : Bool) (hwl : ws.length ≤ 4096) : ∀ (m j : Nat) (few : List Wd), us.length - j = m → j ≤ us.length → Once (us.drop j) → few.length ≤ 8192 → Ev (fun k => tontinelaw18_KindWords.l0 k l ws A.1 us back (if (rd_T59 ws (i : Int)).f0 ∈ us.drop j then few ++ [rd_T59 ws (i : Int)] else few) ((i : Int) - 1) mn mt A.2.1 A.2.2) V →
    Ev (fun k => tontinelaw18_KindWords.l2 k l ws A.1 us back few (i : Int) us (us.length : Int) (j : Int) mn mt A.2.1 A.2.2) V := by
  intro m
  induction m with
  | zero =>
    intro j few hm' hj ho hfl h
    rw [List.drop_eq_nil_of_le (by omega), if_neg (by simp)] at h
    refine Ev.step (fun k => by rw [tontinelaw18_KindWords.l2]) ?_
    simp only [if_neg (show ¬ (j : Int) < (us.length : Int) by omega), w64 ((i : Int) - 1) (by omega) (by omega)]
    exact h
  | succ m ih =>
    intro j few hm' hj ho hfl h
    have hlt : j < us.length := by omega
    rw [rdb_drop us j hlt] at h ho
    refine Ev.step (fun k => by rw [tontinelaw18_KindWords.l2]) ?_
    simp only [if_pos (show (j : Int) < (us.length : Int) by omega), if_pos (show (0 : Int) ≤ (j : Int) by omega), if_pos (show (0 : Int) ≤ (i : Int) by omega), if_pos (show (i : Int) < (ws.length : Int) by omega), bytes_ext, succ64 j _ hlt (by omega), Option.bind_some]
    by_cases hq : rdOf ByteArray.empty us (j : Int) = (rd_T59 ws (i : Int)).f0
    · rw [if_pos (hq ▸ List.mem_cons_self)] at h
      simp only [if_pos hq, List.length_singleton, if_pos (show few.length + 1 < 5864062014805 by omega)]
      have hno : ¬ (rd_T59 ws (i : Int)).f0 ∈ us.drop (j + 1) := hq ▸ ho.1
      -- behind it the name stands no more
      have h2 : ∀ (m j : Nat), us.length - j = m → j ≤ us.length → ¬ (rd_T59 ws (i : Int)).f0 ∈ us.drop j → Ev (fun k => tontinelaw18_KindWords.l2 k l ws A.1 us back (few ++ [rd_T59 ws (i : Int)]) (i : Int) us (us.length : Int) (j : Int) mn mt A.2.1 A.2.2) V := by
        intro m
        induction m with
        | zero =>
          intro j hm' hj hn
          refine Ev.step (fun k => by rw [tontinelaw18_KindWords.l2]) ?_
          simp only [if_neg (show ¬ (j : Int) < (us.length : Int) by omega), w64 ((i : Int) - 1) (by omega) (by omega)]
          exact h
        | succ m ih2 =>
          intro j hm' hj hn
          have hlt : j < us.length := by omega
          rw [rdb_drop us j hlt] at hn
          refine Ev.step (fun k => by rw [tontinelaw18_KindWords.l2]) ?_
          simp only [if_pos (show (j : Int) < (us.length : Int) by omega), if_pos (show (0 : Int) ≤ (j : Int) by omega), if_pos (show (0 : Int) ≤ (i : Int) by omega), if_pos (show (i : Int) < (ws.length : Int) by omega), bytes_ext, succ64 j _ hlt (by omega), if_neg (show ¬ rdOf ByteArray.empty us (j : Int) = (rd_T59 ws (i : Int)).f0 from fun e => hn (e ▸ List.mem_cons_self))]
          exact ih2 (j + 1) (by omega) (by omega) (fun q => hn (List.mem_cons_of_mem _ q))
      exact h2 _ (j + 1) rfl (by omega) hno
    · simp only [if_neg hq]
      refine ih (j + 1) few (by omega) (by omega) ho.2 hfl ?_
      have e : ((rd_T59 ws (i : Int)).f0 ∈ rdOf ByteArray.empty us (j : Int) :: us.drop (j + 1)) = ((rd_T59 ws (i : Int)).f0 ∈ us.drop (j + 1)) := propext ⟨fun q => (List.mem_cons.mp q).resolve_left (fun q => hq q.symm), List.mem_cons_of_mem _⟩
      by_cases hin : (rd_T59 ws (i : Int)).f0 ∈ us.drop (j + 1)
      · rw [if_pos hin]
        rw [if_pos (List.mem_cons_of_mem _ hin)] at h
        exact h
      · rw [if_neg hin]
        rw [if_neg (fun q => hin (e ▸ q))] at h
        exact h
theorem kw_l1 (A : Int × Int × Int) (back few : List Wd) (i : Nat) (hi : i < ws.length) (V : Bool) (hwl : ws.length ≤ 4096) (hbl : back.length ≤ 4096) (hfl : few.length ≤ 8192)
    (hyes : named' back (rd_T59 ws (i : Int)).f0 = true → Ev (fun k => tontinelaw18_KindWords.l0 k l ws A.1 us back few ((i : Int) - 1) mn mt A.2.1 A.2.2) V)
    (hno : named' back (rd_T59 ws (i : Int)).f0 = false → Ev (fun k => tontinelaw18_KindWords.l0 k l ws A.1 us (back ++ [rd_T59 ws (i : Int)]) (if (rd_T59 ws (i : Int)).f0 ∈ us then few ++ [rd_T59 ws (i : Int)] else few) ((i : Int) - 1) mn mt A.2.1 A.2.2) V) :
    ∀ (m j : Nat) (b : Bool), back.length - j = m → j ≤ back.length → (b || named' (back.drop j) (rd_T59 ws (i : Int)).f0) = named' back (rd_T59 ws (i : Int)).f0 →
    Ev (fun k => tontinelaw18_KindWords.l1 k l ws A.1 us back few (i : Int) b back (back.length : Int) (j : Int) mn mt A.2.1 A.2.2) V := by
  intro m
  induction m with
  | zero =>
    intro j b hm' hj hb
    rw [List.drop_eq_nil_of_le (by omega), show named' [] (rd_T59 ws (i : Int)).f0 = false from rfl, Bool.or_false] at hb
    refine Ev.step (fun k => by rw [tontinelaw18_KindWords.l1]) ?_
    simp only [if_neg (show ¬ (j : Int) < (back.length : Int) by omega)]
    cases b with
    | true =>
      simp only [if_true, w64 ((i : Int) - 1) (by omega) (by omega)]
      exact hyes hb.symm
    | false =>
      simp only [Bool.false_eq_true, if_false, if_pos (show (0 : Int) ≤ (i : Int) by omega), if_pos (show (i : Int) < (ws.length : Int) by omega), Option.bind_some, List.length_singleton, if_pos (show back.length + 1 < 5864062014805 by omega)]
      refine kw_l2 l ws mn mt us hus hul hs hw hk hm A _ i hi V hwl us.length 0 few (by omega) (by omega) ?_ hfl ?_
      · rw [List.drop_zero, hus]; exact once_uses l [] trivial
      · rw [List.drop_zero]; exact hno hb.symm
  | succ m ih =>
    intro j b hm' hj hb
    have hlt : j < back.length := by omega
    refine Ev.step (fun k => by rw [tontinelaw18_KindWords.l1]) ?_
    simp only [if_pos (show (j : Int) < (back.length : Int) by omega), if_pos (show (0 : Int) ≤ (j : Int) by omega), succ64 j _ hlt (by omega)]
    rw [rdw_drop back j hlt] at hb
    have e : named' (rd_T59 back (j : Int) :: back.drop (j + 1)) (rd_T59 ws (i : Int)).f0 = (decide ((rd_T59 back (j : Int)).f0 = (rd_T59 ws (i : Int)).f0) || named' (back.drop (j + 1)) (rd_T59 ws (i : Int)).f0) := rfl
    rw [e] at hb
    cases b with
    | true =>
      simp only [if_true]
      exact ih (j + 1) true (by omega) (by omega) (by rw [← hb]; simp)
    | false =>
      simp only [Bool.false_eq_true, if_false, if_pos (show (0 : Int) ≤ (i : Int) by omega), if_pos (show (i : Int) < (ws.length : Int) by omega)]
      have eb : ((rd_T59 back (j : Int)).f0.toList == (rd_T59 ws (i : Int)).f0.toList) = decide ((rd_T59 back (j : Int)).f0 = (rd_T59 ws (i : Int)).f0) := by
        rw [Bool.eq_iff_iff, beq_iff_eq, decide_eq_true_eq, bytes_ext]
      rw [eb]
      exact ih (j + 1) _ (by omega) (by omega) (by rw [← hb, Bool.false_or])
theorem kw_l0 (A : Int × Int × Int) (hA : A = ofS l ws) (hwl : ws.length ≤ 4096) : ∀ (i : Nat) (back few : List Wd), i ≤ ws.length → Kept us (ws.drop i) back few → Ev (fun k => tontinelaw18_KindWords.l0 k l ws A.1 us back few ((i : Int) - 1) mn mt A.2.1 A.2.2) true
  | 0, back, few, _, hK => by
    have := kw_end l ws mn mt us hus hul hs hw hk hm A hA back few (by rw [List.drop_zero] at hK; exact hK)
    exact this
  | i + 1, back, few, hi, hK => by
    have hd := rdw_drop ws i (by omega)
    have hbl := hK.lb
    have hfl := hK.lf
    rw [List.length_drop] at hbl hfl
    have e : ((i + 1 : Nat) : Int) - 1 = (i : Int) := by omega
    rw [e]
    refine Ev.step (fun k => by rw [tontinelaw18_KindWords.l0]) ?_
    simp only [if_pos (show (i : Int) ≥ 0 by omega)]
    refine kw_l1 l ws mn mt us hus hul hs hw hk hm A back few i (by omega) true hwl (by omega) (by omega) (fun h => ?_) (fun h => ?_) _ 0 false rfl (by omega) (by rw [List.drop_zero, Bool.false_or])
    · refine kw_l0 A hA hwl i back few (by omega) ?_
      rw [hd]
      exact hK.there _ h
    · refine kw_l0 A hA hwl i _ _ (by omega) ?_
      rw [hd]
      exact hK.new _ h rfl
end
theorem kindWords_ev (l : List Nd) (ws : List Wd) (mn : ByteArray) (mt : Int) (hs : small l) (hw : smallW ws) (hwl : ws.length < 5864062014805) (hm : mn.size ≤ 9223372036854775806) : Ev (fun k => tontinelaw18_KindWords.f k l ws mn mt) true := by
  unfold tontinelaw18_KindWords.f
  refine Ev.bind works_ev ?_
  simp only [if_true]
  refine Ev.bind (of_ev l ws hs hw) ?_
  refine Ev.bind (uses_ev l hs) ?_
  have yes : (ofS l ws).1 = 0 → Ev (fun k => tontinelaw18_KindWords.j0 k l ws (ofS l ws).1 (usesS l).1 true mn mt (ofS l ws).2.1 (ofS l ws).2.2) true := fun h => by
    refine Ev.step (fun k => by rw [tontinelaw18_KindWords.j0]) ?_
    rw [h]
    exact Ev.const
  by_cases hc : checkF l = 0
  · have hu : usesS l = (usesGo l [], 0) := if_pos hc
    have hu2 : (usesS l).2 = 0 := by rw [hu]
    simp only [if_pos hu2]
    by_cases hk : lookS l ws = 0
    · obtain ⟨c3, c5⟩ := ofS_code l ws hk
      obtain ⟨-, k2, -⟩ := lookS_ok l ws hk
      simp only [if_neg c3, beq_eq_false_iff_ne.mpr c5]
      refine Ev.step (fun k => by rw [tontinelaw18_KindWords.j0]) ?_
      simp only [Bool.false_eq_true, if_false]
      rw [w64 _ (by omega) (by omega)]
      have hl := usesS_len l
      rw [hu] at hl ⊢
      exact kw_l0 l ws mn mt (usesGo l []) rfl hl hs hw hk hm (ofS l ws) rfl k2 ws.length [] [] (Nat.le_refl _) (by
        rw [List.drop_eq_nil_of_le (Nat.le_refl _)]
        exact ⟨fun s => rfl, fun s => rfl, fun s _ => rfl, fun x h => h, fun x h => h, Nat.le_refl _, Nat.le_refl _⟩)
    · have h0 : (ofS l ws).1 = 0 := by rw [ofS_bad l ws hk]
      by_cases c3 : (ofS l ws).2.2 = 3
      · simp only [if_pos c3]; exact yes h0
      · simp only [if_neg c3]
        have h5 : (ofS l ws).2.2 = 5 := by
          rw [ofS_bad l ws hk] at c3 ⊢
          show lookS l ws = 5
          have c3' : lookS l ws ≠ 3 := c3
          unfold lookS at hk c3' ⊢
          rw [if_pos hc] at hk c3' ⊢
          split at hk
          · rename_i h; rw [if_pos h] at c3'; exact absurd rfl c3'
          · rename_i h
            rw [if_neg h]
            split at hk
            · exact absurd rfl hk
            · rename_i h2; rw [if_neg h2]
        simp only [beq_iff_eq.mpr h5]
        exact yes h0
  · have hu : usesS l = ([], checkF l) := if_neg hc
    have hu2 : ¬ (usesS l).2 = 0 := by rw [hu]; exact hc
    simp only [if_neg hu2]
    exact yes (by
      have hk : lookS l ws ≠ 0 := fun h => hc (lookS_ok l ws h).1
      rw [ofS_bad l ws hk])
end Go.Proofs.Ytpfnnamicbbobaa.PL
