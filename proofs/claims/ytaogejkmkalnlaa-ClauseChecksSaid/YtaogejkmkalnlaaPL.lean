/- Plain law, part 0: a printed function's answer for all fuels from one on. -/
import Derived.Test.YtaogejkmkalnlaaPAllx
import Derived.Test.YtaogejkmkalnlaaHS
import Derived.Lib.Bytealg
import Derived.Lib.IndexLaws
namespace Go.Proofs.Ytaogejkmkalnlaa.PL
open Go.RowKit Go.Proofs.YtaogejkmkalnlaaW.PrintWords Go.Proofs.YtaogejkmkalnlaaW.PrintMore Go.Proofs.Ytaogejkmkalnlaa.HS Go.Proofs.Ytaogejkmkalnlaa.PAll
section
variable {α β : Type}
/-- From some fuel on a function answers v. -/
def Ev (g : Nat → Option α) (v : α) : Prop := ∃ k0, ∀ k, k0 ≤ k → g k = some v
theorem Ev.const {v : α} : Ev (fun _ => some v) v := ⟨0, fun _ _ => rfl⟩
theorem Ev.bind {g : Nat → Option α} {h : Nat → α → Option β} {v : α} {u : β} (hg : Ev g v) (hh : Ev (fun k => h k v) u) : Ev (fun k => (g k).bind (h k)) u := by
  obtain ⟨a, ha⟩ := hg
  obtain ⟨b, hb⟩ := hh
  exact ⟨max a b, fun k hk => by show (g k).bind (h k) = some u; rw [ha k (by omega), Option.bind_some]; exact hb k (by omega)⟩
theorem Ev.bindc {o : Option α} {h : Nat → α → Option β} {v : α} {u : β} (hg : o = some v) (hh : Ev (fun k => h k v) u) : Ev (fun k => o.bind (h k)) u := Ev.bind (g := fun _ => o) ⟨0, fun _ _ => hg⟩ hh
theorem Ev.step {g e : Nat → Option α} {v : α} (hs : ∀ k, g (k + 1) = e k) (he : Ev e v) : Ev g v := by
  obtain ⟨a, ha⟩ := he
  refine ⟨a + 1, fun k hk => ?_⟩
  obtain ⟨j, rfl⟩ : ∃ j, k = j + 1 := ⟨k - 1, by omega⟩
  rw [hs]
  exact ha j (by omega)
theorem Ev.congr {g e : Nat → Option α} {v : α} (hs : ∀ k, g k = e k) (he : Ev e v) : Ev g v := by
  obtain ⟨a, ha⟩ := he
  exact ⟨a, fun k hk => (hs k).trans (ha k hk)⟩
theorem Ev.get {g : Nat → Option α} {v : α} (h : Ev g v) : ∃ k, g k = some v := ⟨h.choose, h.choose_spec _ (Nat.le_refl _)⟩
theorem Ev.of {g : Nat → Option α} {v : α} (hm : ∀ k, LeO (g k) (g (k + 1))) {k0 : Nat} (h : g k0 = some v) : Ev g v :=
  ⟨k0, fun k hk => by
    induction k with
    | zero => obtain rfl : k0 = 0 := by omega
              exact h
    | succ k ih =>
      by_cases e : k0 = k + 1
      · exact e ▸ h
      · exact hm k v (ih (by omega))⟩
end
/-- A byte, as the list says it. -/
theorem bt_nat (s : ByteArray) (n : Nat) (h : n < s.size) : bt s (n : Int) = (s[n].toNat : Int) := (bt_at s n (by simpa using h)).symm
theorem toList_data (s : ByteArray) : s.toList = s.data.toList := ByteArray.toList_eq s
theorem w64 (n : Int) (h : -9223372036854775808 ≤ n) (h' : n ≤ 9223372036854775807) : wrap64 n = n := by unfold wrap64; omega
end Go.Proofs.Ytaogejkmkalnlaa.PL
/- Plain law, part 1: names: kind.isName, tontinebase.Name, clause.named, tontineref17.Word, clause.word. -/
namespace Go.Proofs.Ytaogejkmkalnlaa.PL
open Go.RowKit Go.Proofs.YtaogejkmkalnlaaW.PrintWords Go.Proofs.YtaogejkmkalnlaaW.PrintMore Go.Proofs.Ytaogejkmkalnlaa.HS Go.Proofs.Ytaogejkmkalnlaa.PAll
/-- What the inner loops say from a place on. -/
theorem inn_step (s : ByteArray) (k : Nat) (h : k < s.size) : ((s.data.toList.drop k).all innB) = (innB s[k] && ((s.data.toList.drop (k + 1)).all innB)) := by
  rw [drop_at s k h, List.all_cons]
theorem Name_l (s : ByteArray) (hs : s.size ≤ 9223372036854775807) : ∀ (m n : Nat), s.size - n = m → n ≤ s.size → Ev (fun k => tontinebase_Name.l0 k s (n : Int)) ((s.data.toList.drop n).all innB) := by
  intro m
  induction m with
  | zero =>
    intro n hm hn
    refine Ev.step (fun k => by rw [tontinebase_Name.l0]) ?_
    simp only [if_neg (show ¬ (n : Int) < (s.size : Int) by omega)]
    rw [List.drop_eq_nil_of_le (by simpa using (show s.size ≤ n by omega))]
    exact Ev.const
  | succ m ih =>
    intro n hm hn
    have hlt : n < s.size := by omega
    have hr := ih (n + 1) (by omega) (by omega)
    refine Ev.step (fun k => by rw [tontinebase_Name.l0]) ?_
    simp only [if_pos (show (n : Int) < (s.size : Int) by omega), if_pos (show (0 : Int) ≤ (n : Int) by omega), bt_nat s n hlt, show wrap64 ((n : Int) + 1) = ((n + 1 : Nat) : Int) by rw [w64 _ (by omega) (by omega)]; rfl]
    rw [inn_step s n hlt]
    generalize hc : s[n] = c
    have hb : c.toNat < 256 := c.toNat_lt
    clear hc
    cases hi : innB c with
    | true =>
      have hi' : (97 ≤ c.toNat ∧ c.toNat ≤ 122) ∨ (48 ≤ c.toNat ∧ c.toNat ≤ 57) ∨ c.toNat = 95 := by simpa [innB, letB, digB] using hi
      clear hi
      rw [Bool.true_and]
      repeat' split
      all_goals first | exact hr | (exfalso; omega)
    | false =>
      have hi' : ¬ ((97 ≤ c.toNat ∧ c.toNat ≤ 122) ∨ (48 ≤ c.toNat ∧ c.toNat ≤ 57) ∨ c.toNat = 95) := fun q => by
        have : innB c = true := by simpa [innB, letB, digB] using q
        rw [hi] at this
        cases this
      clear hi
      rw [Bool.false_and]
      repeat' split
      all_goals first | exact Ev.const | (exfalso; omega)
theorem spanN_all (q : UInt8 → Bool) (l : List UInt8) : decide (spanN q l = l.length) = l.all q := by
  induction l with
  | nil => rfl
  | cons c r ih =>
    rw [spanN_cons, List.all_cons]
    cases hq : q c with
    | true => rw [if_pos rfl, Bool.true_and, ← ih]; simp
    | false => simp
theorem named_eq (s : ByteArray) (c : UInt8) (h0 : 0 < s.size) (hc : s[0] = c) : named s.data.toList = (decide (s.size ≤ 24) && (letB c && s.data.toList.all innB)) := by
  have e : s.data.toList = c :: s.data.toList.drop 1 := by rw [← hc]; simpa using drop_at s 0 h0
  have hl : s.data.toList.length = s.size := by simp
  rw [← spanN_all]
  generalize s.data.toList = l at e hl ⊢
  generalize l.drop 1 = r at e
  subst e
  simp only [List.length_cons] at hl
  show (decide (r.length < 24) && (letB c && decide (spanN innB (c :: r) = r.length + 1))) = _
  rw [show decide (r.length < 24) = decide (s.size ≤ 24) from decide_eq_decide.mpr (by omega)]
  rfl
theorem named_nil (s : ByteArray) (h0 : ¬ 0 < s.size) : named s.data.toList = false := by
  rw [show s.data.toList = [] from List.eq_nil_of_length_eq_zero (by rw [show s.data.toList.length = s.size by simp]; omega)]
  rfl
theorem size_nil (s : ByteArray) : s.toList = ([] : List UInt8) ↔ ¬ 0 < s.size := by
  rw [toList_data]
  constructor
  · intro h
    have h2 : s.data.toList.length = 0 := by rw [h]; rfl
    rw [show s.data.toList.length = s.size by simp] at h2
    omega
  · intro h
    exact List.eq_nil_of_length_eq_zero (by rw [show s.data.toList.length = s.size by simp]; omega)
theorem Name_ev (s : ByteArray) (hs : s.size ≤ 9223372036854775807) : Ev (fun k => tontinebase_Name.f k s) (named s.data.toList) := by
  unfold tontinebase_Name.f
  by_cases h0 : 0 < s.size
  · simp only [if_neg (show ¬ (s.size : Int) < 1 by omega), if_pos (show 0 < (s.size : Int) by omega)]
    have hb := bt_nat s 0 h0
    rw [named_eq s _ h0 rfl]
    have hl := Name_l s hs s.size 0 (by omega) (by omega)
    rw [List.drop_zero] at hl
    rw [show ((0 : Nat) : Int) = 0 from rfl] at hb
    simp only [show ((0 : Nat) : Int) = 0 from rfl] at hl
    generalize hc : s[0] = c at hb ⊢
    clear hc
    have hct : c.toNat < 256 := c.toNat_lt
    rw [show bt s 0 = (c.toNat : Int) from hb]
    by_cases h1 : (s.size : Int) > 24
    · simp only [if_pos h1]
      refine Ev.step (fun k => by rw [tontinebase_Name.j0]) ?_
      simp only [if_pos]
      rw [decide_eq_false (show ¬ s.size ≤ 24 by omega), Bool.false_and]
      exact Ev.const
    · simp only [if_neg h1]
      rw [decide_eq_true (show s.size ≤ 24 by omega), Bool.true_and]
      by_cases h2 : (c.toNat : Int) < 97
      · simp only [if_pos h2]
        refine Ev.step (fun k => by rw [tontinebase_Name.j0]) ?_
        simp only [if_pos]
        rw [show letB c = false by simp [letB]; omega, Bool.false_and]
        exact Ev.const
      · simp only [if_neg h2]
        refine Ev.step (fun k => by rw [tontinebase_Name.j0]) ?_
        by_cases h3 : (c.toNat : Int) > 122
        · simp only [decide_eq_true h3, if_pos]
          rw [show letB c = false by simp [letB]; omega, Bool.false_and]
          exact Ev.const
        · simp only [decide_eq_false h3, if_neg (show ¬ (false = true) by decide)]
          rw [show letB c = true by simp [letB]; omega, Bool.true_and]
          exact hl
  · simp only [if_pos (show (s.size : Int) < 1 by omega)]
    refine Ev.step (fun k => by rw [tontinebase_Name.j0]) ?_
    simp only [if_pos]
    rw [named_nil s h0]
    exact Ev.const
end Go.Proofs.Ytaogejkmkalnlaa.PL
/- Plain law, part 2: numbers as they are written: the list's shape. -/
namespace Go.Proofs.Ytaogejkmkalnlaa.PL
open Go.Proofs.Ytaogejkmkalnlaa.HS
/-- A number, or (sum) what stands behind a $, as it is written. -/
def numOK (sum : Bool) (t : List UInt8) : Bool :=
  (decide (t.takeWhile digB ≠ []) && !(decide (1 < (t.takeWhile digB).length) && decide (t.head? = some 48))) &&
  match t.dropWhile digB with
  | [] => !sum && decide (t.length ≤ 18)
  | c :: d => (decide (c = 46) && (decide (d ≠ []) && d.all digB)) && (decide (t.length ≤ 19) && (!sum || decide (d.length = 2)))
theorem tw_all (l : List UInt8) : (l.takeWhile digB).all digB = true := by
  induction l with
  | nil => rfl
  | cons c r ih =>
    rw [List.takeWhile_cons]
    split
    · rename_i h; rw [List.all_cons, h, ih]; rfl
    · rfl
theorem dw_head (l d : List UInt8) (c : UInt8) (h : l.dropWhile digB = c :: d) : digB c = false := by
  induction l with
  | nil => cases h
  | cons x r ih =>
    rw [List.dropWhile_cons] at h
    split at h
    · exact ih h
    · rename_i hx
      cases h
      simpa using hx
theorem parts_eq (l : List UInt8) : l = l.takeWhile digB ++ l.dropWhile digB := List.takeWhile_append_dropWhile.symm
theorem tw_app (ds r : List UInt8) (h : ds.all digB = true) : (ds ++ r).takeWhile digB = ds ++ r.takeWhile digB := by
  induction ds with
  | nil => rfl
  | cons c t ih =>
    rw [List.all_cons, Bool.and_eq_true] at h
    rw [List.cons_append, List.takeWhile_cons, if_pos h.1, ih h.2]; rfl
theorem dw_app (ds r : List UInt8) (h : ds.all digB = true) : (ds ++ r).dropWhile digB = r.dropWhile digB := by
  induction ds with
  | nil => rfl
  | cons c t ih =>
    rw [List.all_cons, Bool.and_eq_true] at h
    rw [List.cons_append, List.dropWhile_cons, if_pos h.1, ih h.2]
theorem dig46 (c : UInt8) (h : digB c = true) : (c == 46) = false := by
  cases hc : c == 46 with
  | false => rfl
  | true =>
    rw [beq_iff_eq] at hc
    subst hc
    exact absurd h (by decide)
theorem count_dig (ds : List UInt8) (h : ds.all digB = true) : ds.count 46 = 0 := by
  induction ds with
  | nil => rfl
  | cons c t ih =>
    rw [List.all_cons, Bool.and_eq_true] at h
    rw [List.count_cons, ih h.2, dig46 c h.1]; rfl
theorem index_dig (ds : List UInt8) (h : ds.all digB = true) : Lib.indexByte ds 46 = -1 := by
  induction ds with
  | nil => rfl
  | cons c t ih =>
    rw [List.all_cons, Bool.and_eq_true] at h
    rw [Lib.indexByte, dig46 c h.1, ih h.2]; rfl
theorem index_dot (ds d : List UInt8) (h : ds.all digB = true) : Lib.indexByte (ds ++ 46 :: d) 46 = ds.length := by
  induction ds with
  | nil => rfl
  | cons c t ih =>
    rw [List.all_cons, Bool.and_eq_true] at h
    rw [List.cons_append, Lib.indexByte, dig46 c h.1, ih h.2]
    rw [show (((t.length : Int)) == -1) = false by rw [beq_eq_false_iff_ne]; omega]
    simp
theorem figs_app (ds r : List UInt8) (h : ds.all digB = true) (hr : r.takeWhile digB = []) : figs (ds ++ r) = if 0 < ds.length ∧ r.head? = some 46 then (if 0 < spanN digB r.tail then ds.length + (spanN digB r.tail + 1) else ds.length) else ds.length := by
  have hs : spanN digB (ds ++ r) = ds.length := by unfold spanN; rw [tw_app ds r h, hr, List.append_nil]
  have hx : (ds ++ r)[ds.length]? = r.head? := by rw [List.getElem?_append_right (Nat.le_refl _), Nat.sub_self]; cases r <;> rfl
  have hd : (ds ++ r).drop (ds.length + 1) = r.tail := by rw [List.drop_append]; simp
  unfold figs
  rw [hs, hx, hd]
theorem span_all (l : List UInt8) : spanN digB l = l.length ↔ l.all digB = true := by
  constructor
  · intro h
    unfold spanN at h
    have e := parts_eq l
    have hl := congrArg List.length e
    rw [List.length_append] at hl
    have : l.dropWhile digB = [] := List.eq_nil_of_length_eq_zero (by omega)
    rw [this, List.append_nil] at e
    rw [e]
    exact tw_all l
  · intro h
    have := tw_app l [] h
    rw [List.append_nil] at this
    unfold spanN
    rw [this]; simp
/-- The three shapes of a text. -/
theorem shapes (t : List UInt8) : (t.all digB = true) ∨ (∃ ds d, t = ds ++ 46 :: d ∧ ds.all digB = true) ∨ (∃ ds c d, t = ds ++ c :: d ∧ ds.all digB = true ∧ digB c = false ∧ c ≠ 46) := by
  cases h : t.dropWhile digB with
  | nil =>
    left
    have e := parts_eq t
    rw [h, List.append_nil] at e
    rw [e]; exact tw_all t
  | cons c d =>
    right
    have e := parts_eq t
    rw [h] at e
    have hc := dw_head t d c h
    by_cases h46 : c = 46
    · subst h46; exact .inl ⟨_, _, e, tw_all t⟩
    · exact .inr ⟨_, c, d, e, tw_all t, hc, h46⟩
theorem numOK_dig (sum : Bool) (ds : List UInt8) (h : ds.all digB = true) : numOK sum ds = ((decide (ds ≠ []) && !(decide (1 < ds.length) && decide (ds.head? = some 48))) && (!sum && decide (ds.length ≤ 18))) := by
  have e1 := tw_app ds [] h
  have e2 := dw_app ds [] h
  rw [List.append_nil] at e1 e2
  simp only [List.takeWhile_nil, List.append_nil, List.dropWhile_nil] at e1 e2
  unfold numOK
  rw [e1, e2]
theorem numOK_app (sum : Bool) (ds : List UInt8) (c : UInt8) (d : List UInt8) (h : ds.all digB = true) (hc : digB c = false) : numOK sum (ds ++ c :: d) = ((decide (ds ≠ []) && !(decide (1 < ds.length) && decide (ds.head? = some 48))) && ((decide (c = 46) && (decide (d ≠ []) && d.all digB)) && (decide (ds.length + d.length ≤ 18) && (!sum || decide (d.length = 2))))) := by
  have e1 := tw_app ds (c :: d) h
  have e2 := dw_app ds (c :: d) h
  rw [List.takeWhile_cons, if_neg (by simp [hc]), List.append_nil] at e1
  rw [List.dropWhile_cons, if_neg (by simp [hc])] at e2
  unfold numOK
  rw [e1, e2]
  have e3 : decide ((ds ++ c :: d).length ≤ 19) = decide (ds.length + d.length ≤ 18) := decide_eq_decide.mpr (by simp; omega)
  rw [e3]
  cases ds with
  | nil => rfl
  | cons x r => rfl
end Go.Proofs.Ytaogejkmkalnlaa.PL
/- Plain law, part 3: clause.number is numOK. -/
namespace Go.Proofs.Ytaogejkmkalnlaa.PL
open Go.RowKit Go.Proofs.YtaogejkmkalnlaaW.PrintWords Go.Proofs.YtaogejkmkalnlaaW.PrintMore Go.Proofs.Ytaogejkmkalnlaa.HS Go.Proofs.Ytaogejkmkalnlaa.PAll
theorem lsize (s : ByteArray) : s.data.toList.length = s.size := by simp
theorem count1 (s : ByteArray) : strings_Count.f s ⟨#[46]⟩ = some ((s.data.toList.count 46 : Nat) : Int) := rfl
theorem index1 (s : ByteArray) : stringslite_Index.f s ⟨#[46]⟩ = some (Lib.indexByte s.data.toList 46) := rfl
theorem ex_list (s : ByteArray) (a b : Nat) (_ : b ≤ s.size) : (s.extract a b).data.toList = (s.data.toList.drop a).take (b - a) := by
  rw [ByteArray.data_extract, Array.toList_extract, List.extract_eq_take_drop]
theorem ex_size (s : ByteArray) (a b : Nat) (h : b ≤ s.size) : (s.extract a b).size = b - a := by
  rw [ByteArray.size_extract]; omega
theorem many_eq (s : ByteArray) (hs : s.size ≤ 9223372036854775807) : clause_many.f s = some ((s.size : Int) - (s.data.toList.count 46 : Nat)) := by
  unfold clause_many.f
  rw [count1, Option.bind_some]
  have : s.data.toList.count 46 ≤ s.size := by rw [← lsize]; exact List.count_le_length
  rw [w64 _ (by omega) (by omega)]
/-- The three answers of Cut at a point. -/
theorem cut_none (s : ByteArray) (h : Lib.indexByte s.data.toList 46 = -1) : strings_Cut.f s ⟨#[46]⟩ = some (s, ⟨#[]⟩, false) := by
  unfold strings_Cut.f stringslite_Cut.f
  rw [index1, h]; rfl
theorem cut_some (s : ByteArray) (n : Nat) (hs : s.size ≤ 9223372036854775807) (hn : n < s.size) (h : Lib.indexByte s.data.toList 46 = n) : strings_Cut.f s ⟨#[46]⟩ = some (s.extract 0 n, s.extract (n + 1) s.size, true) := by
  unfold strings_Cut.f stringslite_Cut.f
  rw [index1, h, Option.bind_some]
  have hw : wrap64 ((n : Int) + ((⟨#[46]⟩ : ByteArray).size : Int)) = ((n + 1 : Nat) : Int) := by rw [show ((⟨#[46]⟩ : ByteArray).size) = 1 from rfl, w64 _ (by omega) (by omega)]; rfl
  rw [hw, if_pos (by omega), if_pos (by omega), if_pos (by omega), if_pos (by omega), if_pos (by omega)]
  rfl
/-- What 'early' and 'pennies' say. -/
theorem early_of (s p q : ByteArray) (b : Bool) (h : strings_Cut.f s ⟨#[46]⟩ = some (p, q, b)) : clause_early.f s = some (decide (1 < p.size) && decide (p.data.toList.head? = some 48)) := by
  unfold clause_early.f
  rw [h, Option.bind_some]
  show (if (p.size : Int) > 1 then (if 0 < (p.size : Int) then some (bt p 0 == 48) else none) else some false) = _
  by_cases h1 : 1 < p.size
  · rw [if_pos (by omega), if_pos (by omega), decide_eq_true h1, Bool.true_and]
    congr 1
    have e : p.data.toList.head? = some p[0] := by
      rw [show p.data.toList = p[0] :: p.data.toList.drop 1 by simpa using drop_at p 0 (by omega)]; rfl
    rw [e, show bt p 0 = (p[0].toNat : Int) from bt_nat p 0 (by omega)]
    rw [Bool.eq_iff_iff]
    simp only [beq_iff_eq, decide_eq_true_eq, Option.some.injEq]
    constructor
    · intro e; exact UInt8.toNat_inj.mp (by simpa using (show p[0].toNat = 48 by omega))
    · intro e; rw [e]; rfl
  · rw [if_neg (by omega), decide_eq_false h1, Bool.false_and]
theorem pennies_of (s p q : ByteArray) (b : Bool) (h : strings_Cut.f s ⟨#[46]⟩ = some (p, q, b)) : clause_pennies.f s = some (b && decide (q.size = 2)) := by
  unfold clause_pennies.f
  rw [h, Option.bind_some]
  cases b with
  | true => rw [if_pos rfl, Bool.true_and]; congr 1; rw [Bool.eq_iff_iff]; simp only [beq_iff_eq, decide_eq_true_eq]; omega
  | false => rfl
theorem amiss_of (s p q : ByteArray) (b sum : Bool) (hs : s.size ≤ 9223372036854775807) (h : strings_Cut.f s ⟨#[46]⟩ = some (p, q, b)) :
    ∃ e, clause_amiss.f s sum = some e ∧ (e == 0) = (decide ((s.size : Int) - (s.data.toList.count 46 : Nat) ≤ 18) && (!(decide (1 < p.size) && decide (p.data.toList.head? = some 48)) && (!sum || (b && decide (q.size = 2))))) := by
  unfold clause_amiss.f
  rw [many_eq s hs, Option.bind_some, early_of s p q b h, Option.bind_some, pennies_of s p q b h]
  by_cases h1 : (s.size : Int) - (s.data.toList.count 46 : Nat) > 18
  · rw [if_pos h1]
    exact ⟨_, rfl, by rw [decide_eq_false (by omega)]; rfl⟩
  · rw [if_neg h1, decide_eq_true (show (s.size : Int) - (s.data.toList.count 46 : Nat) ≤ 18 by omega), Bool.true_and]
    cases (decide (1 < p.size) && decide (p.data.toList.head? = some 48)) with
    | true => exact ⟨_, rfl, rfl⟩
    | false =>
      rw [if_neg (by decide)]
      cases sum with
      | false => exact ⟨_, rfl, rfl⟩
      | true =>
        rw [if_pos rfl, Option.bind_some]
        cases (b && decide (q.size = 2)) with
        | true => exact ⟨_, rfl, rfl⟩
        | false => exact ⟨_, rfl, rfl⟩
theorem number_eq (s : ByteArray) (sum : Bool) (hs : s.size ≤ 9223372036854775807) : clause_number.f s sum = some (numOK sum s.data.toList) := by
  have hl := lsize s
  unfold clause_number.f clause_figures.f
  rw [if_pos hs, Option.bind_some]
  rcases shapes s.data.toList with h | ⟨ds, d, e, h⟩ | ⟨ds, c, d, e, h, hc, h46⟩
  · have hf : figs s.data.toList = s.size := by
      have := figs_app s.data.toList [] h rfl
      rw [List.append_nil] at this
      rw [this, hl]; simp
    rw [hf, if_pos rfl, numOK_dig sum _ h]
    by_cases h0 : 0 < s.size
    · rw [if_neg (fun e => (size_nil s).mp e h0)]
      obtain ⟨x, hx, hx0⟩ := amiss_of s s ⟨#[]⟩ false sum hs (cut_none s (index_dig _ h))
      rw [hx, Option.bind_some, hx0, count_dig _ h, decide_eq_true (show s.data.toList ≠ [] by intro e; rw [e] at hl; simp at hl; omega)]
      congr 1
      rw [hl, show decide ((s.size : Int) - ((0 : Nat) : Int) ≤ 18) = decide (s.size ≤ 18) from decide_eq_decide.mpr (by omega)]
      cases (decide (1 < s.size) && decide (s.data.toList.head? = some 48)) <;> cases decide (s.size ≤ 18) <;> cases sum <;> rfl
    · rw [if_pos ((size_nil s).mpr h0), decide_eq_false (show ¬ s.data.toList ≠ [] from fun q => q (List.eq_nil_of_length_eq_zero (by omega)))]
      rfl
  · have hlen : s.size = ds.length + (d.length + 1) := by rw [← hl, e]; simp
    have hf : figs (ds ++ 46 :: d) = if 0 < ds.length then (if 0 < spanN digB d then ds.length + (spanN digB d + 1) else ds.length) else ds.length := by
      rw [figs_app ds (46 :: d) h rfl]
      by_cases q : 0 < ds.length
      · rw [if_pos ⟨q, rfl⟩, if_pos q]; rfl
      · rw [if_neg (fun z => q z.1), if_neg q]
    rw [e, hf, numOK_app sum ds 46 d h (by decide)]
    by_cases h1 : 0 < ds.length
    · rw [if_pos h1]
      by_cases h2 : 0 < spanN digB d
      · rw [if_pos h2]
        have hd : d ≠ [] := fun q => by rw [q] at h2; exact absurd h2 (by decide)
        by_cases h3 : spanN digB d = d.length
        · rw [if_pos (by omega), if_neg (fun q => (size_nil s).mp q (by omega))]
          have hi := index_dot ds d h
          rw [← e] at hi
          obtain ⟨x, hx, hx0⟩ := amiss_of s _ _ true sum hs (cut_some s ds.length hs (by omega) hi)
          rw [hx, Option.bind_some, hx0, ex_size _ _ _ (by omega), ex_size _ _ _ (Nat.le_refl _), ex_list _ _ _ (by omega), e, List.count_append, count_dig ds h, List.count_cons, count_dig d ((span_all d).mp h3)]
          rw [show (List.drop 0 (ds ++ 46 :: d)).take (ds.length - 0) = ds by simp]
          rw [decide_eq_true (show ds ≠ [] by intro q; rw [q] at h1; exact absurd h1 (by decide)), decide_eq_true hd, (span_all d).mp h3]
          congr 1
          rw [show decide ((s.size : Int) - ((0 + (0 + if (46 : UInt8) == 46 then 1 else 0) : Nat) : Int) ≤ 18) = decide (ds.length + d.length ≤ 18) from decide_eq_decide.mpr (by simp; omega), show decide (1 < ds.length - 0) = decide (1 < ds.length) from rfl, show decide (s.size - (ds.length + 1) = 2) = decide (d.length = 2) from decide_eq_decide.mpr (by omega)]
          cases (decide (1 < ds.length) && decide (ds.head? = some 48)) <;> cases decide (ds.length + d.length ≤ 18) <;> cases sum <;> cases decide (d.length = 2) <;> rfl
        · have := spanN_le digB d
          rw [if_neg (by omega)]
          rw [show d.all digB = false from Bool.eq_false_iff.mpr fun q => h3 ((span_all d).mpr q)]
          simp
      · rw [if_neg h2, if_neg (by omega)]
        have : (decide (d ≠ []) && d.all digB) = false := by
          cases hq : (decide (d ≠ []) && d.all digB) with
          | false => rfl
          | true =>
            rw [Bool.and_eq_true, decide_eq_true_eq] at hq
            have := (span_all d).mpr hq.2
            have h9 : d.length ≠ 0 := fun q => hq.1 (List.eq_nil_of_length_eq_zero q)
            omega
        rw [this]; simp
    · rw [if_neg h1, if_neg (by omega), decide_eq_false (show ¬ ds ≠ [] from fun q => q (List.eq_nil_of_length_eq_zero (by omega)))]
      rfl
  · have hlen : s.size = ds.length + (d.length + 1) := by rw [← hl, e]; simp
    have hf := figs_app ds (c :: d) h (by rw [List.takeWhile_cons, if_neg (by simp [hc])])
    rw [if_neg (by rintro ⟨_, q⟩; exact h46 (by simpa using q))] at hf
    rw [e, hf, if_neg (by omega), numOK_app sum ds c d h hc, decide_eq_false h46]
    simp
end Go.Proofs.Ytaogejkmkalnlaa.PL
/- Plain law, part 4: the document's Number and Sum are numOK. -/
namespace Go.Proofs.Ytaogejkmkalnlaa.PL
open Go.RowKit Go.Proofs.YtaogejkmkalnlaaW.PrintWords Go.Proofs.YtaogejkmkalnlaaW.PrintMore Go.Proofs.Ytaogejkmkalnlaa.HS Go.Proofs.Ytaogejkmkalnlaa.PAll
theorem bt_dig (s : ByteArray) (n : Nat) (h : n < s.size) : digB s[n] = (decide (48 ≤ bt s n) && decide (bt s n ≤ 57)) := by
  rw [bt_nat s n h]
  unfold digB
  rw [show decide (48 ≤ (s[n].toNat : Int)) = decide (48 ≤ s[n].toNat) from decide_eq_decide.mpr (by omega), show decide ((s[n].toNat : Int) ≤ 57) = decide (s[n].toNat ≤ 57) from decide_eq_decide.mpr (by omega)]
theorem bt_mid (s : ByteArray) (ds d : List UInt8) (c : UInt8) (e : s.data.toList = ds ++ c :: d) : bt s (ds.length : Int) = c.toNat := by
  have hl := lsize s
  have hlt : ds.length < s.size := by rw [← hl, e]; simp
  rw [bt_nat s _ hlt]
  have : s[ds.length] = c := by
    have h2 : s.data.toList[ds.length]? = some s[ds.length] := by rw [List.getElem?_eq_getElem (by omega)]; rfl
    rw [e, List.getElem?_append_right (Nat.le_refl _), Nat.sub_self] at h2
    simpa using h2.symm
  rw [this]
theorem digits_l (s : ByteArray) (hs : s.size ≤ 9223372036854775806) : ∀ (m n : Nat), s.size - n = m → n ≤ s.size → Ev (fun k => tontineref17_digits.l0 k s (n : Int)) ((n + spanN digB (s.data.toList.drop n) : Nat) : Int) := by
  intro m
  induction m with
  | zero =>
    intro n hm hn
    refine Ev.step (fun k => by rw [tontineref17_digits.l0]) ?_
    simp only [if_neg (show ¬ (n : Int) < (s.size : Int) by omega)]
    rw [spanN_end digB s n (by omega)]
    exact Ev.const
  | succ m ih =>
    intro n hm hn
    have hlt : n < s.size := by omega
    have hr := ih (n + 1) (by omega) (by omega)
    refine Ev.step (fun k => by rw [tontineref17_digits.l0]) ?_
    simp only [if_pos (show (n : Int) < (s.size : Int) by omega), if_pos (show (0 : Int) ≤ (n : Int) by omega), show wrap64 ((n : Int) + 1) = ((n + 1 : Nat) : Int) by rw [w64 _ (by omega) (by omega)]; rfl]
    have hd := bt_dig s n hlt
    by_cases h1 : bt s n ≥ 48
    · simp only [if_pos h1]
      by_cases h2 : bt s n ≤ 57
      · simp only [if_pos h2]
        rw [spanN_at digB s n hlt (by rw [hd, decide_eq_true h1, decide_eq_true h2]; rfl), show n + (spanN digB (s.data.toList.drop (n + 1)) + 1) = n + 1 + spanN digB (s.data.toList.drop (n + 1)) by omega]
        exact hr
      · simp only [if_neg h2]
        rw [spanN_stop digB s n hlt (by rw [hd, decide_eq_false h2, Bool.and_false])]
        exact Ev.const
    · simp only [if_neg h1]
      rw [spanN_stop digB s n hlt (by rw [hd, decide_eq_false h1, Bool.false_and])]
      exact Ev.const
theorem digits_ev (s : ByteArray) (hs : s.size ≤ 9223372036854775806) (n : Nat) (hn : n ≤ s.size) : Ev (fun k => tontineref17_digits.f k s (n : Int)) ((n + spanN digB (s.data.toList.drop n) : Nat) : Int) := by
  unfold tontineref17_digits.f
  exact digits_l s hs _ n rfl hn
/-- Figures, no 0 ahead. -/
def dgOK (l : List UInt8) : Bool := decide (l ≠ []) && !(decide (1 < l.length) && decide (l.head? = some 48))
theorem Digits_l (s : ByteArray) (hs : s.size ≤ 9223372036854775806) (ha : s.data.toList.all digB = true) : ∀ (m n : Nat), s.size - n = m → n ≤ s.size → Ev (fun k => tontinebase_Digits.l0 k s (n : Int)) (dgOK s.data.toList) := by
  intro m
  induction m with
  | zero =>
    intro n hm hn
    have hl := lsize s
    refine Ev.step (fun k => by rw [tontinebase_Digits.l0]) ?_
    simp only [if_neg (show ¬ (n : Int) < (s.size : Int) by omega), toList_data]
    by_cases h0 : 0 < s.size
    · have e : s.data.toList = s[0] :: s.data.toList.drop 1 := by simpa using drop_at s 0 h0
      simp only [if_pos (show 0 < (s.size : Int) by omega)]
      have hb := bt_nat s 0 h0
      rw [show ((0 : Nat) : Int) = 0 from rfl] at hb
      rw [hb]
      generalize s.data.toList = l at e hl ⊢
      generalize s[0] = c at e ⊢
      generalize l.drop 1 = r at e
      subst e
      simp only [List.length_cons] at hl
      by_cases h48 : c = 48
      · subst h48
        cases r with
        | nil => simp only [if_pos]; exact Ev.const
        | cons y r =>
          simp only [show ¬ ((48 : UInt8) :: y :: r = [48]) by simp, if_false, show ¬ ((48 : UInt8) :: y :: r = []) by simp]
          exact Ev.const
      · simp only [show ¬ (c :: r = [48]) by simp [h48], if_false, show ¬ (c :: r = []) by simp]
        rw [show dgOK (c :: r) = true by simp [dgOK, h48], show ((c.toNat : Int) != 48) = true from bne_iff_ne.mpr fun q => h48 (UInt8.toNat_inj.mp (by show c.toNat = 48; omega))]
        exact Ev.const
    · have : s.data.toList = [] := List.eq_nil_of_length_eq_zero (by omega)
      simp only [this, show ¬ (([] : List UInt8) = [48]) by simp, if_false, if_true]
      exact Ev.const
  | succ m ih =>
    intro n hm hn
    have hlt : n < s.size := by omega
    have hr := ih (n + 1) (by omega) (by omega)
    refine Ev.step (fun k => by rw [tontinebase_Digits.l0]) ?_
    simp only [if_pos (show (n : Int) < (s.size : Int) by omega), if_pos (show (0 : Int) ≤ (n : Int) by omega), show wrap64 ((n : Int) + 1) = ((n + 1 : Nat) : Int) by rw [w64 _ (by omega) (by omega)]; rfl]
    have hd := bt_dig s n hlt
    have : digB s[n] = true := by
      have h2 := List.all_eq_true.mp ha s[n]
      exact h2 (by have := List.getElem_mem (l := s.data.toList) (n := n) (by rw [lsize]; exact hlt); exact this)
    rw [this] at hd
    have hd2 := hd.symm
    rw [Bool.and_eq_true, decide_eq_true_eq, decide_eq_true_eq] at hd2
    simp only [if_neg (show ¬ bt s n < 48 by omega), if_neg (show ¬ bt s n > 57 by omega)]
    exact hr
theorem Digits_ev (s : ByteArray) (hs : s.size ≤ 9223372036854775806) (ha : s.data.toList.all digB = true) : Ev (fun k => tontinebase_Digits.f k s) (dgOK s.data.toList) := by
  unfold tontinebase_Digits.f
  exact Digits_l s hs ha s.size 0 (by omega) (by omega)
theorem Number_j1 (s : ByteArray) (hs : s.size ≤ 9223372036854775806) : Ev (fun k => tontineref17_Number.j1 k s) (numOK false s.data.toList) := by
  have hl := lsize s
  refine Ev.step (fun k => by rw [tontineref17_Number.j1]) ?_
  have hd := digits_ev s hs 0 (by omega)
  rw [List.drop_zero, Nat.zero_add] at hd
  refine Ev.bind hd ?_
  have hsp := spanN_le digB s.data.toList
  simp only [if_pos (show (0 : Int) ≤ ((spanN digB s.data.toList : Nat) : Int) by omega), if_pos (show ((spanN digB s.data.toList : Nat) : Int) ≤ (s.size : Int) by omega), Int.toNat_natCast]
  have he : (s.extract 0 (spanN digB s.data.toList)).data.toList = s.data.toList.takeWhile digB := by
    rw [ex_list _ _ _ (by omega), List.drop_zero, Nat.sub_zero]
    conv => lhs; rw [show s.data.toList.take (spanN digB s.data.toList) = (s.data.toList.takeWhile digB ++ s.data.toList.dropWhile digB).take (spanN digB s.data.toList) by rw [← parts_eq]]
    unfold spanN
    rw [List.take_left]
  have hD := Digits_ev (s.extract 0 (spanN digB s.data.toList)) (by rw [ex_size _ _ _ (by omega)]; omega) (by rw [he]; exact tw_all _)
  rw [he] at hD
  refine Ev.bind hD ?_
  rcases shapes s.data.toList with h | ⟨ds, d, e, h⟩ | ⟨ds, c, d, e, h, hc, h46⟩
  · have e1 := tw_app s.data.toList [] h
    rw [List.append_nil, List.takeWhile_nil, List.append_nil] at e1
    rw [(span_all _).mpr h, numOK_dig false _ h, e1, hl]
    show Ev (fun k => if dgOK s.data.toList = true then _ else _) (dgOK s.data.toList && (!false && decide (s.size ≤ 18)))
    cases dgOK s.data.toList with
    | false => simp only [Bool.false_and]; exact Ev.const
    | true =>
      simp only [if_true, if_neg (show ¬ (s.size : Int) < (s.size : Int) by omega)]
      rw [show (true && (!false && decide (s.size ≤ 18))) = decide ((s.size : Int) ≤ 18) by rw [Bool.true_and, Bool.not_false, Bool.true_and]; exact decide_eq_decide.mpr (by omega)]
      exact Ev.const
  · have e1 := tw_app ds (46 :: d) h
    rw [List.takeWhile_cons, if_neg (by decide), List.append_nil] at e1
    have hlen : s.size = ds.length + (d.length + 1) := by rw [← hl, e]; simp
    have hsn : spanN digB s.data.toList = ds.length := by rw [e]; unfold spanN; rw [e1]
    have hD2 := digits_ev s hs (ds.length + 1) (by omega)
    rw [show s.data.toList.drop (ds.length + 1) = d by rw [e, List.drop_append]; simp] at hD2
    rw [hsn]
    rw [show numOK false s.data.toList = (dgOK ds && ((decide ((46 : UInt8) = 46) && (decide (d ≠ []) && d.all digB)) && (decide (ds.length + d.length ≤ 18) && (!false || decide (d.length = 2))))) by rw [e]; exact numOK_app false ds 46 d h (by decide)]
    rw [e, e1, bt_mid s ds d 46 e]
    cases dgOK ds with
    | false => simp only [Bool.false_and]; exact Ev.const
    | true =>
      simp only [if_true, if_pos (show ((ds.length : Nat) : Int) < (s.size : Int) by omega), show (((46 : UInt8).toNat : Nat) : Int) = 46 from rfl, show wrap64 ((ds.length : Int) + 1) = ((ds.length + 1 : Nat) : Int) by rw [w64 _ (by omega) (by omega)]; rfl]
      refine Ev.bind hD2 ?_
      have := spanN_le digB d
      by_cases h3 : spanN digB d = d.length
      · simp only [if_pos (show ((ds.length + 1 + spanN digB d : Nat) : Int) = (s.size : Int) by omega), (span_all d).mp h3]
        by_cases h4 : d = []
        · subst h4
          simp only [if_pos (show ((ds.length + 1 : Nat) : Int) = (s.size : Int) by simp at hlen; omega)]
          exact Ev.const
        · have h5 : d.length ≠ 0 := fun q => h4 (List.eq_nil_of_length_eq_zero q)
          simp only [if_neg (show ¬ ((ds.length + 1 : Nat) : Int) = (s.size : Int) by omega)]
          rw [w64 _ (by omega) (by omega), decide_eq_true h4, show decide ((s.size : Int) - 1 ≤ 18) = decide (ds.length + d.length ≤ 18) from decide_eq_decide.mpr (by omega)]
          cases decide (ds.length + d.length ≤ 18) <;> exact Ev.const
      · simp only [if_neg (show ¬ ((ds.length + 1 + spanN digB d : Nat) : Int) = (s.size : Int) by omega), show d.all digB = false from Bool.eq_false_iff.mpr fun q => h3 ((span_all d).mpr q)]
        cases decide (d ≠ []) <;> exact Ev.const
  · have e1 := tw_app ds (c :: d) h
    rw [List.takeWhile_cons, if_neg (by simp [hc]), List.append_nil] at e1
    have hlen : s.size = ds.length + (d.length + 1) := by rw [← hl, e]; simp
    have hsn : spanN digB s.data.toList = ds.length := by rw [e]; unfold spanN; rw [e1]
    rw [hsn]
    rw [show numOK false s.data.toList = false by rw [e, numOK_app false ds c d h hc, decide_eq_false h46]; simp]
    rw [e, e1, bt_mid s ds d c e]
    have hcn : ¬ (c.toNat : Int) = 46 := fun q => h46 (UInt8.toNat_inj.mp (by show c.toNat = 46; omega))
    cases dgOK ds with
    | false => exact Ev.const
    | true => simp only [if_true, if_pos (show ((ds.length : Nat) : Int) < (s.size : Int) by omega), if_neg hcn]; exact Ev.const
end Go.Proofs.Ytaogejkmkalnlaa.PL
/- Plain law, part 5: texts of nodes: what the program says and what the document says. -/
namespace Go.Proofs.Ytaogejkmkalnlaa.PL
set_option linter.unusedSimpArgs false
open Go.RowKit Go.Proofs.YtaogejkmkalnlaaW.PrintWords Go.Proofs.YtaogejkmkalnlaaW.PrintMore Go.Proofs.Ytaogejkmkalnlaa.HS Go.Proofs.Ytaogejkmkalnlaa.PAll
/-- Without a % at the end. -/
def strip (s : ByteArray) : ByteArray := if 0 < s.size ∧ bt s ((s.size : Int) - 1) = 37 then s.extract 0 (s.size - 1) else s
theorem strip_le (s : ByteArray) : (strip s).size ≤ s.size := by
  unfold strip
  split
  · rw [ex_size _ _ _ (by omega)]; omega
  · exact Nat.le_refl _
theorem one_list (c x : UInt8) : (([c] : List UInt8) == [x]) = decide ((c.toNat : Int) = x.toNat) := by
  rw [Bool.eq_iff_iff, decide_eq_true_eq, beq_iff_eq]
  constructor
  · intro h; cases h; rfl
  · intro h; rw [UInt8.toNat_inj.mp (show c.toNat = x.toNat by omega)]
theorem trim_eq (s : ByteArray) (hs : s.size ≤ 9223372036854775806) : strings_TrimSuffix.f s ⟨#[37]⟩ = some (strip s) := by
  unfold strings_TrimSuffix.f stringslite_TrimSuffix.f stringslite_HasSuffix.f
  have h1 : ((⟨#[37]⟩ : ByteArray).size : Int) = 1 := rfl
  rw [h1]
  by_cases h0 : 0 < s.size
  · have hw : wrap64 ((s.size : Int) - 1) = ((s.size - 1 : Nat) : Int) := by rw [w64 _ (by omega) (by omega)]; omega
    rw [hw, if_pos (by omega), if_pos (by omega), if_pos (by omega), if_pos (by omega), if_pos (by omega), Int.toNat_natCast, Option.bind_some]
    have e : (s.extract (s.size - 1) s.size).toList = [s[s.size - 1]] := by
      rw [toList_data, ex_list _ _ _ (Nat.le_refl _), drop_at s (s.size - 1) (by omega), show s.size - (s.size - 1) = 1 by omega]; rfl
    rw [e, show (⟨#[37]⟩ : ByteArray).toList = [37] by rw [toList_data], one_list]
    have hb : bt s ((s.size : Int) - 1) = (s[s.size - 1].toNat : Int) := by rw [show ((s.size : Int) - 1) = ((s.size - 1 : Nat) : Int) by omega, bt_nat s (s.size - 1) (by omega)]
    rw [show (((37 : UInt8).toNat : Nat) : Int) = 37 from rfl]
    by_cases h2 : (s[s.size - 1].toNat : Int) = 37
    · have hst : strip s = s.extract 0 (s.size - 1) := if_pos ⟨h0, hb.trans h2⟩
      rw [hst, decide_eq_true h2]; rfl
    · have hst : strip s = s := if_neg (fun q => h2 (hb.symm.trans q.2))
      rw [hst, decide_eq_false h2]; rfl
  · rw [if_neg (by omega)]
    have hst : strip s = s := if_neg (fun q => h0 q.1)
    rw [hst]; rfl
theorem NumberF_ev (s : ByteArray) (hs : s.size ≤ 9223372036854775806) : Ev (fun k => tontineref17_Number.f k s) (numOK false (strip s).data.toList) := by
  unfold tontineref17_Number.f
  have hj := Number_j1 (strip s) (Nat.le_trans (strip_le s) hs)
  by_cases h0 : 0 < s.size
  · have hw : wrap64 ((s.size : Int) - 1) = ((s.size - 1 : Nat) : Int) := by rw [w64 _ (by omega) (by omega)]; omega
    simp only [if_neg (fun e => (size_nil s).mp e h0), hw, if_pos (show (0 : Int) ≤ ((s.size - 1 : Nat) : Int) by omega), if_pos (show ((s.size - 1 : Nat) : Int) < (s.size : Int) by omega)]
    refine Ev.step (fun k => by rw [tontineref17_Number.j0]) ?_
    have hb : bt s ((s.size : Int) - 1) = bt s ((s.size - 1 : Nat) : Int) := by rw [show ((s.size : Int) - 1) = ((s.size - 1 : Nat) : Int) by omega]
    by_cases h2 : bt s ((s.size - 1 : Nat) : Int) = 37
    · have hst : strip s = s.extract 0 (s.size - 1) := if_pos ⟨h0, hb.trans h2⟩
      rw [hst] at hj ⊢
      simp only [h2, beq_self_eq_true, if_true, hw, if_pos (show (0 : Int) ≤ ((s.size - 1 : Nat) : Int) by omega), if_pos (show ((s.size - 1 : Nat) : Int) ≤ (s.size : Int) by omega), Int.toNat_natCast]
      exact hj
    · have hst : strip s = s := if_neg (fun q => h2 (hb.symm.trans q.2))
      rw [hst] at hj ⊢
      simp only [beq_eq_false_iff_ne.mpr h2, show ¬ (false = true) by decide, if_false]
      exact hj
  · simp only [if_pos ((size_nil s).mpr h0)]
    refine Ev.step (fun k => by rw [tontineref17_Number.j0]) ?_
    have hst : strip s = s := if_neg (fun q => h0 q.1)
    rw [hst] at hj ⊢
    exact hj
/-- A sum, as it is written. -/
def sumOK (l : List UInt8) : Bool := decide (l.head? = some 36) && numOK true l.tail
theorem head_bt (s : ByteArray) (h0 : 0 < s.size) (c : UInt8) : decide (s.data.toList.head? = some c) = decide (bt s 0 = c.toNat) := by
  have e : s.data.toList.head? = some s[0] := by
    rw [show s.data.toList = s[0] :: s.data.toList.drop 1 by simpa using drop_at s 0 h0]; rfl
  rw [e, show bt s 0 = (s[0].toNat : Int) from bt_nat s 0 h0]
  exact decide_eq_decide.mpr ⟨fun q => by rw [Option.some.inj q], fun q => by rw [UInt8.toNat_inj.mp (show s[0].toNat = c.toNat by omega)]⟩
theorem cutp_eq (s : ByteArray) : strings_CutPrefix.f s ⟨#[36]⟩ = some (if s.data.toList.head? = some 36 then (s.extract 1 s.size, true) else (s, false)) := by
  unfold strings_CutPrefix.f stringslite_CutPrefix.f stringslite_HasPrefix.f
  have h1 : ((⟨#[36]⟩ : ByteArray).size : Int) = 1 := rfl
  rw [h1]
  by_cases h0 : 0 < s.size
  · rw [if_pos (by omega), if_pos (by omega), if_pos (by omega), if_pos (by omega), Option.bind_some]
    have e : (s.extract 0 ((1 : Int).toNat)).toList = [s[0]] := by
      rw [toList_data, ex_list _ _ _ (by show 1 ≤ s.size; omega), drop_at s 0 (by omega)]; rfl
    rw [e, show (⟨#[36]⟩ : ByteArray).toList = [36] by rw [toList_data], one_list]
    have hd := head_bt s h0 36
    rw [show bt s 0 = (s[0].toNat : Int) from bt_nat s 0 h0] at hd
    rw [← hd]
    by_cases h2 : s.data.toList.head? = some 36
    · rw [if_pos h2, decide_eq_true h2, if_pos rfl, if_pos (by omega)]; rfl
    · rw [if_neg h2, decide_eq_false h2]; rfl
  · rw [if_neg (by omega), Option.bind_some]
    have : s.data.toList = [] := List.eq_nil_of_length_eq_zero (by rw [lsize]; omega)
    rw [this]; rfl
theorem Sum_ev (s : ByteArray) (hs : s.size ≤ 9223372036854775806) : Ev (fun k => tontineref17_Sum.f k s) (sumOK s.data.toList) := by
  unfold tontineref17_Sum.f
  have hl := lsize s
  unfold sumOK
  by_cases h5 : (s.size : Int) < 5
  · simp only [if_pos h5]
    refine Ev.step (fun k => by rw [tontineref17_Sum.j0]) ?_
    simp only [if_true]
    have : (decide (s.data.toList.head? = some 36) && numOK true s.data.toList.tail) = false := by
      cases hx : s.data.toList with
      | nil => rfl
      | cons c t =>
        rw [hx] at hl
        simp only [List.length_cons] at hl
        rw [List.tail_cons]
        have : numOK true t = false := by
          rcases shapes t with h | ⟨ds, d, e, h⟩ | ⟨ds, c, d, e, h, hc, h46⟩
          · rw [numOK_dig true t h]; simp
          · rw [e, numOK_app true ds 46 d h (by decide)]
            rw [e] at hl
            simp only [List.length_append, List.length_cons] at hl
            by_cases h1 : ds = []
            · rw [decide_eq_false (fun q => q h1)]; rfl
            · have : ds.length ≠ 0 := fun q => h1 (List.eq_nil_of_length_eq_zero q)
              rw [show decide (d.length = 2) = false from decide_eq_false (by omega)]; simp
          · rw [e, numOK_app true ds c d h hc, decide_eq_false h46]; simp
        rw [this, Bool.and_false]
    rw [this]
    exact Ev.const
  · have h0 : 0 < s.size := by omega
    simp only [if_neg h5, if_pos (show 0 < (s.size : Int) by omega)]
    refine Ev.step (fun k => by rw [tontineref17_Sum.j0]) ?_
    rw [head_bt s h0 36, show (((36 : UInt8).toNat : Nat) : Int) = 36 from rfl]
    by_cases h36 : bt s 0 = 36
    · simp only [h36, bne_self_eq_false, show ¬ (false = true) by decide, if_false, decide_true, Bool.true_and]
      have hx : s.data.toList = s[0] :: s.data.toList.drop 1 := by simpa using drop_at s 0 h0
      obtain ⟨t, ht⟩ : ∃ t, t = s.data.toList.drop 1 := ⟨_, rfl⟩
      rw [show s.data.toList.tail = t by rw [ht, List.drop_one]]
      have htl : t.length + 1 = s.size := by rw [ht, List.length_drop, hl]; omega
      have hd := digits_ev s hs 1 (by omega)
      rw [← ht] at hd
      have hsp := spanN_le digB t
      refine Ev.bind (show Ev (fun k => tontineref17_digits.f k s 1) _ from hd) ?_
      simp only [if_pos (show (1 : Int) ≤ ((1 + spanN digB t : Nat) : Int) by omega), if_pos (show ((1 + spanN digB t : Nat) : Int) ≤ (s.size : Int) by omega), Int.toNat_natCast]
      have he : (s.extract 1 (1 + spanN digB t)).data.toList = t.takeWhile digB := by
        rw [ex_list _ _ _ (by omega), ← ht, show 1 + spanN digB t - 1 = (t.takeWhile digB).length by unfold spanN; omega]
        conv => lhs; rw [show t.take (t.takeWhile digB).length = (t.takeWhile digB ++ t.dropWhile digB).take (t.takeWhile digB).length by rw [← parts_eq]]
        rw [List.take_left]
      have hD := Digits_ev (s.extract 1 (1 + spanN digB t)) (by rw [ex_size _ _ _ (by omega)]; omega) (by rw [he]; exact tw_all _)
      rw [he] at hD
      refine Ev.bind hD ?_
      have hw3 : wrap64 ((s.size : Int) - 3) = (s.size : Int) - 3 := w64 _ (by omega) (by omega)
      simp only [hw3]
      rcases shapes t with h | ⟨ds, d, e, h⟩ | ⟨ds, c, d, e, h, hc, h46⟩
      · rw [(span_all _).mpr h, show numOK true t = false by rw [numOK_dig true t h]; simp]
        simp only [if_neg (show ¬ ((1 + t.length : Nat) : Int) = (s.size : Int) - 3 by omega)]
        cases dgOK (t.takeWhile digB) <;> exact Ev.const
      · have e1 := tw_app ds (46 :: d) h
        rw [List.takeWhile_cons, if_neg (by decide), List.append_nil] at e1
        have hlen : t.length = ds.length + (d.length + 1) := by rw [e]; simp
        have hsn : spanN digB t = ds.length := by rw [e]; unfold spanN; rw [e1]
        have hb : bt s ((1 + ds.length : Nat) : Int) = 46 := by
          have := bt_mid s (s[0] :: ds) d 46 (by rw [hx, ← ht, e]; rfl)
          rw [List.length_cons] at this
          rw [show 1 + ds.length = ds.length + 1 by omega, this]; rfl
        have hD2 := digits_ev s hs (1 + ds.length + 1) (by omega)
        rw [show s.data.toList.drop (1 + ds.length + 1) = d by rw [show 1 + ds.length + 1 = 1 + (ds.length + 1) by omega, ← List.drop_drop, ← ht, e, List.drop_append]; simp] at hD2
        rw [hsn]
        rw [show numOK true t = (dgOK ds && ((decide ((46 : UInt8) = 46) && (decide (d ≠ []) && d.all digB)) && (decide (ds.length + d.length ≤ 18) && (!true || decide (d.length = 2))))) by rw [e]; exact numOK_app true ds 46 d h (by decide)]
        rw [e, e1]
        cases dgOK ds with
        | false => simp only [Bool.false_and]; exact Ev.const
        | true =>
          simp only [if_true]
          by_cases h2 : d.length = 2
          · simp only [if_pos (show ((1 + ds.length : Nat) : Int) = (s.size : Int) - 3 by omega), if_pos (show (0 : Int) ≤ ((1 + ds.length : Nat) : Int) by omega), if_pos (show ((1 + ds.length : Nat) : Int) < (s.size : Int) by omega), hb, if_true, show wrap64 (((1 + ds.length : Nat) : Int) + 1) = ((1 + ds.length + 1 : Nat) : Int) by rw [w64 _ (by omega) (by omega)]; rfl]
            refine Ev.bind hD2 ?_
            have := spanN_le digB d
            have h4 : d ≠ [] := fun q => by rw [q] at h2; cases h2
            rw [w64 ((s.size : Int) - 2) (by omega) (by omega), decide_eq_true h2, decide_eq_true h4]
            by_cases h3 : spanN digB d = d.length
            · simp only [if_pos (show ((1 + ds.length + 1 + spanN digB d : Nat) : Int) = (s.size : Int) by omega), (span_all d).mp h3]
              rw [show decide ((s.size : Int) - 2 ≤ 18) = decide (ds.length + d.length ≤ 18) from decide_eq_decide.mpr (by omega)]
              cases decide (ds.length + d.length ≤ 18) <;> exact Ev.const
            · simp only [if_neg (show ¬ ((1 + ds.length + 1 + spanN digB d : Nat) : Int) = (s.size : Int) by omega), show d.all digB = false from Bool.eq_false_iff.mpr fun q => h3 ((span_all d).mpr q)]
              exact Ev.const
          · simp only [if_neg (show ¬ ((1 + ds.length : Nat) : Int) = (s.size : Int) - 3 by omega)]
            rw [decide_eq_false h2]
            simp only [Bool.not_true, Bool.false_or, Bool.and_false]
            exact Ev.const
      · have e1 := tw_app ds (c :: d) h
        rw [List.takeWhile_cons, if_neg (by simp [hc]), List.append_nil] at e1
        have hlen : t.length = ds.length + (d.length + 1) := by rw [e]; simp
        have hsn : spanN digB t = ds.length := by rw [e]; unfold spanN; rw [e1]
        have hb : bt s ((1 + ds.length : Nat) : Int) = c.toNat := by
          have := bt_mid s (s[0] :: ds) d c (by rw [hx, ← ht, e]; rfl)
          rw [List.length_cons] at this
          rw [show 1 + ds.length = ds.length + 1 by omega, this]
        have hcn : ¬ (c.toNat : Int) = 46 := fun q => h46 (UInt8.toNat_inj.mp (by show c.toNat = 46; omega))
        rw [hsn, show numOK true t = false by rw [e, numOK_app true ds c d h hc, decide_eq_false h46]; simp]
        rw [e, e1]
        cases dgOK ds with
        | false => exact Ev.const
        | true =>
          simp only [if_true]
          by_cases h2 : ((1 + ds.length : Nat) : Int) = (s.size : Int) - 3
          · simp only [if_pos h2, if_pos (show (0 : Int) ≤ ((1 + ds.length : Nat) : Int) by omega), if_pos (show ((1 + ds.length : Nat) : Int) < (s.size : Int) by omega), hb, if_neg hcn]
            exact Ev.const
          · simp only [if_neg h2]
            exact Ev.const
    · simp only [bne_iff_ne.mpr h36, if_true, decide_eq_false h36, Bool.false_and]
      exact Ev.const
end Go.Proofs.Ytaogejkmkalnlaa.PL
/- Plain law, part 6: nodes. -/
namespace Go.Proofs.Ytaogejkmkalnlaa.PL
set_option linter.unusedSimpArgs false
open Go.RowKit Go.Proofs.YtaogejkmkalnlaaW.PrintWords Go.Proofs.YtaogejkmkalnlaaW.PrintMore Go.Proofs.Ytaogejkmkalnlaa.HS Go.Proofs.Ytaogejkmkalnlaa.PAll
def wordOK (s : ByteArray) : Bool := named s.data.toList && !Ytaogejkmkalnlaa.HB.keptB s
def textOK (op : Int) (s : ByteArray) : Bool := if op = 1 then numOK false (strip s).data.toList else if op = 2 then sumOK s.data.toList else if op = 5 then wordOK s else (s.toList == ([] : List UInt8))
/-- How many parts; -1: as many as it says, one at least. -/
def pcount (op : Int) : Int := if 1 ≤ op ∧ op ≤ 5 then 0 else if op = 6 ∨ op = 7 then 1 else if op = 20 then 3 else if op = 21 ∨ op = 22 then -1 else 2
def nodeOK (op n : Int) (s : ByteArray) : Bool := (decide (1 ≤ op ∧ op ≤ 23) && (decide (0 ≤ pcount op ∧ n = pcount op) || decide (pcount op < 0 ∧ 1 ≤ n))) && textOK op s
theorem parts_ev (op : Int) : Ev (fun k => clause_parts.f k op) (pcount op) := by
  unfold clause_parts.f
  have last : ¬ (1 ≤ op ∧ op ≤ 5) → Ev (fun k => clause_parts.j0 k op false) (pcount op) := by
    intro h
    refine Ev.step (fun k => by rw [clause_parts.j0]) ?_
    unfold pcount
    rw [if_neg h]
    by_cases h6 : op = 6
    · simp only [if_pos h6]
      refine Ev.step (fun k => by rw [clause_parts.j1]) ?_
      subst h6
      exact Ev.const
    · simp only [if_neg h6]
      refine Ev.step (fun k => by rw [clause_parts.j1]) ?_
      by_cases h7 : op = 7
      · subst h7; exact Ev.const
      · simp only [beq_eq_false_iff_ne.mpr h7, Bool.false_eq_true, if_false]
        rw [if_neg (show ¬ (op = 6 ∨ op = 7) by omega)]
        by_cases h20 : op = 20
        · simp only [if_pos h20]; exact Ev.const
        · simp only [if_neg h20]
          by_cases h21 : op = 21
          · simp only [if_pos h21]; rw [if_pos (.inl h21)]; exact Ev.const
          · simp only [if_neg h21]
            by_cases h22 : op = 22
            · simp only [if_pos h22]; rw [if_pos (.inr h22)]; exact Ev.const
            · simp only [if_neg h22]; rw [if_neg (by omega)]; exact Ev.const
  by_cases h : 1 ≤ op ∧ op ≤ 5
  · have first : Ev (fun k => clause_parts.j0 k op true) (pcount op) := by
      refine Ev.step (fun k => by rw [clause_parts.j0]) ?_
      unfold pcount
      rw [if_pos h]
      exact Ev.const
    have : op = 1 ∨ op = 2 ∨ op = 3 ∨ op = 4 ∨ op = 5 := by omega
    rcases this with rfl | rfl | rfl | rfl | rfl <;> exact first
  · simp only [if_neg (show ¬ op = 1 by omega), if_neg (show ¬ op = 2 by omega), if_neg (show ¬ op = 3 by omega), if_neg (show ¬ op = 4 by omega), beq_eq_false_iff_ne.mpr (show op ≠ 5 by omega)]
    exact last h
/-- Words between blanks. -/
def joined : List (List UInt8) → List UInt8
  | [] => [32]
  | w :: r => 32 :: (w ++ joined r)
def no32 (l : List UInt8) : Bool := l.all fun c => c != 32
theorem joined_head (ws : List (List UInt8)) : ∃ R, joined ws = 32 :: R := by cases ws <;> exact ⟨_, rfl⟩
theorem pre_eq : ∀ (s w R : List UInt8), no32 s = true → no32 w = true → (s ++ [32]).isPrefixOf (w ++ 32 :: R) = (w == s)
  | [], [], R, _, _ => by simp [List.isPrefixOf]
  | [], d :: w, R, _, hw => by
    rw [no32, List.all_cons, Bool.and_eq_true] at hw
    have : (32 == d) = false := by rw [beq_eq_false_iff_ne]; intro e; rw [← e] at hw; exact absurd hw.1 (by decide)
    simp [List.isPrefixOf, this]
  | c :: s, [], R, hs, _ => by
    rw [no32, List.all_cons, Bool.and_eq_true] at hs
    have : (c == 32) = false := by rw [beq_eq_false_iff_ne]; intro e; rw [e] at hs; exact absurd hs.1 (by decide)
    simp [List.isPrefixOf, this]
  | c :: s, d :: w, R, hs, hw => by
    rw [no32, List.all_cons, Bool.and_eq_true] at hs hw
    have ih := pre_eq s w R hs.2 hw.2
    rw [List.cons_append, List.cons_append, List.isPrefixOf, ih, List.cons_beq_cons, Bool.beq_comm (a := c) (b := d)]
theorem has_cons (b : UInt8) (l sub : List UInt8) : Lib.contains (b :: l) sub = (sub.isPrefixOf (b :: l) || Lib.contains l sub) := by
  unfold Lib.contains
  rw [Lib.index]
  have := Lib.index_ge l sub
  split
  · rename_i h; rw [h]; rfl
  · rename_i h
    rw [Bool.eq_false_iff.mpr h, Bool.false_or]
    split
    · rename_i h2; rw [beq_iff_eq] at h2; rw [h2]
    · rename_i h2; rw [beq_iff_eq] at h2; exact decide_eq_decide.mpr (by omega)
theorem has_skip (s : List UInt8) : ∀ (w l : List UInt8), no32 w = true → Lib.contains (w ++ l) (32 :: s) = Lib.contains l (32 :: s)
  | [], l, _ => rfl
  | d :: w, l, hw => by
    rw [no32, List.all_cons, Bool.and_eq_true] at hw
    have : (32 == d) = false := by rw [beq_eq_false_iff_ne]; intro e; rw [← e] at hw; exact absurd hw.1 (by decide)
    rw [List.cons_append, has_cons, has_skip s w l hw.2, List.isPrefixOf, this]; rfl
theorem has_joined (s : List UInt8) (hs : no32 s = true) : ∀ ws : List (List UInt8), (ws.all no32) = true → Lib.contains (joined ws) (32 :: (s ++ [32])) = ws.any fun w => w == s
  | [], _ => by
    cases s with
    | nil => rfl
    | cons c t =>
      rw [joined, has_cons]
      simp [List.isPrefixOf, Lib.contains, Lib.index]
  | w :: r, h => by
    rw [List.all_cons, Bool.and_eq_true] at h
    obtain ⟨R, hR⟩ := joined_head r
    rw [joined, has_cons, has_skip _ w _ h.1, has_joined s hs r h.2, List.any_cons]
    rw [hR, List.isPrefixOf, pre_eq s w R hs h.1]
    rfl
theorem no32_inn (l : List UInt8) (h : l.all innB = true) : no32 l = true := by
  rw [List.all_eq_true] at h
  unfold no32
  rw [List.all_eq_true]
  intro c hc
  have := h c hc
  rw [bne_iff_ne]
  intro e
  subst e
  exact absurd this (by decide)
theorem named_small (s : ByteArray) (h : named s.data.toList = true) : s.size ≤ 24 ∧ no32 s.data.toList = true := by
  by_cases h0 : 0 < s.size
  · rw [named_eq s _ h0 rfl, Bool.and_eq_true, Bool.and_eq_true, decide_eq_true_eq] at h
    exact ⟨h.1, no32_inn _ h.2.2⟩
  · rw [named_nil s h0] at h; cases h
theorem kept_eq (s : ByteArray) (h : no32 s.data.toList = true) : Lib.contains Ytaogejkmkalnlaa.HB.keptText (32 :: (s.data.toList ++ [32])) = Ytaogejkmkalnlaa.HB.keptB s := by
  have e : Ytaogejkmkalnlaa.HB.keptText = joined (Ytaogejkmkalnlaa.HB.keptWs.map fun x => x.data.toList) := by decide
  rw [e, has_joined _ h _ (by decide), List.any_map]
  unfold Ytaogejkmkalnlaa.HB.keptB
  congr 1
  funext x
  simp only [Function.comp, toList_data]
theorem word_eq (s : ByteArray) (hs : s.size ≤ 9223372036854775806) : clause_word.f s = some (wordOK s) := by
  unfold clause_word.f clause_named.f
  rw [if_pos (by omega), Option.bind_some]
  unfold wordOK
  cases h : named s.data.toList with
  | false => rfl
  | true =>
    have hn := named_small s h
    rw [if_pos rfl]
    unfold clause_isKept.f
    rw [if_pos hn.1, Option.bind_some, kept_eq s hn.2]
    rfl
theorem Word_ev (s : ByteArray) (hs : s.size ≤ 9223372036854775806) : Ev (fun k => tontineref17_Word.f k s) (wordOK s) := by
  unfold tontineref17_Word.f wordOK
  refine Ev.bind (Name_ev s (by omega)) ?_
  cases named s.data.toList with
  | false => exact Ev.const
  | true => exact Ev.const
theorem text_eq (op n : Int) (s : ByteArray) (hs : s.size ≤ 9223372036854775806) : clause_text.f op n s = some (textOK op s) := by
  unfold clause_text.f textOK
  have hst := strip_le s
  by_cases h1 : op = 1
  · rw [if_pos h1, if_pos h1, trim_eq s hs, Option.bind_some, number_eq _ false (by omega)]; rfl
  · rw [if_neg h1, if_neg h1]
    by_cases h2 : op = 2
    · rw [if_pos h2, if_pos h2, cutp_eq s, Option.bind_some]
      unfold sumOK
      by_cases h3 : s.data.toList.head? = some 36
      · rw [if_pos h3, decide_eq_true h3, Bool.true_and]
        have hx : 0 < s.size := by
          by_cases h0 : 0 < s.size
          · exact h0
          · rw [show s.data.toList = [] from List.eq_nil_of_length_eq_zero (by rw [lsize]; omega)] at h3; cases h3
        show (if true = true then (clause_number.f (s.extract 1 s.size) true).bind fun t => some t else some false) = _
        rw [if_pos rfl, number_eq _ true (by rw [ex_size _ _ _ (Nat.le_refl _)]; omega), ex_list _ _ _ (Nat.le_refl _), List.take_of_length_le (by rw [List.length_drop, lsize]; omega), List.drop_one]; rfl
      · rw [if_neg h3, decide_eq_false h3]; rfl
    · rw [if_neg h2, if_neg h2]
      by_cases h5 : op = 5
      · rw [if_pos h5, if_pos h5, word_eq s hs]; rfl
      · rw [if_neg h5, if_neg h5]
theorem node_ev (op n : Int) (s : ByteArray) (hs : s.size ≤ 9223372036854775806) : Ev (fun k => clause_node.f k op n s) (nodeOK op n s) := by
  unfold clause_node.f
  refine Ev.bind (parts_ev op) ?_
  simp only [text_eq op n s hs, Option.bind_some]
  unfold nodeOK
  by_cases h1 : op ≥ 1
  · by_cases h2 : op ≤ 23
    · rw [decide_eq_true (show 1 ≤ op ∧ op ≤ 23 from ⟨h1, h2⟩), Bool.true_and]
      simp only [if_pos h1, if_pos h2]
      by_cases h3 : pcount op ≥ 0
      · simp only [if_pos h3, if_neg (show ¬ pcount op < 0 by omega)]
        rw [decide_eq_false (show ¬ (pcount op < 0 ∧ 1 ≤ n) by omega), Bool.or_false]
        by_cases h4 : n = pcount op
        · simp only [if_pos h4]; rw [decide_eq_true ⟨h3, h4⟩, Bool.true_and]; exact Ev.const
        · simp only [if_neg h4]; rw [decide_eq_false (fun q => h4 q.2), Bool.false_and]; exact Ev.const
      · simp only [if_neg h3, if_pos (show pcount op < 0 by omega)]
        rw [decide_eq_false (show ¬ (0 ≤ pcount op ∧ n = pcount op) by omega), Bool.false_or]
        by_cases h4 : n ≥ 1
        · simp only [if_pos h4]; rw [decide_eq_true (show pcount op < 0 ∧ 1 ≤ n by omega), Bool.true_and]; exact Ev.const
        · simp only [if_neg h4]; rw [decide_eq_false (show ¬ (pcount op < 0 ∧ 1 ≤ n) by omega), Bool.false_and]; exact Ev.const
    · simp only [if_pos h1, if_neg h2]
      rw [decide_eq_false (fun q => h2 q.2), Bool.false_and, Bool.false_and]; exact Ev.const
  · simp only [if_neg h1]
    rw [decide_eq_false (fun q => h1 q.1), Bool.false_and, Bool.false_and]; exact Ev.const
/-- The document's count. -/
def rcount (op n : Int) : Int := if 1 ≤ op ∧ op ≤ 5 then 0 else if op = 6 ∨ op = 7 then 1 else if (8 ≤ op ∧ op ≤ 19) ∨ op = 23 then 2 else if op = 20 then 3 else if (op = 21 ∨ op = 22) ∧ n ≥ 1 then n else -1
theorem count_ev (op n : Int) (s : ByteArray) : Ev (fun k => tontineref17_count.f k op n s) (rcount op n) := by
  have c2 : ¬ (1 ≤ op ∧ op ≤ 5) → ¬ (op = 6 ∨ op = 7) → ∀ b, b = decide ((8 ≤ op ∧ op ≤ 19) ∨ op = 23) → Ev (fun k => tontineref17_count.j2 k b op n s) (rcount op n) := by
    intro h1 h2 b hb
    refine Ev.step (fun k => by rw [tontineref17_count.j2]) ?_
    unfold rcount
    rw [if_neg h1, if_neg h2, hb]
    by_cases h3 : (8 ≤ op ∧ op ≤ 19) ∨ op = 23
    · rw [if_pos h3, decide_eq_true h3]; exact Ev.const
    · rw [if_neg h3, decide_eq_false h3]
      simp only [Bool.false_eq_true, if_false]
      by_cases h4 : op = 20
      · simp only [if_pos h4]; exact Ev.const
      · simp only [if_neg h4]
        by_cases h5 : op = 21
        · simp only [if_pos h5]
          by_cases h6 : n ≥ 1
          · simp only [if_pos h6]; rw [if_pos ⟨.inl h5, h6⟩]; exact Ev.const
          · simp only [if_neg h6]; rw [if_neg (fun q => h6 q.2)]; exact Ev.const
        · simp only [if_neg h5]
          by_cases h7 : op = 22
          · simp only [if_pos h7]
            by_cases h6 : n ≥ 1
            · simp only [if_pos h6]; rw [if_pos ⟨.inr h7, h6⟩]; exact Ev.const
            · simp only [if_neg h6]; rw [if_neg (fun q => h6 q.2)]; exact Ev.const
          · simp only [if_neg h7]; rw [if_neg (by omega)]; exact Ev.const
  have c1 : ¬ (1 ≤ op ∧ op ≤ 5) → ∀ b, b = decide (op = 6 ∨ op = 7) → Ev (fun k => tontineref17_count.j1 k b op n s) (rcount op n) := by
    intro h1 b hb
    refine Ev.step (fun k => by rw [tontineref17_count.j1]) ?_
    rw [hb]
    by_cases h2 : op = 6 ∨ op = 7
    · rw [decide_eq_true h2]
      unfold rcount
      rw [if_neg h1, if_pos h2]; exact Ev.const
    · rw [decide_eq_false h2]
      simp only [Bool.false_eq_true, if_false]
      by_cases h3 : op ≥ 8
      · simp only [if_pos h3]
        by_cases h4 : op ≤ 19
        · simp only [if_pos h4]; exact c2 h1 h2 _ (decide_eq_true (.inl ⟨h3, h4⟩)).symm
        · simp only [if_neg h4]
          exact c2 h1 h2 _ (by rw [Bool.eq_iff_iff]; simp only [beq_iff_eq, decide_eq_true_eq]; omega)
      · simp only [if_neg h3]
        exact c2 h1 h2 _ (by rw [Bool.eq_iff_iff]; simp only [beq_iff_eq, decide_eq_true_eq]; omega)
  have c0 : ∀ b, b = decide (1 ≤ op ∧ op ≤ 5) → Ev (fun k => tontineref17_count.j0 k b op n s) (rcount op n) := by
    intro b hb
    refine Ev.step (fun k => by rw [tontineref17_count.j0]) ?_
    rw [hb]
    by_cases h1 : 1 ≤ op ∧ op ≤ 5
    · rw [decide_eq_true h1]
      unfold rcount
      rw [if_pos h1]; exact Ev.const
    · rw [decide_eq_false h1]
      simp only [Bool.false_eq_true, if_false]
      by_cases h6 : op = 6
      · simp only [if_pos h6]; exact c1 h1 _ (decide_eq_true (.inl h6)).symm
      · simp only [if_neg h6]
        exact c1 h1 _ (by rw [Bool.eq_iff_iff]; simp only [beq_iff_eq, decide_eq_true_eq]; omega)
  unfold tontineref17_count.f
  by_cases h : op ≥ 1
  · simp only [if_pos h]; exact c0 _ (decide_eq_decide.mpr (by omega))
  · simp only [if_neg h]; exact c0 _ (decide_eq_false (by omega)).symm
theorem rnode_ev (op n : Int) (s : ByteArray) (hs : s.size ≤ 9223372036854775806) : Ev (fun k => tontineref17_node.f k op n s) (nodeOK op n s) := by
  have j1 : Ev (fun k => tontineref17_node.j0 k true op n s) false := by
    refine Ev.step (fun k => by rw [tontineref17_node.j0]) ?_
    exact Ev.const
  have j2 : Ev (fun k => tontineref17_node.j0 k false op n s) (textOK op s) := by
    refine Ev.step (fun k => by rw [tontineref17_node.j0]) ?_
    simp only [Bool.false_eq_true, if_false]
    unfold textOK
    by_cases h1 : op = 1
    · simp only [if_pos h1]; exact Ev.bind (NumberF_ev s hs) Ev.const
    · simp only [if_neg h1]
      by_cases h2 : op = 2
      · simp only [if_pos h2]; exact Ev.bind (Sum_ev s hs) Ev.const
      · simp only [if_neg h2]
        by_cases h5 : op = 5
        · simp only [if_pos h5]; exact Ev.bind (Word_ev s hs) Ev.const
        · simp only [if_neg h5]; exact Ev.const
  have hc : (decide (1 ≤ op ∧ op ≤ 23) && (decide (0 ≤ pcount op ∧ n = pcount op) || decide (pcount op < 0 ∧ 1 ≤ n))) = (decide (0 ≤ rcount op n) && decide (rcount op n = n)) := by
    rw [Bool.eq_iff_iff]
    simp only [Bool.and_eq_true, Bool.or_eq_true, decide_eq_true_eq]
    unfold pcount rcount
    repeat' split
    all_goals omega
  unfold tontineref17_node.f nodeOK
  rw [hc]
  refine Ev.bind (count_ev op n s) ?_
  by_cases h : rcount op n < 0
  · simp only [if_pos h]
    rw [decide_eq_false (show ¬ 0 ≤ rcount op n by omega), Bool.false_and, Bool.false_and]
    exact j1
  · simp only [if_neg h]
    rw [decide_eq_true (show 0 ≤ rcount op n by omega), Bool.true_and]
    refine Ev.bind (count_ev op n s) ?_
    by_cases h2 : rcount op n = n
    · rw [decide_eq_true h2, Bool.true_and]; simp only [show (rcount op n != n) = false from bne_eq_false_iff_eq.mpr h2]; exact j2
    · rw [decide_eq_false h2, Bool.false_and]; simp only [bne_iff_ne.mpr h2]; exact j1
end Go.Proofs.Ytaogejkmkalnlaa.PL
/- Plain law, part 7: whole formulas: clause.CheckFormula and the document's. -/
namespace Go.Proofs.Ytaogejkmkalnlaa.PL
set_option linter.unusedSimpArgs false
open Go.RowKit Go.Proofs.YtaogejkmkalnlaaW.PrintWords Go.Proofs.YtaogejkmkalnlaaW.PrintMore Go.Proofs.Ytaogejkmkalnlaa.HS Go.Proofs.Ytaogejkmkalnlaa.PAll
abbrev Nd := S43
/-- Texts are no longer than a memory bears. -/
def small (l : List Nd) : Prop := ∀ x ∈ l, x.f2.size ≤ 9223372036854775806
def mxs (b : Int) (l : List Int) : Int := l.foldl mx b
/-- How deep the formulas on the stack are; none: a node is wrong. -/
def wgo : List Nd → List Int → Option (List Int)
  | [], st => some st
  | x :: r, st => if nodeOK x.f0 x.f1 x.f2 = true ∧ x.f1 ≤ st.length then wgo r (st.take (st.length - x.f1.toNat) ++ [wrap64 (mxs 0 (st.drop (st.length - x.f1.toNat)) + 1)]) else none
def wres : Option (List Int) → Int × Bool
  | some [d] => (d, true)
  | _ => (0, false)
theorem nodeOK_n (op n : Int) (s : ByteArray) (h : nodeOK op n s = true) : 0 ≤ n := by
  unfold nodeOK at h
  simp only [Bool.and_eq_true, Bool.or_eq_true, decide_eq_true_eq] at h
  omega
theorem rd_drop (l : List Nd) (j : Nat) (h : j < l.length) : l.drop j = rd_T43 l (j : Int) :: l.drop (j + 1) := by
  rw [List.drop_eq_getElem_cons h]
  simp [rd_T43, List.getD_eq_getElem?_getD, h]
theorem rd_mem (l : List Nd) (j : Nat) (h : j < l.length) : rd_T43 l (j : Int) ∈ l := by
  have := List.mem_of_mem_drop (rd_drop l j h ▸ List.mem_cons_self)
  exact this
theorem rdi_drop (l : List Int) (j : Nat) (h : j < l.length) : l.drop j = rd l (j : Int) :: l.drop (j + 1) := by
  rw [List.drop_eq_getElem_cons h]
  simp [rd, List.getD_eq_getElem?_getD, h]
theorem succ64 (j n : Nat) (h : j < n) (hn : n ≤ 9223372036854775807) : wrap64 ((j : Int) + 1) = ((j + 1 : Nat) : Int) := by rw [w64 _ (by omega) (by omega)]; rfl
section
variable (l : List Nd) (hl : l.length ≤ 8796093022208)
theorem whole_l1 (st : List Int) (j : Nat) (x0 x1 : Int) (x2 : ByteArray) (V : Int × Bool) (h1 : 0 ≤ x1) (h2 : x1 ≤ st.length) (hst : st.length ≤ 8796093022208) (ys : List Int) (hys : ys.length ≤ 8796093022208) :
    ∀ (m i : Nat) (b : Int), ys.length - i = m → i ≤ ys.length → Ev (fun k => clause_whole.l0 k (st.take (st.length - x1.toNat) ++ [wrap64 (mxs b (ys.drop i) + 1)]) l (l.length : Int) (wrap64 ((j : Int) + 1))) V →
    Ev (fun k => clause_whole.l1 k st b l (l.length : Int) (j : Int) ys (ys.length : Int) (i : Int) x0 x1 x2) V := by
  intro m
  induction m with
  | zero =>
    intro i b hm hi h
    rw [List.drop_eq_nil_of_le (by omega)] at h
    refine Ev.step (fun k => by rw [clause_whole.l1]) ?_
    have hw : wrap64 ((st.length : Int) - x1) = ((st.length - x1.toNat : Nat) : Int) := by rw [w64 _ (by omega) (by omega)]; omega
    simp only [if_neg (show ¬ (i : Int) < (ys.length : Int) by omega), hw, if_pos (show (0 : Int) ≤ ((st.length - x1.toNat : Nat) : Int) by omega), if_pos (show ((st.length - x1.toNat : Nat) : Int) ≤ (st.length : Int) by omega), Int.toNat_natCast, Option.bind_some,
      if_pos (show (st.take (st.length - x1.toNat)).length < 17592186044416 by rw [List.length_take]; omega)]
    exact h
  | succ m ih =>
    intro i b hm hi h
    have hlt : i < ys.length := by omega
    rw [rdi_drop ys i hlt] at h
    have := ih (i + 1) (mx b (rd ys i)) (by omega) (by omega) h
    refine Ev.step (fun k => by rw [clause_whole.l1]) ?_
    simp only [if_pos (show (i : Int) < (ys.length : Int) by omega), if_pos (show (0 : Int) ≤ (i : Int) by omega), succ64 i _ hlt (by omega)]
    exact this
include hl in
theorem whole_l (hs : small l) : ∀ (m j : Nat) (st : List Int), l.length - j = m → j ≤ l.length → st.length ≤ j → Ev (fun k => clause_whole.l0 k st l (l.length : Int) (j : Int)) (wres (wgo (l.drop j) st)) := by
  intro m
  induction m with
  | zero =>
    intro j st hm hj hst
    rw [List.drop_eq_nil_of_le (by omega)]
    refine Ev.step (fun k => by rw [clause_whole.l0]) ?_
    simp only [if_neg (show ¬ (j : Int) < (l.length : Int) by omega)]
    match st with
    | [] => exact Ev.const
    | [d] => exact Ev.const
    | a :: b :: r =>
      simp only [if_neg (show ¬ (((a :: b :: r : List Int).length : Nat) : Int) = 1 by simp; omega)]
      exact Ev.const
  | succ m ih =>
    intro j st hm hj hst
    have hlt : j < l.length := by omega
    have hmem := rd_mem l j hlt
    rw [rd_drop l j hlt]
    refine Ev.step (fun k => by rw [clause_whole.l0]) ?_
    generalize hx : rd_T43 l (j : Int) = x at hmem ⊢
    simp only [if_pos (show (j : Int) < (l.length : Int) by omega), if_pos (show (0 : Int) ≤ (j : Int) by omega), hx]
    refine Ev.bind (node_ev x.f0 x.f1 x.f2 (hs x hmem)) ?_
    unfold wgo
    have no : Ev (fun k => clause_whole.j1 k st l (l.length : Int) (j : Int) true x.f0 x.f1 x.f2) (0, false) := by
      refine Ev.step (fun k => by rw [clause_whole.j1]) ?_
      exact Ev.const
    cases hn : nodeOK x.f0 x.f1 x.f2 with
    | false =>
      rw [if_neg (by simp)]
      exact no
    | true =>
      have h0 := nodeOK_n _ _ _ hn
      by_cases h1 : x.f1 ≤ st.length
      · rw [if_pos ⟨rfl, h1⟩, decide_eq_false (show ¬ x.f1 > (st.length : Int) by omega)]
        simp only [if_true]
        refine Ev.step (fun k => by rw [clause_whole.j1]) ?_
        have hw : wrap64 ((st.length : Int) - x.f1) = ((st.length - x.f1.toNat : Nat) : Int) := by rw [w64 _ (by omega) (by omega)]; omega
        simp only [Bool.false_eq_true, if_false, hw, if_pos (show (0 : Int) ≤ ((st.length - x.f1.toNat : Nat) : Int) by omega), if_pos (show ((st.length - x.f1.toNat : Nat) : Int) ≤ (st.length : Int) by omega), Int.toNat_natCast, Option.bind_some]
        refine whole_l1 l st j x.f0 x.f1 x.f2 _ h0 h1 (by omega) _ (by rw [List.length_drop]; omega) _ 0 0 rfl (by omega) ?_
        rw [List.drop_zero, succ64 j _ hlt (by omega)]
        exact ih (j + 1) _ (by omega) (by omega) (by rw [List.length_append, List.length_take, List.length_singleton]; omega)
      · rw [if_neg (fun q => h1 q.2), decide_eq_true (show x.f1 > (st.length : Int) by omega)]
        exact no
include hl in
theorem whole_ev (hs : small l) : Ev (fun k => clause_whole.f k l) (wres (wgo l [])) := by
  unfold clause_whole.f
  exact whole_l l hl hs l.length 0 [] (by omega) (by omega) (by simp)
def rres (n : Nat) : Option (List Int) → Bool × Int
  | some [d] => if (n : Int) > 1024 then (false, 0) else (true, d)
  | _ => (false, 0)
theorem right_l1 (st : List Int) (j : Nat) (x1 : Int) (V : Bool × Int) (hst : st.length ≤ 8796093022208) :
    ∀ (m i : Nat) (b : Int), st.length - i = m → i ≤ st.length → Ev (fun k => tontineref17_Right.l0 k l (st.take (st.length - x1.toNat) ++ [wrap64 (mxs b (st.drop i) + 1)]) (wrap64 ((j : Int) + 1))) V →
    Ev (fun k => tontineref17_Right.l1 k l st (j : Int) ((st.length - x1.toNat : Nat) : Int) b (i : Int)) V := by
  intro m
  induction m with
  | zero =>
    intro i b hm hi h
    rw [List.drop_eq_nil_of_le (by omega)] at h
    refine Ev.step (fun k => by rw [tontineref17_Right.l1]) ?_
    simp only [if_neg (show ¬ (i : Int) < (st.length : Int) by omega), if_pos (show (0 : Int) ≤ ((st.length - x1.toNat : Nat) : Int) by omega), if_pos (show ((st.length - x1.toNat : Nat) : Int) ≤ (st.length : Int) by omega), Int.toNat_natCast, Option.bind_some,
      if_pos (show (st.take (st.length - x1.toNat)).length < 17592186044416 by rw [List.length_take]; omega)]
    exact h
  | succ m ih =>
    intro i b hm hi h
    have hlt : i < st.length := by omega
    rw [rdi_drop st i hlt] at h
    have := ih (i + 1) (mx b (rd st i)) (by omega) (by omega) h
    refine Ev.step (fun k => by rw [tontineref17_Right.l1]) ?_
    simp only [if_pos (show (i : Int) < (st.length : Int) by omega), if_pos (show (0 : Int) ≤ (i : Int) by omega), succ64 i _ hlt (by omega)]
    exact this
include hl in
theorem right_l (hs : small l) : ∀ (m j : Nat) (st : List Int), l.length - j = m → j ≤ l.length → st.length ≤ j → Ev (fun k => tontineref17_Right.l0 k l st (j : Int)) (rres l.length (wgo (l.drop j) st)) := by
  intro m
  induction m with
  | zero =>
    intro j st hm hj hst
    rw [List.drop_eq_nil_of_le (by omega)]
    refine Ev.step (fun k => by rw [tontineref17_Right.l0]) ?_
    simp only [if_neg (show ¬ (j : Int) < (l.length : Int) by omega)]
    match st with
    | [] => exact Ev.const
    | [d] =>
      unfold rres wgo
      by_cases h : (l.length : Int) > 1024
      · simp only [h, if_true]; exact Ev.const
      · simp only [h, if_false]; exact Ev.const
    | a :: b :: r =>
      simp only [if_neg (show ¬ (((a :: b :: r : List Int).length : Nat) : Int) = 1 by simp; omega)]
      exact Ev.const
  | succ m ih =>
    intro j st hm hj hst
    have hlt : j < l.length := by omega
    have hmem := rd_mem l j hlt
    rw [rd_drop l j hlt]
    refine Ev.step (fun k => by rw [tontineref17_Right.l0]) ?_
    generalize hx : rd_T43 l (j : Int) = x at hmem ⊢
    simp only [if_pos (show (j : Int) < (l.length : Int) by omega), if_pos (show (0 : Int) ≤ (j : Int) by omega), hx]
    refine Ev.bind (rnode_ev x.f0 x.f1 x.f2 (hs x hmem)) ?_
    unfold wgo
    have no : Ev (fun k => tontineref17_Right.j1 k l st (j : Int) true) (false, 0) := by
      refine Ev.step (fun k => by rw [tontineref17_Right.j1]) ?_
      exact Ev.const
    cases hn : nodeOK x.f0 x.f1 x.f2 with
    | false =>
      rw [if_neg (by simp)]
      exact no
    | true =>
      have h0 := nodeOK_n _ _ _ hn
      by_cases h1 : x.f1 ≤ st.length
      · rw [if_pos ⟨rfl, h1⟩, decide_eq_false (show ¬ x.f1 > (st.length : Int) by omega)]
        simp only [if_true]
        refine Ev.step (fun k => by rw [tontineref17_Right.j1]) ?_
        have hw : wrap64 ((st.length : Int) - x.f1) = ((st.length - x.f1.toNat : Nat) : Int) := by rw [w64 _ (by omega) (by omega)]; omega
        simp only [Bool.false_eq_true, if_false, if_pos (show (0 : Int) ≤ (j : Int) by omega), if_pos (show (j : Int) < (l.length : Int) by omega), hx, hw]
        refine right_l1 l st j x.f1 _ (by omega) _ _ 0 rfl (by omega) ?_
        rw [succ64 j _ hlt (by omega)]
        exact ih (j + 1) _ (by omega) (by omega) (by rw [List.length_append, List.length_take, List.length_singleton]; omega)
      · rw [if_neg (fun q => h1 q.2), decide_eq_true (show x.f1 > (st.length : Int) by omega)]
        exact no
include hl in
theorem right_ev (hs : small l) : Ev (fun k => tontineref17_Right.f k l) (rres l.length (wgo l [])) := by
  unfold tontineref17_Right.f
  exact right_l l hl hs l.length 0 [] (by omega) (by omega) (by simp)
end
/-- What CheckFormula says. -/
def checkF (l : List Nd) : Int := if l.length > 1024 then 3 else if (wres (wgo l [])).2 = true then (if mx 0 (wres (wgo l [])).1 > 64 then 173 else 0) else 5
theorem check_ev (l : List Nd) (hs : small l) : Ev (fun k => clause_CheckFormula.f k l) (checkF l) := by
  unfold clause_CheckFormula.f clause_worst.f checkF
  by_cases h : l.length > 1024
  · rw [if_pos h, decide_eq_true (show (l.length : Int) > 1024 by omega)]
    exact Ev.const
  · rw [if_neg h, decide_eq_false (show ¬ (l.length : Int) > 1024 by omega)]
    simp only [Bool.false_eq_true, if_false]
    have hw := whole_ev l (by omega) hs
    refine Ev.bind (v := _) (h := fun _ t => some t) ?_ Ev.const
    refine Ev.step (fun k => by rw [clause_worst.l0]) ?_
    simp only [show ((([l] : List (List Nd)).length : Nat) : Int) = 1 from rfl, if_pos (show (0 : Int) < 1 by omega), if_pos (show (0 : Int) ≤ 0 by omega), show rd_L26 [l] 0 = l from rfl]
    refine Ev.bind hw ?_
    cases hb : (wres (wgo l [])).2 with
    | false => exact Ev.const
    | true =>
      simp only [if_true]
      refine Ev.step (fun k => by rw [clause_worst.l0]) ?_
      simp only [show wrap64 (0 + 1) = 1 by rw [w64 _ (by omega) (by omega)]; rfl, if_neg (show ¬ (1 : Int) < 1 by omega)]
      by_cases h2 : mx 0 (wres (wgo l [])).1 > 64
      · simp only [if_pos h2]; exact Ev.const
      · simp only [if_neg h2]; exact Ev.const
theorem rcheck_ev (l : List Nd) (hs : small l) : Ev (fun k => tontineref17_CheckFormula.f k l) (checkF l) := by
  unfold tontineref17_CheckFormula.f checkF
  by_cases h : l.length > 1024
  · simp only [if_pos h, if_pos (show (l.length : Int) > 1024 by omega)]
    exact Ev.const
  · rw [if_neg h]
    simp only [if_neg (show ¬ (l.length : Int) > 1024 by omega)]
    refine Ev.bind (right_ev l (by omega) hs) ?_
    unfold rres wres
    match wgo l [] with
    | none => exact Ev.const
    | some [] => exact Ev.const
    | some [d] =>
      simp only [if_neg (show ¬ (l.length : Int) > 1024 by omega), if_true]
      by_cases h2 : d > 64
      · simp only [if_pos h2]
        rw [if_pos (show mx 0 d > 64 by unfold mx; split <;> omega)]; exact Ev.const
      · simp only [if_neg h2]
        rw [if_neg (show ¬ mx 0 d > 64 by unfold mx; split <;> omega)]; exact Ev.const
    | some (a :: b :: r) => exact Ev.const
end Go.Proofs.Ytaogejkmkalnlaa.PL
/- Plain law, part 15: where the formula that ends at a node begins: fronts, and Parts of a right formula. -/
namespace Go.Proofs.Ytaogejkmkalnlaa.PL
set_option linter.unusedSimpArgs false
set_option linter.unusedVariables false
open Go.RowKit Go.Proofs.YtaogejkmkalnlaaW.PrintWords Go.Proofs.YtaogejkmkalnlaaW.PrintMore Go.Proofs.Ytaogejkmkalnlaa.HS Go.Proofs.Ytaogejkmkalnlaa.PAll
theorem wgo_some {x : Nd} {r : List Nd} {sd d : List Int} (h : wgo (x :: r) sd = some d) : nodeOK x.f0 x.f1 x.f2 = true ∧ 0 ≤ x.f1 ∧ x.f1 ≤ sd.length ∧ wgo r (sd.take (sd.length - x.f1.toNat) ++ [wrap64 (mxs 0 (sd.drop (sd.length - x.f1.toNat)) + 1)]) = some d := by
  unfold wgo at h
  split at h
  · rename_i hc
    exact ⟨hc.1, nodeOK_n _ _ _ hc.1, hc.2, h⟩
  · cases h
theorem wgo_app : ∀ (a b : List Nd) (sd : List Int), wgo (a ++ b) sd = (wgo a sd).bind (wgo b)
  | [], b, sd => rfl
  | x :: r, b, sd => by
    rw [List.cons_append]
    unfold wgo
    split
    · exact wgo_app r b _
    · rfl
theorem wgo_base (base : List Int) : ∀ (l : List Nd) (sd d : List Int), wgo l sd = some d → wgo l (base ++ sd) = some (base ++ d)
  | [], sd, d, h => by rw [Option.some.inj h]; rfl
  | x :: r, sd, d, h => by
    obtain ⟨hn, h0, h1, h⟩ := wgo_some h
    have e1 : (base ++ sd).drop ((base ++ sd).length - x.f1.toNat) = sd.drop (sd.length - x.f1.toNat) := by
      rw [List.length_append, List.drop_append, List.drop_eq_nil_of_le (by omega), List.nil_append]
      congr 1; omega
    have e2 : (base ++ sd).take ((base ++ sd).length - x.f1.toNat) = base ++ sd.take (sd.length - x.f1.toNat) := by
      rw [List.length_append, List.take_append, List.take_of_length_le (by omega)]
      congr 2; omega
    unfold wgo
    rw [if_pos ⟨hn, by rw [List.length_append]; omega⟩, e1, e2, List.append_assoc]
    exact wgo_base base r _ d h
/-- The nodes from p on, ahead of j. -/
def seg (l : List Nd) (p j : Nat) : List Nd := (l.take j).drop p
theorem seg_app (l : List Nd) (p e j : Nat) (h1 : p ≤ e) (h2 : e ≤ j) : seg l p j = seg l p e ++ seg l e j := by
  unfold seg
  have : l.take e = (l.take j).take e := by rw [List.take_take, Nat.min_eq_left h2]
  rw [this]
  generalize l.take j = w
  rw [List.drop_take, show w.drop e = (w.drop p).drop (e - p) by rw [List.drop_drop]; congr 1; omega]
  exact (List.take_append_drop _ _).symm
theorem seg_one (l : List Nd) (j : Nat) (h : j < l.length) : seg l j (j + 1) = [rd_T43 l (j : Int)] := by
  unfold seg
  rw [List.drop_take, rd_drop l j h, show j + 1 - j = 1 by omega]; rfl
/-- Stacked formulas, the last one first: where each begins, how deep it is; F: the fronts so far. -/
def Chain (l : List Nd) (F : List Int) : Nat → List (Nat × Int) → Prop
  | j, [] => j = 0
  | j, e :: r => e.1 < j ∧ F[j - 1]? = some (e.1 : Int) ∧ wgo (seg l e.1 j) [] = some [e.2] ∧ Chain l F e.1 r
/-- n formulas stand behind one another, the last one ends at a, the first one begins at p. -/
def Walk (F : List Int) : Nat → Nat → Nat → Prop
  | 0, _, _ => False
  | n + 1, a, p => ∃ q : Nat, F[a]? = some (q : Int) ∧ q ≤ a ∧ ((n = 0 ∧ q = p) ∨ (n ≠ 0 ∧ 1 ≤ q ∧ Walk F n (q - 1) p))
theorem get_app {F G : List Int} {i : Nat} {v : Int} (h : F[i]? = some v) : (F ++ G)[i]? = some v := by
  have := (List.getElem?_eq_some_iff.mp h).1
  rw [List.getElem?_append_left this, h]
theorem Chain.app {l : List Nd} {F G : List Int} : ∀ {es : List (Nat × Int)} {j : Nat}, Chain l F j es → Chain l (F ++ G) j es
  | [], _, h => h
  | _ :: _, _, ⟨a, b, c, d⟩ => ⟨a, get_app b, c, Chain.app d⟩
theorem Walk.app {F G : List Int} : ∀ {n a p : Nat}, Walk F n a p → Walk (F ++ G) n a p
  | 0, _, _, h => h
  | n + 1, a, p, ⟨q, h1, h2, h3⟩ => ⟨q, get_app h1, h2, h3.imp id fun ⟨x, y, z⟩ => ⟨x, y, Walk.app z⟩⟩
theorem chain_pop {l : List Nd} {F : List Int} : ∀ (n : Nat) (es : List (Nat × Int)) (j : Nat), Chain l F j es → n ≤ es.length →
    ∃ p, p ≤ j ∧ Chain l F p (es.drop n) ∧ wgo (seg l p j) [] = some ((es.take n).map (·.2)).reverse ∧ (n = 0 → p = j) ∧ (n ≠ 0 → p < j ∧ Walk F n (j - 1) p ∧ ((es.map fun e => (e.1 : Int)).reverse)[es.length - n]? = some (p : Int))
  | 0, es, j, h, _ => ⟨j, Nat.le_refl _, h, by
      have : seg l j j = [] := by unfold seg; rw [List.drop_eq_nil_of_le (by rw [List.length_take]; omega)]
      rw [this]; rfl, fun _ => rfl, fun q => absurd rfl q⟩
  | n + 1, [], j, h, hn => by simp at hn
  | n + 1, e :: r, j, ⟨h1, h2, h3, h4⟩, hn => by
    rw [List.length_cons] at hn
    obtain ⟨p, p1, p2, p3, p4, p5⟩ := chain_pop n r e.1 h4 (by omega)
    refine ⟨p, by omega, p2, ?_, fun q => by omega, fun _ => ⟨by omega, ⟨e.1, h2, by omega, ?_⟩, ?_⟩⟩
    · rw [seg_app l p e.1 j p1 (by omega), wgo_app, p3, Option.bind_some]
      have := wgo_base ((r.take n).map (·.2)).reverse _ [] [e.2] h3
      rw [List.append_nil] at this
      rw [this, List.take_succ_cons, List.map_cons, List.reverse_cons]
    · by_cases hz : n = 0
      · exact .inl ⟨hz, (p4 hz).symm⟩
      · obtain ⟨q1, q2, -⟩ := p5 hz
        exact .inr ⟨hz, by omega, q2⟩
    · rw [List.map_cons, List.reverse_cons, List.length_cons, show r.length + 1 - (n + 1) = r.length - n by omega]
      by_cases hz : n = 0
      · subst hz
        rw [p4 rfl, List.getElem?_append_right (by simp)]
        simp
      · exact get_app (p5 hz).2.2
theorem Walk.head {F : List Int} : ∀ {n a p : Nat}, Walk F n a p → ∃ e : Nat, e ≤ a ∧ F[e]? = some (p : Int)
  | 0, _, _, h => h.elim
  | n + 1, a, p, ⟨q, h1, h2, h3⟩ => by
    rcases h3 with ⟨-, rfl⟩ | ⟨-, h4, h5⟩
    · exact ⟨a, Nat.le_refl _, h1⟩
    · obtain ⟨e, h6, h7⟩ := h5.head
      exact ⟨e, by omega, h7⟩
/-- Where the parts of a node end, whose last one ends at a. -/
def ends (F : List Int) : Nat → Int → List Int
  | 0, _ => []
  | n + 1, a => ends F n (rd F a - 1) ++ [a]
theorem ends_len (F : List Int) : ∀ (n : Nat) (a : Int), (ends F n a).length = n
  | 0, _ => rfl
  | n + 1, a => by unfold ends; rw [List.length_append, ends_len F n, List.length_singleton]
theorem rd_get {F : List Int} {a : Nat} {q : Int} (h : F[a]? = some q) : rd F (a : Int) = q := by
  unfold rd
  rw [List.getD_eq_getElem?_getD, Int.toNat_natCast, h]; rfl
/-- What is known of a front. -/
def Front (l : List Nd) (F : List Int) (q : Nat) : Prop := ∃ p d, F[q]? = some ((p : Nat) : Int) ∧ p ≤ q ∧ wgo (seg l p (q + 1)) [] = some [d] ∧
  (((rd_T43 l (q : Int)).f1 = 0 ∧ p = q) ∨ (0 < (rd_T43 l (q : Int)).f1 ∧ 1 ≤ q ∧ Walk F (rd_T43 l (q : Int)).f1.toNat (q - 1) p))
theorem Front.app {l : List Nd} {F G : List Int} {q : Nat} (h : Front l F q) : Front l (F ++ G) q := by
  obtain ⟨p, d, h1, h2, h3, h4⟩ := h
  exact ⟨p, d, get_app h1, h2, h3, h4.imp id fun ⟨x, y, z⟩ => ⟨x, y, z.app⟩⟩
theorem rev_take (es : List (Nat × Int)) (n : Nat) (f : Nat × Int → Int) (h : n ≤ es.length) : (es.map f).reverse.take (es.length - n) = ((es.drop n).map f).reverse := by
  have : es.map f = (es.take n).map f ++ (es.drop n).map f := by rw [← List.map_append, List.take_append_drop]
  rw [this, List.reverse_append, List.take_append_of_le_length (by rw [List.length_reverse, List.length_map, List.length_drop]; omega), List.take_of_length_le (by rw [List.length_reverse, List.length_map, List.length_drop]; omega)]
theorem rev_drop (es : List (Nat × Int)) (n : Nat) (f : Nat × Int → Int) (h : n ≤ es.length) : (es.map f).reverse.drop (es.length - n) = ((es.take n).map f).reverse := by
  have : es.map f = (es.take n).map f ++ (es.drop n).map f := by rw [← List.map_append, List.take_append_drop]
  rw [this, List.reverse_append, List.drop_append, List.drop_eq_nil_of_le (by rw [List.length_reverse, List.length_map, List.length_drop]; omega), List.nil_append, List.length_reverse, List.length_map, List.length_drop, show es.length - n - (es.length - n) = 0 by omega, List.drop_zero]
section
variable (l : List Nd) (hl : l.length ≤ 1024)
include hl
theorem fronts_l : ∀ (m j : Nat) (es : List (Nat × Int)) (F d : List Int), l.length - j = m → j ≤ l.length → Chain l F j es → F.length = j → es.length ≤ j → (∀ q, q < j → Front l F q) → wgo (l.drop j) (es.map (·.2)).reverse = some d →
    ∃ F' : List Int, Ev (fun k => clause_fronts.l0 k (es.map fun e => (e.1 : Int)).reverse F l (l.length : Int) (j : Int)) F' ∧ F'.length = l.length ∧ (∀ q, q < l.length → Front l F' q) := by
  intro m
  induction m with
  | zero =>
    intro j es F d hm hj hc hF he hq hw
    obtain rfl : j = l.length := by omega
    refine ⟨F, Ev.step (fun k => by rw [clause_fronts.l0]) ?_, hF, hq⟩
    simp only [if_neg (show ¬ (l.length : Int) < (l.length : Int) by omega)]
    exact Ev.const
  | succ m ih =>
    intro j es F d hm hj hc hF he hq hw
    have hlt : j < l.length := by omega
    have h1s := seg_one l j hlt
    rw [rd_drop l j hlt] at hw
    generalize hx : rd_T43 l (j : Int) = x at hw h1s
    obtain ⟨hn, h0, h1, hw⟩ := wgo_some hw
    rw [List.length_reverse, List.length_map] at h1 hw
    obtain ⟨p, p1, p2, p3, p4, p5⟩ := chain_pop x.f1.toNat es j hc (by omega)
    rw [rev_take es _ _ (by omega), rev_drop es _ _ (by omega)] at hw
    generalize hy : wrap64 (mxs 0 ((es.take x.f1.toNat).map (·.2)).reverse + 1) = y at hw
    have hseg : wgo (seg l p (j + 1)) [] = some [y] := by
      rw [seg_app l p j (j + 1) p1 (by omega), wgo_app, p3, Option.bind_some, h1s]
      unfold wgo
      have hlen : (((es.take x.f1.toNat).map (·.2)).reverse).length = x.f1.toNat := by rw [List.length_reverse, List.length_map, List.length_take]; omega
      rw [if_pos ⟨hn, by rw [hlen]; omega⟩, hlen, Nat.sub_self, List.take_zero, List.drop_zero, hy]; rfl
    have hF' : (F ++ [(p : Int)])[j]? = some (p : Int) := by rw [← hF]; simp
    have hch : Chain l (F ++ [(p : Int)]) (j + 1) ((p, y) :: es.drop x.f1.toNat) := ⟨by show p < j + 1; omega, hF', hseg, p2.app⟩
    have hfr : ∀ q, q < j + 1 → Front l (F ++ [(p : Int)]) q := by
      intro q hq'
      by_cases e : q = j
      · subst e
        refine ⟨p, y, hF', p1, hseg, ?_⟩
        rw [hx]
        by_cases hz : x.f1 = 0
        · exact .inl ⟨hz, p4 (by omega)⟩
        · obtain ⟨q1, q2, -⟩ := p5 (by omega)
          exact .inr ⟨by omega, by omega, q2.app⟩
      · exact (hq q (by omega)).app
    obtain ⟨F', r1, r2, r3⟩ := ih (j + 1) ((p, y) :: es.drop x.f1.toNat) (F ++ [(p : Int)]) d (by omega) (by omega) hch (by rw [List.length_append, hF]; rfl) (by rw [List.length_cons, List.length_drop]; omega) hfr (by rw [List.map_cons, List.reverse_cons]; exact hw)
    refine ⟨F', Ev.step (fun k => by rw [clause_fronts.l0]) ?_, r2, r3⟩
    have hlen : ((es.map fun e => (e.1 : Int)).reverse).length = es.length := by rw [List.length_reverse, List.length_map]
    have ew : wrap64 ((((es.map fun e => (e.1 : Int)).reverse.length : Nat) : Int) - x.f1) = ((es.length - x.f1.toNat : Nat) : Int) := by rw [hlen, w64 _ (by omega) (by omega)]; omega
    rw [List.map_cons, List.reverse_cons] at r1
    rw [← rev_take es x.f1.toNat (fun e => (e.1 : Int)) (by omega)] at r1
    simp only [if_pos (show (j : Int) < (l.length : Int) by omega), if_pos (show (0 : Int) ≤ (j : Int) by omega), hx, ew, if_pos (show (0 : Int) ≤ ((es.length - x.f1.toNat : Nat) : Int) by omega), Int.toNat_natCast, Option.bind_some, succ64 j _ hlt (by omega)]
    have hb : (((es.map fun e => (e.1 : Int)).reverse).take (es.length - x.f1.toNat)).length < 17592186044416 := by rw [List.length_take, hlen]; omega
    by_cases hz : x.f1 > 0
    · obtain ⟨q1, q2, q3⟩ := p5 (by omega)
      simp only [if_pos hz, hlen, if_pos (show ((es.length - x.f1.toNat : Nat) : Int) < (es.length : Int) by omega), if_pos (show ((es.length - x.f1.toNat : Nat) : Int) ≤ (es.length : Int) by omega), if_pos hb, if_pos (show F.length < 17592186044416 by omega), rd_get q3]
      exact r1
    · have e : p = j := p4 (by omega)
      subst e
      simp only [if_neg hz, hlen, if_pos (show ((es.length - x.f1.toNat : Nat) : Int) ≤ (es.length : Int) by omega), if_pos hb, if_pos (show F.length < 17592186044416 by omega)]
      exact r1
theorem fronts_ev (d : List Int) (h : wgo l [] = some d) : ∃ F : List Int, Ev (fun k => clause_fronts.f k l) F ∧ F.length = l.length ∧ (∀ q, q < l.length → Front l F q) := by
  unfold clause_fronts.f
  exact fronts_l l hl l.length 0 [] [] d (by omega) (by omega) rfl rfl (by simp) (fun q hq => by omega) h
end
theorem partsOf_l (F : List Int) (hF : F.length ≤ 1024) (hv : ∀ (a : Nat) (q : Int), F[a]? = some q → 0 ≤ q ∧ q ≤ 1024) : ∀ (k a p : Nat) (out : List Int), Walk F (k + 1) a p → k < out.length → out.length ≤ 1024 → Ev (fun f => clause_partsOf.l0 f F out (a : Int) (k : Int)) (ends F (k + 1) (a : Int) ++ out.drop (k + 1))
  | k, a, p, out, ⟨q, h1, h2, h3⟩, hk, ho => by
    have ha : a < F.length := (List.getElem?_eq_some_iff.mp h1).1
    refine Ev.step (fun k => by rw [clause_partsOf.l0]) ?_
    have e1 : wrap64 ((q : Int) - 1) = (q : Int) - 1 := w64 _ (by omega) (by omega)
    have e2 : wrap64 ((k : Int) - 1) = (k : Int) - 1 := w64 _ (by omega) (by omega)
    simp only [if_pos (show (k : Int) ≥ 0 by omega), if_pos (show (0 : Int) ≤ (k : Int) by omega), if_pos (show (k : Int) < (out.length : Int) by omega), if_pos (show (0 : Int) ≤ (a : Int) by omega), if_pos (show (a : Int) < (F.length : Int) by omega), rd_get h1, e1, e2, Int.toNat_natCast]
    have hd : ∀ n, (out.set k (a : Int)).drop (k + 1 + n) = out.drop (k + 1 + n) := fun n => by rw [List.drop_set_of_lt (by omega)]
    have hset : (out.set k (a : Int)).drop k = (a : Int) :: out.drop (k + 1) := by
      rw [List.drop_eq_getElem_cons (by rw [List.length_set]; exact hk), List.getElem_set_self]
      congr 1
      exact hd 0
    match k, h3 with
    | 0, _ =>
      refine Ev.step (fun k => by rw [clause_partsOf.l0]) ?_
      simp only [if_neg (show ¬ (((0 : Nat) : Int) - 1 ≥ 0) by omega)]
      rw [List.drop_zero] at hset
      rw [hset]
      exact Ev.const
    | k + 1, .inl ⟨z, _⟩ => omega
    | k + 1, .inr ⟨_, h4, h5⟩ =>
      have ih := partsOf_l F hF hv k (q - 1) p (out.set (k + 1) (a : Int)) h5 (by rw [List.length_set]; omega) (by rw [List.length_set]; omega)
      rw [hset] at ih
      have e3 : ((k + 1 : Nat) : Int) - 1 = (k : Int) := by omega
      have e4 : (q : Int) - 1 = ((q - 1 : Nat) : Int) := by omega
      rw [e3, e4]
      rw [show ends F (k + 1 + 1) (a : Int) = ends F (k + 1) (rd F (a : Int) - 1) ++ [(a : Int)] from rfl, rd_get h1, e4, List.append_assoc]
      exact ih
/-- What Parts answers of a right formula: the ends of a node's parts. -/
theorem parts_is (l : List Nd) (F : List Int) (hl : l.length ≤ 1024) (hF : F.length = l.length) (hfr : ∀ q, q < l.length → Front l F q) (i : Nat) (hi : i < l.length) :
    Ev (fun k => clause_partsOf.f k l F (i : Int)) (ends F (rd_T43 l (i : Int)).f1.toNat ((i : Int) - 1)) ∧ 0 ≤ (rd_T43 l (i : Int)).f1 := by
  have hv : ∀ (a : Nat) (q : Int), F[a]? = some q → 0 ≤ q ∧ q ≤ 1024 := fun a q h => by
    have ha : a < F.length := (List.getElem?_eq_some_iff.mp h).1
    obtain ⟨p, d, h1, h2, -⟩ := hfr a (by omega)
    rw [h] at h1
    obtain rfl := Option.some.inj h1
    omega
  obtain ⟨p, d, h1, h2, h3, h4⟩ := hfr i hi
  generalize hx : rd_T43 l (i : Int) = x at h4
  have h0 : 0 ≤ x.f1 := by rcases h4 with h | h <;> omega
  refine ⟨?_, h0⟩
  unfold clause_partsOf.f
  have hn : x.f1.toNat ≤ 1024 := by
    rcases h4 with ⟨h, -⟩ | ⟨h, h5, h6⟩
    · omega
    · have : ∀ (n a p : Nat), Walk F n a p → n ≤ a + 1 := by
        intro n
        induction n with
        | zero => intro a p _; omega
        | succ n ih =>
          rintro a p ⟨q, -, g2, ⟨rfl, -⟩ | ⟨-, g4, g5⟩⟩
          · omega
          · have := ih _ _ g5; omega
      have := this _ _ _ h6
      omega
  have e1 : wrap64 ((i : Int) - 1) = (i : Int) - 1 := w64 _ (by omega) (by omega)
  have e2 : wrap64 (x.f1 - 1) = x.f1 - 1 := w64 _ (by omega) (by omega)
  simp only [if_pos (show (0 : Int) ≤ (i : Int) by omega), if_pos (show (i : Int) < (l.length : Int) by omega), hx, if_pos h0, if_pos (show x.f1.toNat ≤ 35184372088832 by omega), e1, e2]
  rcases h4 with ⟨h, -⟩ | ⟨h, h5, h6⟩
  · rw [h]
    refine Ev.step (fun k => by rw [clause_partsOf.l0]) ?_
    simp only [if_neg (show ¬ ((0 : Int) - 1 ≥ 0) by omega)]
    exact Ev.const
  · obtain ⟨k, hk⟩ : ∃ k, x.f1.toNat = k + 1 := ⟨x.f1.toNat - 1, by omega⟩
    have := partsOf_l F (by omega) hv k (i - 1) p (List.replicate (k + 1) 0) (hk ▸ h6) (by rw [List.length_replicate]; omega) (by rw [List.length_replicate]; omega)
    rw [List.drop_eq_nil_of_le (by rw [List.length_replicate]; omega), List.append_nil] at this
    rw [hk, show x.f1 - 1 = (k : Int) by omega, show (i : Int) - 1 = ((i - 1 : Nat) : Int) by omega]
    exact this
theorem parts_ev' (l : List Nd) (F : List Int) (d : Int) (hs : small l) (hl : l.length ≤ 1024) (hw : wgo l [] = some [d]) (hFe : Ev (fun k => clause_fronts.f k l) F) (hF : F.length = l.length) (hfr : ∀ q, q < l.length → Front l F q) (i : Nat) (hi : i < l.length) :
    Ev (fun k => clause_Parts.f k l (i : Int)) (ends F (rd_T43 l (i : Int)).f1.toNat ((i : Int) - 1)) := by
  unfold clause_Parts.f
  refine Ev.bind (whole_ev l (by omega) hs) ?_
  rw [hw]
  simp only [show (wres (some [d])).2 = true from rfl, if_true, if_neg (show ¬ (l.length : Int) > 1024 by omega), if_neg (show ¬ (i : Int) < 0 by omega), decide_eq_false (show ¬ (i : Int) ≥ (l.length : Int) by omega)]
  refine Ev.step (fun k => by rw [clause_Parts.j0]) ?_
  simp only [Bool.false_eq_true, if_false]
  refine Ev.bind hFe ?_
  exact Ev.bind (parts_is l F hl hF hfr i hi).1 Ev.const
end Go.Proofs.Ytaogejkmkalnlaa.PL
/- Plain law of ClauseChecks, part 1: copies, equals, a line's form. -/
namespace Go.Proofs.Ytaogejkmkalnlaa.PL
set_option linter.unusedSimpArgs false
set_option linter.unusedVariables false
open Go.RowKit Go.Proofs.YtaogejkmkalnlaaW.PrintWords Go.Proofs.YtaogejkmkalnlaaW.PrintMore Go.Proofs.Ytaogejkmkalnlaa.HS Go.Proofs.Ytaogejkmkalnlaa.PAll
abbrev Ln := S41
theorem lend_eq (l : List Nd) (h : l.length < 4398046511104) : tontinebook_LendFormula.f l = some l := by
  unfold tontinebook_LendFormula.f
  by_cases h0 : l.length = 0
  · rw [if_pos (by omega), List.eq_nil_of_length_eq_zero h0]
  · simp only [if_neg (show ¬ (l.length : Int) = 0 by omega), Option.bind_some, List.nil_append, List.length_nil, Nat.zero_add, if_pos h, if_pos (show (0 : Int) ≤ (l.length : Int) by omega), List.length_append, List.length_cons, if_pos (show (l.length : Int) ≤ ((l.length + (0 + 1) : Nat) : Int) by omega), Int.toNat_natCast, List.take_left]
/-- What a product's lines must be for the machine: short texts, formulas that fit. -/
def smallL (ls : List Ln) : Prop := ls.length < 1353245080339 ∧ ∀ x ∈ ls, x.f2.size ≤ 9223372036854775806 ∧ (small x.f3 ∧ x.f3.length < 4398046511104) ∧ (small x.f4 ∧ x.f4.length < 4398046511104) ∧ (small x.f5 ∧ x.f5.length < 4398046511104)
theorem rd_ln (ls : List Ln) (j : Nat) (h : j < ls.length) : rd_T41 ls (j : Int) = ls[j] := by simp [rd_T41, h]
theorem rd_fm (ls : List (List Nd)) (j : Nat) (h : j < ls.length) : rd_L3 ls (j : Int) = ls[j] := by simp [rd_L3, h]
theorem smallL.at {ls : List Ln} (h : smallL ls) (j : Nat) (hj : j < ls.length) : let x := rd_T41 ls (j : Int); x.f2.size ≤ 9223372036854775806 ∧ (small x.f3 ∧ x.f3.length < 4398046511104) ∧ (small x.f4 ∧ x.f4.length < 4398046511104) ∧ (small x.f5 ∧ x.f5.length < 4398046511104) := by
  intro x
  exact h.2 x (by show rd_T41 ls (j : Int) ∈ ls; rw [rd_ln ls j hj]; exact List.getElem_mem hj)
theorem copy_l (nm : ByteArray) (ls : List Ln) (h : smallL ls) : ∀ (m j : Nat), ls.length - j = m → j ≤ ls.length → Ev (fun k => tontinebook_CopyProduct.l0 k (j : Int) nm ls nm (ls.take j)) (nm, ls) := by
  intro m
  induction m with
  | zero =>
    intro j hm hj
    refine Ev.step (fun k => by rw [tontinebook_CopyProduct.l0]) ?_
    simp only [if_neg (show ¬ (j : Int) < (ls.length : Int) by omega), List.take_of_length_le (show ls.length ≤ j by omega)]
    exact Ev.const
  | succ m ih =>
    intro j hm hj
    have hlt : j < ls.length := by omega
    have h1 := h.1
    obtain ⟨h2, ⟨-, h3⟩, ⟨-, h4⟩, -, h5⟩ := h.at j hlt
    refine Ev.step (fun k => by rw [tontinebook_CopyProduct.l0]) ?_
    simp only [if_pos (show (j : Int) < (ls.length : Int) by omega), if_pos (show (0 : Int) ≤ (j : Int) by omega), lend_eq _ h3, lend_eq _ h4, lend_eq _ h5, Option.bind_some, List.length_take, if_pos (show min j ls.length < 1353245080339 by omega), w64 ((j : Int) + 1) (by omega) (by omega)]
    have := ih (j + 1) (by omega) (by omega)
    rw [List.take_succ_eq_append_getElem hlt, ← rd_ln ls j hlt] at this
    exact this
theorem copy_ev (nm : ByteArray) (ls : List Ln) (h : smallL ls) : Ev (fun k => tontinebook_CopyProduct.f k nm ls) (nm, ls) := copy_l nm ls h ls.length 0 (by omega) (by omega)
theorem sameF_l (l : List Nd) (hl : l.length ≤ 9223372036854775807) : ∀ (m j : Nat), l.length - j = m → j ≤ l.length → Ev (fun k => tontinebook_SameFormula.l0 k l l (j : Int)) true := by
  intro m
  induction m with
  | zero =>
    intro j hm hj
    refine Ev.step (fun k => by rw [tontinebook_SameFormula.l0]) ?_
    simp only [if_neg (show ¬ (j : Int) < (l.length : Int) by omega)]
    exact Ev.const
  | succ m ih =>
    intro j hm hj
    refine Ev.step (fun k => by rw [tontinebook_SameFormula.l0]) ?_
    simp only [if_pos (show (j : Int) < (l.length : Int) by omega), if_pos (show (0 : Int) ≤ (j : Int) by omega), beq_self_eq_true, Bool.not_true, Bool.or_false, Bool.false_eq_true, if_false, w64 ((j : Int) + 1) (by omega) (by omega)]
    exact ih (j + 1) (by omega) (by omega)
theorem sameF_ev (l : List Nd) (hl : l.length ≤ 9223372036854775807) : Ev (fun k => tontinebook_SameFormula.f k l l) true := by
  unfold tontinebook_SameFormula.f
  simp only [if_true]
  exact sameF_l l hl l.length 0 (by omega) (by omega)
theorem sameP_l (nm : ByteArray) (ls : List Ln) (h : smallL ls) : ∀ (m j : Nat), ls.length - j = m → j ≤ ls.length → Ev (fun k => tontinebook_SameProduct.l0 k (j : Int) nm ls nm ls) true := by
  intro m
  induction m with
  | zero =>
    intro j hm hj
    refine Ev.step (fun k => by rw [tontinebook_SameProduct.l0]) ?_
    simp only [if_neg (show ¬ (j : Int) < (ls.length : Int) by omega)]
    exact Ev.const
  | succ m ih =>
    intro j hm hj
    have h1 := h.1
    obtain ⟨h2, ⟨-, h3⟩, ⟨-, h4⟩, -, h5⟩ := h.at j (by omega)
    refine Ev.step (fun k => by rw [tontinebook_SameProduct.l0]) ?_
    simp only [if_pos (show (j : Int) < (ls.length : Int) by omega), if_pos (show (0 : Int) ≤ (j : Int) by omega), if_true]
    refine Ev.bind (sameF_ev _ (by omega)) ?_
    simp only [if_true]
    refine Ev.bind (sameF_ev _ (by omega)) ?_
    simp only [if_true]
    refine Ev.bind (sameF_ev _ (by omega)) ?_
    simp only [if_true, w64 ((j : Int) + 1) (by omega) (by omega)]
    exact ih (j + 1) (by omega) (by omega)
theorem sameP_ev (nm : ByteArray) (ls : List Ln) (h : smallL ls) : Ev (fun k => tontinebook_SameProduct.f k nm ls nm ls) true := by
  unfold tontinebook_SameProduct.f
  simp only [if_true, bne_self_eq_false]
  refine Ev.step (fun k => by rw [tontinebook_SameProduct.j0]) ?_
  simp only [Bool.false_eq_true, if_false]
  exact sameP_l nm ls h ls.length 0 (by omega) (by omega)
/-- Has a line what its kind must have, and nothing else? -/
def lineC (op ty : Int) (s : ByteArray) (bnd isB own non : Bool) : Bool :=
  if op = 1 then wordOK s && decide (1 ≤ ty) && decide (ty ≤ 3) && (bnd || non) && !isB
  else if op = 2 then wordOK s && decide (ty = 0) && non && isB
  else if op = 3 then own && non && isB
  else if 4 ≤ op ∧ op ≤ 7 then own && (bnd || non) && isB
  else false
def lineB (op ty : Int) (s : ByteArray) (a b c : Nat) : Bool := lineC op ty s (decide (0 < a ∧ 0 < b)) (decide (0 < c)) (decide (s.toList = ([] : List UInt8) ∧ ty = 0)) (decide (a = 0 ∧ b = 0))
theorem form_j1 (op ty : Int) (s : ByteArray) (a b c : List Nd) (hs : s.size ≤ 9223372036854775806) (x3 x4 x5 x6 : Bool) (k : Nat) :
    clause_form.j1 (k + 1) x3 x4 x5 x6 op ty s a b c = some (lineC op ty s x3 x4 x5 x6) := by
  rw [clause_form.j1, word_eq s hs]
  unfold lineC
  by_cases h1 : op = 1
  · subst h1
    simp only [if_true, Option.bind_some]
    by_cases ha : 1 ≤ ty <;> by_cases hb : ty ≤ 3 <;> cases wordOK s <;> cases x3 <;> cases x4 <;> cases x6 <;> simp [ha, hb]
  · rw [if_neg h1, if_neg h1]
    by_cases h2 : op = 2
    · subst h2
      simp only [if_true, Option.bind_some]
      by_cases ha : ty = 0 <;> cases wordOK s <;> cases x4 <;> cases x6 <;> simp [ha]
    · rw [if_neg h2, if_neg h2]
      by_cases h3 : op = 3
      · subst h3
        simp only [if_true]
        cases x4 <;> cases x5 <;> cases x6 <;> rfl
      · rw [if_neg h3, if_neg h3]
        by_cases h4 : 4 ≤ op ∧ op ≤ 7
        · rw [if_pos h4]
          have h5 : op = 4 ∨ op = 5 ∨ op = 6 ∨ op = 7 := by omega
          rcases h5 with rfl | rfl | rfl | rfl <;> cases x3 <;> cases x4 <;> cases x5 <;> cases x6 <;> rfl
        · rw [if_neg h4, if_neg (by omega), if_neg (by omega), if_neg (by omega), if_neg (by omega)]
theorem form_ev (op ty : Int) (s : ByteArray) (a b c : List Nd) (hs : s.size ≤ 9223372036854775806) : Ev (fun k => clause_form.f k op ty s a b c) (lineB op ty s a.length b.length c.length) := by
  refine ⟨2, fun k hk => ?_⟩
  obtain ⟨k, rfl⟩ : ∃ j, k = j + 2 := ⟨k - 2, by omega⟩
  have hj : ∀ x3 x4 x5 x6, clause_form.j1 (k + 1) x3 x4 x5 x6 op ty s a b c = some (lineC op ty s x3 x4 x5 x6) := fun x3 x4 x5 x6 => form_j1 op ty s a b c hs x3 x4 x5 x6 k
  have cg : ∀ {x3 x4 x5 x6 y3 y4 y5 y6 : Bool}, x3 = y3 → x4 = y4 → x5 = y5 → x6 = y6 → some (lineC op ty s x3 x4 x5 x6) = some (lineC op ty s y3 y4 y5 y6) := by rintro _ _ _ _ _ _ _ _ rfl rfl rfl rfl; rfl
  have hc : decide ((c.length : Int) > 0) = decide (0 < c.length) := decide_eq_decide.mpr (by omega)
  have hO : s.toList = ([] : List UInt8) → (ty == 0) = decide (s.toList = ([] : List UInt8) ∧ ty = 0) := fun ht => by rw [show (ty == 0) = decide (ty = 0) from rfl]; exact decide_eq_decide.mpr ⟨fun h => ⟨ht, h⟩, fun h => h.2⟩
  have hN : ¬ s.toList = ([] : List UInt8) → false = decide (s.toList = ([] : List UInt8) ∧ ty = 0) := fun ht => (decide_eq_false (fun h => ht h.1)).symm
  have hj0 : ∀ x3 x4 x5, clause_form.j0 (k + 2) x3 x4 x5 op ty s a b c = some (lineC op ty s x3 x4 x5 (decide (a.length = 0 ∧ b.length = 0))) := fun x3 x4 x5 => by
    rw [clause_form.j0]
    by_cases ha : a.length = 0
    · rw [if_pos (by omega), hj]
      exact cg rfl rfl rfl (by rw [show ((b.length : Int) == 0) = decide ((b.length : Int) = 0) from rfl]; exact decide_eq_decide.mpr (by omega))
    · rw [if_neg (by omega), hj]
      exact cg rfl rfl rfl (decide_eq_false (by omega)).symm
  unfold lineB
  show clause_form.f (k + 2) op ty s a b c = _
  unfold clause_form.f
  by_cases ha : 0 < a.length
  · have hb : decide ((b.length : Int) > 0) = decide (0 < a.length ∧ 0 < b.length) := decide_eq_decide.mpr (by omega)
    rw [if_pos (by omega)]
    by_cases ht : s.toList = ([] : List UInt8)
    · rw [if_pos ht, hj0]; exact cg hb hc (hO ht) rfl
    · rw [if_neg ht, hj0]; exact cg hb hc (hN ht) rfl
  · have hb : false = decide (0 < a.length ∧ 0 < b.length) := (decide_eq_false (by omega)).symm
    rw [if_neg (by omega)]
    by_cases ht : s.toList = ([] : List UInt8)
    · rw [if_pos ht, hj0]; exact cg hb hc (hO ht) rfl
    · rw [if_neg ht, hj0]; exact cg hb hc (hN ht) rfl
theorem line_j1 (op ty : Int) (s : ByteArray) (a b c : List Nd) (hs : s.size ≤ 9223372036854775806) (x3 x4 : Bool) :
    Ev (fun k => tontineref17_line.j1 k x3 x4 op ty s a b c) (lineC op ty s x3 (decide (0 < c.length)) (decide (s.toList = ([] : List UInt8) ∧ ty = 0)) x4) := by
  refine Ev.step (fun k => by rw [tontineref17_line.j1]) ?_
  have hc : decide ((c.length : Int) > 0) = decide (0 < c.length) := decide_eq_decide.mpr (by omega)
  have hc2 : ((c.length : Int) == 0) = !decide (0 < c.length) := by
    rw [show ((c.length : Int) == 0) = decide ((c.length : Int) = 0) from rfl]
    by_cases h : 0 < c.length
    · rw [decide_eq_true h, decide_eq_false (by omega)]; rfl
    · rw [decide_eq_false h, decide_eq_true (by omega)]; rfl
  rw [hc, hc2]
  unfold lineC
  generalize decide (0 < c.length) = cc
  have ev : ∀ {o : Nat → Option Bool} {v : Bool}, (∀ k, o k = some v) → Ev o v := fun h => ⟨0, fun k _ => h k⟩
  by_cases h1 : op = 1
  · subst h1
    simp only [if_true]
    refine Ev.bind (Word_ev s hs) ?_
    refine ev fun k => ?_
    by_cases ha : 1 ≤ ty <;> by_cases hb : ty ≤ 3 <;> cases wordOK s <;> cases x3 <;> cases x4 <;> cases cc <;> simp [ha, hb]
  · simp only [if_neg h1]
    by_cases h2 : op = 2
    · subst h2
      simp only [if_true]
      refine Ev.bind (Word_ev s hs) ?_
      refine ev fun k => ?_
      by_cases ha : ty = 0 <;> cases wordOK s <;> cases x4 <;> cases cc <;> simp [ha]
    · simp only [if_neg h2]
      by_cases h3 : op = 3
      · subst h3
        simp only [if_true]
        refine ev fun k => ?_
        by_cases ht : s.toList = ([] : List UInt8) <;> by_cases ha : ty = 0 <;> cases x4 <;> cases cc <;> simp [ha, ht]
      · simp only [if_neg h3]
        by_cases h4 : 4 ≤ op ∧ op ≤ 7
        · simp only [if_pos h4, if_pos (show op ≥ 4 by omega), if_pos h4.2]
          refine ev fun k => ?_
          by_cases ht : s.toList = ([] : List UInt8) <;> by_cases ha : ty = 0 <;> cases x3 <;> cases x4 <;> cases cc <;> simp [ha, ht]
        · simp only [if_neg h4]
          refine ev fun k => ?_
          by_cases h5 : op ≥ 4
          · rw [if_pos h5, if_neg (by omega)]
          · rw [if_neg h5]
theorem line_ev (op ty : Int) (s : ByteArray) (a b c : List Nd) (hs : s.size ≤ 9223372036854775806) : Ev (fun k => tontineref17_line.f k op ty s a b c) (lineB op ty s a.length b.length c.length) := by
  have hj0 : ∀ x3, Ev (fun k => tontineref17_line.j0 k x3 op ty s a b c) (lineC op ty s x3 (decide (0 < c.length)) (decide (s.toList = ([] : List UInt8) ∧ ty = 0)) (decide (a.length = 0 ∧ b.length = 0))) := fun x3 => by
    refine Ev.step (fun k => by rw [tontineref17_line.j0]) ?_
    by_cases ha : a.length = 0
    · simp only [if_pos (show (a.length : Int) = 0 by omega)]
      rw [show ((b.length : Int) == 0) = decide (a.length = 0 ∧ b.length = 0) from by rw [show ((b.length : Int) == 0) = decide ((b.length : Int) = 0) from rfl]; exact decide_eq_decide.mpr (by omega)]
      exact line_j1 op ty s a b c hs x3 _
    · simp only [if_neg (show ¬ (a.length : Int) = 0 by omega)]
      rw [show decide (a.length = 0 ∧ b.length = 0) = false from decide_eq_false (by omega)]
      exact line_j1 op ty s a b c hs x3 _
  unfold lineB tontineref17_line.f
  by_cases ha : 0 < a.length
  · simp only [if_pos (show (a.length : Int) > 0 by omega)]
    rw [show decide ((b.length : Int) > 0) = decide (0 < a.length ∧ 0 < b.length) from decide_eq_decide.mpr (by omega)]
    exact hj0 _
  · simp only [if_neg (show ¬ (a.length : Int) > 0 by omega)]
    rw [show decide (0 < a.length ∧ 0 < b.length) = false from decide_eq_false (by omega)]
    exact hj0 _
end Go.Proofs.Ytaogejkmkalnlaa.PL
/- Plain law of ClauseChecks, part 2: Check. -/
namespace Go.Proofs.Ytaogejkmkalnlaa.PL
set_option linter.unusedSimpArgs false
set_option linter.unusedVariables false
open Go.RowKit Go.Proofs.YtaogejkmkalnlaaW.PrintWords Go.Proofs.YtaogejkmkalnlaaW.PrintMore Go.Proofs.Ytaogejkmkalnlaa.HS Go.Proofs.Ytaogejkmkalnlaa.PAll
/-- What is wrong with formulas behind others, the deepest of which is a. -/
def worstS : List (List Nd) → Int → Int
  | [], a => if a > 64 then 173 else 0
  | f :: r, a => if (wres (wgo f [])).2 = true then worstS r (mx a (wres (wgo f [])).1) else 5
theorem worst_l (fs : List (List Nd)) (hl : fs.length ≤ 9223372036854775806) (hs : ∀ f ∈ fs, small f ∧ f.length < 4398046511104) : ∀ (m j : Nat) (a : Int), fs.length - j = m → j ≤ fs.length → Ev (fun k => clause_worst.l0 k a fs (fs.length : Int) (j : Int)) (worstS (fs.drop j) a) := by
  intro m
  induction m with
  | zero =>
    intro j a hm hj
    refine Ev.step (fun k => by rw [clause_worst.l0]) ?_
    rw [List.drop_eq_nil_of_le (by omega)]
    simp only [if_neg (show ¬ (j : Int) < (fs.length : Int) by omega), worstS]
    by_cases h : a > 64
    · simp only [if_pos h]; exact Ev.const
    · simp only [if_neg h]; exact Ev.const
  | succ m ih =>
    intro j a hm hj
    have hlt : j < fs.length := by omega
    obtain ⟨h1, h2⟩ := hs _ (List.getElem_mem hlt)
    refine Ev.step (fun k => by rw [clause_worst.l0]) ?_
    rw [List.drop_eq_getElem_cons hlt]
    simp only [if_pos (show (j : Int) < (fs.length : Int) by omega), if_pos (show (0 : Int) ≤ (j : Int) by omega), rd_fm fs j hlt]
    refine Ev.bind (whole_ev _ (by omega) h1) ?_
    unfold worstS
    cases hb : (wres (wgo fs[j] [])).2 with
    | false => simp only [Bool.false_eq_true, if_false]; exact Ev.const
    | true =>
      simp only [if_true, w64 ((j : Int) + 1) (by omega) (by omega)]
      exact ih (j + 1) _ (by omega) (by omega)
theorem worst_ev (long : Bool) (fs : List (List Nd)) (hl : fs.length ≤ 9223372036854775806) (hs : ∀ f ∈ fs, small f ∧ f.length < 4398046511104) : Ev (fun k => clause_worst.f k long fs) (if long = true then 3 else worstS fs 0) := by
  unfold clause_worst.f
  cases long with
  | true => simp only [if_true]; exact Ev.const
  | false => simp only [Bool.false_eq_true, if_false]; exact worst_l fs hl hs fs.length 0 0 (by omega) (by omega)
/-- A formula that is there. -/
def pick (f : List Nd) : List (List Nd) := if 0 < f.length then [f] else []
def lineF (x : Ln) : List (List Nd) := pick x.f3 ++ (pick x.f4 ++ pick x.f5)
def longB (x : Ln) : Bool := decide (x.f3.length > 1024) || (decide (x.f4.length > 1024) || decide (x.f5.length > 1024))
def lnB (x : Ln) : Bool := lineB x.f0 x.f1 x.f2 x.f3.length x.f4.length x.f5.length
theorem ins_line (a b c : List Nd) (long : Bool) (all : List (List Nd)) : clause_Check.ins [a, b, c] (long, all) = (long || (decide (a.length > 1024) || (decide (b.length > 1024) || decide (c.length > 1024))), all ++ (pick a ++ (pick b ++ pick c))) := by
  have hd : ∀ f : List Nd, decide ((f.length : Int) > 1024) = decide (f.length > 1024) := fun f => decide_eq_decide.mpr (by omega)
  have hp : ∀ (f : List Nd) (s : List (List Nd)), (if (f.length : Int) > 0 then s ++ [f] else s) = s ++ pick f := fun f s => by
    unfold pick
    by_cases h : 0 < f.length
    · rw [if_pos h, if_pos (by omega)]
    · rw [if_neg h, if_neg (by omega), List.append_nil]
  unfold clause_Check.ins
  simp only [List.foldl_cons, List.foldl_nil, hd, hp, Bool.or_assoc, List.append_assoc]
theorem go_ev : ∀ (ls : List Ln) (long ok : Bool) (all : List (List Nd)), (∀ x ∈ ls, x.f2.size ≤ 9223372036854775806) → Ev (fun k => clause_Check.go k ls long ok all) (long || ls.any longB, ok && ls.all lnB, all ++ ls.flatMap lineF)
  | [], long, ok, all, _ => by
    simp only [clause_Check.go, List.any_nil, List.all_nil, List.flatMap_nil, Bool.or_false, Bool.and_true, List.append_nil]
    exact Ev.const
  | x :: r, long, ok, all, h => by
    simp only [clause_Check.go]
    refine Ev.bind (v := ok && lnB x) ?_ ?_
    · cases ok with
      | true => simp only [if_true, Bool.true_and]; exact form_ev _ _ _ _ _ _ (h x List.mem_cons_self)
      | false => simp only [Bool.false_eq_true, if_false, Bool.false_and]; exact Ev.const
    · rw [ins_line]
      have := go_ev r (long || longB x) (ok && lnB x) (all ++ lineF x) (fun y hy => h y (List.mem_cons_of_mem _ hy))
      rw [Bool.or_assoc, Bool.and_assoc, List.append_assoc] at this
      rw [List.any_cons, List.all_cons, List.flatMap_cons]
      exact this
/-- What Check says of a product. -/
def checkP (nm : ByteArray) (ls : List Ln) : Int :=
  let long := decide (ls.length > 128) || ls.any longB
  if long = true then 3 else if (named nm.data.toList && ls.all lnB) = true then worstS (ls.flatMap lineF) 0 else 5
theorem mem_pick {f g : List Nd} (h : f ∈ pick g) : f = g := by
  unfold pick at h
  split at h
  · simpa using h
  · simp at h
theorem pick_len (f : List Nd) : (pick f).length ≤ 1 := by unfold pick; split <;> simp
theorem mem_lines {ls : List Ln} (hs : smallL ls) : ∀ f ∈ ls.flatMap lineF, small f ∧ f.length < 4398046511104 := by
  intro f hf
  obtain ⟨x, hx, hf⟩ := List.mem_flatMap.mp hf
  obtain ⟨-, h3, h4, h5⟩ := hs.2 x hx
  rcases List.mem_append.mp hf with hf | hf
  · rw [mem_pick hf]; exact h3
  · rcases List.mem_append.mp hf with hf | hf
    · rw [mem_pick hf]; exact h4
    · rw [mem_pick hf]; exact h5
theorem lines_len : ∀ ls : List Ln, (ls.flatMap lineF).length ≤ 3 * ls.length
  | [] => by simp
  | x :: r => by
    have := lines_len r
    have := pick_len x.f3
    have := pick_len x.f4
    have := pick_len x.f5
    rw [List.flatMap_cons, List.length_append, List.length_cons]
    have : (lineF x).length = (pick x.f3).length + ((pick x.f4).length + (pick x.f5).length) := by unfold lineF; rw [List.length_append, List.length_append]
    omega
theorem checkP_ev (nm : ByteArray) (ls : List Ln) (hn : nm.size ≤ 9223372036854775807) (hs : smallL ls) : Ev (fun k => clause_Check.f k nm ls) (checkP nm ls) := by
  have h1 := hs.1
  unfold clause_Check.f
  simp only [if_pos (show ls.length ≤ 1353245080339 by omega)]
  refine Ev.bindc (v := named nm.data.toList) (by unfold clause_named.f; rw [if_pos hn]) ?_
  refine Ev.bind (go_ev ls _ _ _ (fun x hx => (hs.2 x hx).1)) ?_
  rw [show decide ((ls.length : Int) > 128) = decide (ls.length > 128) from decide_eq_decide.mpr (by omega)]
  unfold checkP
  simp only [List.nil_append]
  have hw := worst_ev (decide (ls.length > 128) || ls.any longB) (ls.flatMap lineF) (by have := lines_len ls; omega) (mem_lines hs)
  generalize (decide (ls.length > 128) || ls.any longB) = long at hw ⊢
  generalize (named nm.data.toList && ls.all lnB) = ok at hw ⊢
  cases long with
  | true =>
    simp only [if_true] at hw ⊢
    simp only [Bool.true_eq_false, false_and, if_false]
    exact hw
  | false =>
    cases ok with
    | true => simp only [Bool.true_eq_false, and_false, if_false, Bool.false_eq_true, if_true] at hw ⊢; exact hw
    | false => simp only [and_self, if_true, Bool.false_eq_true, if_false]; exact Ev.const
end Go.Proofs.Ytaogejkmkalnlaa.PL
/- Plain law of ClauseChecks, part 3: the document's Check. -/
namespace Go.Proofs.Ytaogejkmkalnlaa.PL
set_option linter.unusedSimpArgs false
set_option linter.unusedVariables false
open Go.RowKit Go.Proofs.YtaogejkmkalnlaaW.PrintWords Go.Proofs.YtaogejkmkalnlaaW.PrintMore Go.Proofs.Ytaogejkmkalnlaa.HS Go.Proofs.Ytaogejkmkalnlaa.PAll
def rb (f : List Nd) : Bool × Int := rres f.length (wgo f [])
def fstep (s : Int × Bool) (f : List Nd) : Int × Bool := (if 0 < f.length ∧ (rb f).1 = false then 5 else s.1, s.2 || decide ((rb f).2 > 64))
def lstep (s : Int × Bool) (x : Ln) : Int × Bool := fstep (fstep (fstep (if lnB x = true then s.1 else 5, s.2) x.f3) x.f4) x.f5
def fine (s : Int × Bool) : Int := if s.1 = 0 then (if s.2 = true then 173 else 0) else s.1
theorem l1_step (nm : ByteArray) (ls : List Ln) (e : Int) (deep : Bool) (i : Int) (fs : List (List Nd)) (j : Nat) (hj : j < fs.length) (h3 : fs.length = 3) (hs : small fs[j]) (hl : fs[j].length < 4398046511104) (V : Int)
    (hV : ¬ fs[j].length > 1024 → Ev (fun k => tontineref17_Check.l1 k (fstep (e, deep) fs[j]).1 (fstep (e, deep) fs[j]).2 i fs ((j + 1 : Nat) : Int) nm ls) V) :
    Ev (fun k => tontineref17_Check.l1 k e deep i fs (j : Int) nm ls) (if fs[j].length > 1024 then 3 else V) := by
  refine Ev.step (fun k => by rw [tontineref17_Check.l1]) ?_
  simp only [if_pos (show (j : Int) < 3 by omega), if_pos (show (0 : Int) ≤ (j : Int) by omega), if_pos (show (j : Int) < (fs.length : Int) by omega), rd_fm fs j hj]
  generalize fs[j] = f at *
  by_cases hg : f.length > 1024
  · simp only [if_pos hg, if_pos (show (f.length : Int) > 1024 by omega)]; exact Ev.const
  · have hV := hV hg
    simp only [if_neg hg, if_neg (show ¬ (f.length : Int) > 1024 by omega)]
    refine Ev.bind (right_ev f (by omega) hs) ?_
    rw [show ((j + 1 : Nat) : Int) = (j : Int) + 1 from by omega, ← w64 ((j : Int) + 1) (by omega) (by omega)] at hV
    unfold fstep at hV
    rw [show rres f.length (wgo f []) = rb f from rfl]
    generalize rb f = b at hV ⊢
    obtain ⟨b1, b2⟩ := b
    by_cases h0 : 0 < f.length
    · simp only [if_pos (show (f.length : Int) > 0 by omega)]
      cases b1 with
      | true =>
        simp only [h0, true_and, Bool.true_eq_false, if_false, if_true] at hV ⊢
        cases deep with
        | true => simp only [if_true, Bool.true_or] at hV ⊢; exact hV
        | false => simp only [Bool.false_eq_true, if_false, Bool.false_or] at hV ⊢; exact hV
      | false =>
        simp only [h0, true_and, if_true, Bool.false_eq_true, if_false] at hV ⊢
        cases deep with
        | true => simp only [if_true, Bool.true_or] at hV ⊢; exact hV
        | false => simp only [Bool.false_eq_true, if_false, Bool.false_or] at hV ⊢; exact hV
    · simp only [if_neg (show ¬ (f.length : Int) > 0 by omega)]
      simp only [h0, false_and, if_false] at hV
      cases deep with
      | true => simp only [if_true, Bool.true_or] at hV ⊢; exact hV
      | false => simp only [Bool.false_eq_true, if_false, Bool.false_or] at hV ⊢; exact hV
theorem l1_line (nm : ByteArray) (ls : List Ln) (e : Int) (deep : Bool) (i : Nat) (hi : i < 4398046511104) (x : Ln) (h3 : small x.f3 ∧ x.f3.length < 4398046511104) (h4 : small x.f4 ∧ x.f4.length < 4398046511104) (h5 : small x.f5 ∧ x.f5.length < 4398046511104) (V : Int)
    (hV : longB x = false → Ev (fun k => tontineref17_Check.l0 k (fstep (fstep (fstep (e, deep) x.f3) x.f4) x.f5).1 (fstep (fstep (fstep (e, deep) x.f3) x.f4) x.f5).2 ((i + 1 : Nat) : Int) nm ls) V) :
    Ev (fun k => tontineref17_Check.l1 k e deep (i : Int) [x.f3, x.f4, x.f5] 0 nm ls) (if longB x = true then 3 else V) := by
  have hlong : (if longB x = true then 3 else V) = if x.f3.length > 1024 then 3 else if x.f4.length > 1024 then 3 else if x.f5.length > 1024 then 3 else V := by
    unfold longB
    by_cases a : x.f3.length > 1024 <;> by_cases b : x.f4.length > 1024 <;> by_cases c : x.f5.length > 1024 <;> simp [a, b, c]
  rw [hlong]
  refine l1_step nm ls e deep (i : Int) [x.f3, x.f4, x.f5] 0 (by simp) rfl h3.1 h3.2 _ (fun n3 => ?_)
  refine l1_step nm ls _ _ (i : Int) [x.f3, x.f4, x.f5] 1 (by simp) rfl h4.1 h4.2 _ (fun n4 => ?_)
  refine l1_step nm ls _ _ (i : Int) [x.f3, x.f4, x.f5] 2 (by simp) rfl h5.1 h5.2 _ (fun n5 => ?_)
  refine Ev.step (fun k => by rw [tontineref17_Check.l1]) ?_
  simp only [if_neg (show ¬ (((2 + 1 : Nat) : Int)) < 3 by omega), w64 ((i : Int) + 1) (by omega) (by omega)]
  have := hV (by
    unfold longB
    rw [decide_eq_false (show ¬ x.f3.length > 1024 from n3), decide_eq_false (show ¬ x.f4.length > 1024 from n4), decide_eq_false (show ¬ x.f5.length > 1024 from n5)]; rfl)
  exact this
theorem rcheck_l (nm : ByteArray) (ls : List Ln) (hs : smallL ls) : ∀ (m j : Nat) (e : Int) (deep : Bool), ls.length - j = m → j ≤ ls.length → Ev (fun k => tontineref17_Check.l0 k e deep (j : Int) nm ls) (if (ls.drop j).any longB = true then 3 else fine ((ls.drop j).foldl lstep (e, deep))) := by
  intro m
  induction m with
  | zero =>
    intro j e deep hm hj
    refine Ev.step (fun k => by rw [tontineref17_Check.l0]) ?_
    rw [List.drop_eq_nil_of_le (by omega)]
    simp only [if_neg (show ¬ (j : Int) < (ls.length : Int) by omega), List.any_nil, Bool.false_eq_true, if_false, List.foldl_nil, fine]
    by_cases h : e = 0
    · subst h
      simp only [if_true]
      cases deep with
      | true => simp only [if_true]; exact Ev.const
      | false => simp only [Bool.false_eq_true, if_false]; exact Ev.const
    · simp only [if_neg h]
      exact ⟨0, fun k _ => by simp [h]⟩
  | succ m ih =>
    intro j e deep hm hj
    have h1 := hs.1
    have hlt : j < ls.length := by omega
    obtain ⟨h2, h3, h4, h5⟩ := hs.at j hlt
    have hd : ls.drop j = rd_T41 ls (j : Int) :: ls.drop (j + 1) := by rw [rd_ln ls j hlt]; exact List.drop_eq_getElem_cons hlt
    refine Ev.step (fun k => by rw [tontineref17_Check.l0]) ?_
    rw [hd]
    simp only [if_pos (show (j : Int) < (ls.length : Int) by omega), if_pos (show (0 : Int) ≤ (j : Int) by omega)]
    refine Ev.bind (line_ev _ _ _ _ _ _ h2) ?_
    generalize hx : rd_T41 ls (j : Int) = x at *
    have key : ∀ e', e' = (if lnB x = true then e else 5) → Ev (fun k => tontineref17_Check.j2 k e' deep (j : Int) nm ls) (if (x :: ls.drop (j + 1)).any longB = true then 3 else fine ((x :: ls.drop (j + 1)).foldl lstep (e, deep))) := by
      intro e' he
      refine Ev.step (fun k => by rw [tontineref17_Check.j2]) ?_
      simp only [if_pos (show (j : Int) < (ls.length : Int) by omega), if_pos (show (0 : Int) ≤ (j : Int) by omega), hx]
      refine Ev.bindc (v := [x.f3, x.f4, x.f5]) rfl ?_
      have := l1_line nm ls e' deep j (by omega) x h3 h4 h5 (if (ls.drop (j + 1)).any longB = true then 3 else fine ((ls.drop (j + 1)).foldl lstep (lstep (e, deep) x))) (fun _ => by
        have := ih (j + 1) (lstep (e, deep) x).1 (lstep (e, deep) x).2 (by omega) (by omega)
        rw [he]
        exact this)
      rw [List.any_cons, List.foldl_cons]
      cases hb : longB x with
      | true => rw [hb] at this; simp only [if_true, Bool.true_or] at this ⊢; exact this
      | false => rw [hb] at this; simp only [Bool.false_eq_true, if_false, Bool.false_or] at this ⊢; exact this
    rw [show lineB x.f0 x.f1 x.f2 x.f3.length x.f4.length x.f5.length = lnB x from rfl]
    cases hb : lnB x with
    | true => simp only [if_true]; exact key e (by rw [hb]; rfl)
    | false => simp only [Bool.false_eq_true, if_false]; exact key 5 (by rw [hb]; rfl)
/-! the two say the same -/
theorem rb_wres (f : List Nd) (h : ¬ f.length > 1024) : rb f = ((wres (wgo f [])).2, (wres (wgo f [])).1) := by
  unfold rb rres wres
  match wgo f [] with
  | none => rfl
  | some [] => rfl
  | some [d] => simp only [if_neg (show ¬ (f.length : Int) > 1024 by omega)]
  | some (a :: b :: r) => rfl
theorem deep_mx (a d : Int) : (decide (a > 64) || decide (d > 64)) = decide (mx a d > 64) := by
  unfold mx
  by_cases h1 : a > 64 <;> by_cases h2 : d > 64 <;> by_cases h3 : a < d <;> simp [h1, h2, h3] <;> omega
theorem wgo_nil : wgo [] [] = some [] := rfl
theorem f_step (e a : Int) (he : e = 0 ∨ e = 5) (f : List Nd) (h : ¬ f.length > 1024) : ∃ e' a', fstep (e, decide (a > 64)) f = (e', decide (a' > 64)) ∧ (e' = 0 ∨ e' = 5) ∧
    ∀ rest, (if e' = 0 then worstS rest a' else 5) = (if e = 0 then worstS (pick f ++ rest) a else 5) := by
  unfold fstep
  rw [rb_wres f h]
  by_cases h0 : 0 < f.length
  · have hp : pick f = [f] := by unfold pick; rw [if_pos h0]
    cases hb : (wres (wgo f [])).2 with
    | true =>
      refine ⟨e, mx a (wres (wgo f [])).1, ?_, he, fun rest => ?_⟩
      · rw [if_neg (by simp), deep_mx]
      · rw [hp, List.singleton_append, worstS, if_pos hb]
    | false =>
      refine ⟨5, mx a (wres (wgo f [])).1, ?_, .inr rfl, fun rest => ?_⟩
      · rw [if_pos ⟨h0, rfl⟩, deep_mx]
      · rw [if_neg (by decide), hp, List.singleton_append, worstS, hb]
        simp
  · have hf : f = [] := List.eq_nil_of_length_eq_zero (by omega)
    subst hf
    refine ⟨e, a, ?_, he, fun rest => rfl⟩
    simp [wgo_nil, wres]
theorem fold_eq : ∀ (ls : List Ln) (e a : Int), (e = 0 ∨ e = 5) → ls.any longB = false → fine (ls.foldl lstep (e, decide (a > 64))) = if e = 0 ∧ ls.all lnB = true then worstS (ls.flatMap lineF) a else 5
  | [], e, a, he, _ => by
    rcases he with rfl | rfl
    · by_cases h : a > 64 <;> simp [fine, worstS, h]
    · simp [fine]
  | x :: r, e, a, he, hl => by
    rw [List.any_cons, Bool.or_eq_false_iff] at hl
    obtain ⟨hx, hr⟩ := hl
    unfold longB at hx
    simp only [Bool.or_eq_false_iff, decide_eq_false_iff_not] at hx
    obtain ⟨n3, n4, n5⟩ := hx
    rw [List.foldl_cons]
    have h5 : (if lnB x = true then e else 5) = 0 ∨ (if lnB x = true then e else 5) = 5 := by
      rcases he with rfl | rfl <;> cases lnB x <;> simp
    obtain ⟨e1, a1, q1, p1, w1⟩ := f_step (if lnB x = true then e else 5) a h5 x.f3 n3
    obtain ⟨e2, a2, q2, p2, w2⟩ := f_step e1 a1 p1 x.f4 n4
    obtain ⟨e3, a3, q3, p3, w3⟩ := f_step e2 a2 p2 x.f5 n5
    have hs : lstep (e, decide (a > 64)) x = (e3, decide (a3 > 64)) := by
      show fstep (fstep (fstep (if lnB x = true then e else 5, decide (a > 64)) x.f3) x.f4) x.f5 = _
      rw [q1, q2, q3]
    rw [hs, fold_eq r e3 a3 p3 hr, List.all_cons, List.flatMap_cons]
    have hw := w3 (r.flatMap lineF)
    rw [w2, w1] at hw
    have hlf : pick x.f3 ++ (pick x.f4 ++ (pick x.f5 ++ r.flatMap lineF)) = lineF x ++ r.flatMap lineF := by unfold lineF; simp only [List.append_assoc]
    rw [hlf] at hw
    cases ha : r.all lnB with
    | false => simp
    | true =>
      simp only [and_true, Bool.and_true]
      rw [hw]
      cases lnB x with
      | true => simp
      | false => simp
theorem rcheckP_ev (nm : ByteArray) (ls : List Ln) (hn : nm.size ≤ 9223372036854775807) (hs : smallL ls) : Ev (fun k => tontineref17_Check.f k nm ls) (checkP nm ls) := by
  unfold tontineref17_Check.f checkP
  by_cases h : ls.length > 128
  · simp only [if_pos (show (ls.length : Int) > 128 by omega), decide_eq_true h, Bool.true_or, if_true]
    exact Ev.const
  · simp only [if_neg (show ¬ (ls.length : Int) > 128 by omega), decide_eq_false h, Bool.false_or]
    refine Ev.bind (Name_ev nm hn) ?_
    have hj : ∀ e : Int, (e = 0 ∨ e = 5) → Ev (fun k => tontineref17_Check.j0 k e nm ls) (if ls.any longB = true then 3 else if e = 0 ∧ ls.all lnB = true then worstS (ls.flatMap lineF) 0 else 5) := by
      intro e he
      refine Ev.step (fun k => by rw [tontineref17_Check.j0]) ?_
      have := rcheck_l nm ls hs ls.length 0 e false (by omega) (by omega)
      rw [List.drop_zero] at this
      cases hb : ls.any longB with
      | true => rw [hb] at this; exact this
      | false =>
        rw [hb] at this
        simp only [Bool.false_eq_true, if_false] at this ⊢
        rw [← fold_eq ls e 0 he hb]
        exact this
    cases named nm.data.toList with
    | true => simp only [if_true, Bool.true_and]; simpa using hj 0 (.inl rfl)
    | false => simp only [Bool.false_eq_true, if_false, Bool.false_and]; simpa using hj 5 (.inr rfl)
end Go.Proofs.Ytaogejkmkalnlaa.PL
/- Plain law of ClauseChecks, part 4: the document's Parts. -/
namespace Go.Proofs.Ytaogejkmkalnlaa.PL
set_option linter.unusedSimpArgs false
set_option linter.unusedVariables false
open Go.RowKit Go.Proofs.YtaogejkmkalnlaaW.PrintWords Go.Proofs.YtaogejkmkalnlaaW.PrintMore Go.Proofs.Ytaogejkmkalnlaa.HS Go.Proofs.Ytaogejkmkalnlaa.PAll
theorem walk_le {F : List Int} : ∀ (n a p : Nat), Walk F n a p → n ≤ a + 1 ∧ p ≤ a
  | 0, _, _, h => h.elim
  | n + 1, a, p, ⟨q, h1, h2, h3⟩ => by
    rcases h3 with ⟨rfl, rfl⟩ | ⟨h3, h4, h5⟩
    · omega
    · have := walk_le _ _ _ h5; omega
section
variable (l : List Nd) (F : List Int) (hl : l.length ≤ 1024) (hF : F.length = l.length) (hfr : ∀ q, q < l.length → Front l F q)
include hl hF hfr
set_option maxRecDepth 20000 in
/-- What 'whole' does with one formula that ends at q, others being asked for behind it. -/
theorem whole_one (N1 N2 : Nat) (hN1 : N1 ≤ 1000000) (hN2 : N2 ≤ 2000000) : ∀ (q : Nat), q < l.length → ∀ (p n r : Nat) (V : Int), F[q]? = some (p : Int) → n + (q + 1) ≤ N1 → r + 1024 * (q + 1) ≤ N2 → p ≤ q →
    Ev (fun k => tontineref17_whole.l0 k l ((n + (q - p + 1) : Nat) : Int) (r : Int) ((p : Int) - 1)) V → Ev (fun k => tontineref17_whole.l0 k l (n : Int) ((r + 1 : Nat) : Int) (q : Int)) V := by
  intro q
  induction q using Nat.strongRecOn with
  | _ q ih =>
    intro hq p n r V hp hn hr hpq h
    obtain ⟨p', d, h1, h2, -, h4⟩ := hfr q hq
    rw [hp] at h1
    obtain rfl : p = p' := by have := Option.some.inj h1; omega
    have walk : ∀ (m a p n r : Nat) (V : Int), Walk F m a p → a < q → n + (a + 1) ≤ N1 → r + m + 1024 * (a + 1) ≤ N2 →
        Ev (fun k => tontineref17_whole.l0 k l ((n + (a - p + 1) : Nat) : Int) (r : Int) ((p : Int) - 1)) V → Ev (fun k => tontineref17_whole.l0 k l (n : Int) ((r + m : Nat) : Int) (a : Int)) V := by
      intro m
      induction m with
      | zero => intro a p n r V hw; exact hw.elim
      | succ m ihm =>
        rintro a p n r V ⟨q1, g1, g2, g3⟩ ha hn hr h
        refine ih a ha (by omega) q1 n (r + m) V g1 hn (by omega) g2 ?_
        rcases g3 with ⟨rfl, rfl⟩ | ⟨g3, g4, g5⟩
        · exact h
        · have hle := walk_le _ _ _ g5
          have := ihm (q1 - 1) p (n + (a - q1 + 1)) r V g5 (by omega) (by omega) (by omega) (by rw [show n + (a - q1 + 1) + (q1 - 1 - p + 1) = n + (a - p + 1) by omega]; exact h)
          rw [show ((q1 : Int) - 1) = ((q1 - 1 : Nat) : Int) by omega]
          exact this
    generalize hx : (rd_T43 l (q : Int)).f1 = N at h4
    refine Ev.step (fun k => by rw [tontineref17_whole.l0]) ?_
    have hN : 0 ≤ N ∧ N ≤ 1024 := by
      rcases h4 with ⟨h4, -⟩ | ⟨h4, h5, h6⟩
      · omega
      · have := walk_le _ _ _ h6; omega
    simp only [if_pos (show ((r + 1 : Nat) : Int) > 0 by omega), if_pos (show (0 : Int) ≤ (q : Int) by omega), if_pos (show (q : Int) < (l.length : Int) by omega), hx, w64 ((n : Int) + 1) (by omega) (by omega), w64 (((r + 1 : Nat) : Int) - 1) (by omega) (by omega), w64 ((q : Int) - 1) (by omega) (by omega), w64 (((r + 1 : Nat) : Int) - 1 + N) (by omega) (by omega)]
    rcases h4 with ⟨h4, h5⟩ | ⟨h4, h5, h6⟩
    · rw [h5] at h
      rw [show ((n : Int) + 1) = ((n + (q - q + 1) : Nat) : Int) by omega, show ((r + 1 : Nat) : Int) - 1 + N = (r : Int) by omega]
      exact h
    · have := walk N.toNat (q - 1) p (n + 1) r V h6 (by omega) (by omega) (by omega) (by rw [show n + 1 + (q - 1 - p + 1) = n + (q - p + 1) by have := walk_le _ _ _ h6; omega]; exact h)
      rw [show ((n : Int) + 1) = ((n + 1 : Nat) : Int) by omega, show ((r + 1 : Nat) : Int) - 1 + N = ((r + N.toNat : Nat) : Int) by omega, show ((q : Int) - 1) = ((q - 1 : Nat) : Int) by omega]
      exact this
theorem whole_at (q p : Nat) (hq : q < l.length) (hp : F[q]? = some (p : Int)) (hpq : p ≤ q) : Ev (fun k => tontineref17_whole.f k l (q : Int)) ((q : Int) - p + 1) := by
  unfold tontineref17_whole.f
  refine whole_one l F hl hF hfr 1000000 2000000 (Nat.le_refl _) (Nat.le_refl _) q hq p 0 0 _ hp (by omega) (by omega) hpq ?_
  refine Ev.step (fun k => by rw [tontineref17_whole.l0]) ?_
  simp only [if_neg (show ¬ ((0 : Nat) : Int) > 0 by omega)]
  rw [show ((0 + (q - p + 1) : Nat) : Int) = (q : Int) - p + 1 by omega]
  exact Ev.const
theorem rparts_l : ∀ (k a p : Nat) (out : List Int), Walk F (k + 1) a p → k < out.length → out.length ≤ 1024 → Ev (fun f => tontineref17_Parts.l0 f l out (a : Int) (k : Int)) (ends F (k + 1) (a : Int) ++ out.drop (k + 1))
  | k, a, p, out, ⟨q, h1, h2, h3⟩, hk, ho => by
    have ha : a < F.length := (List.getElem?_eq_some_iff.mp h1).1
    refine Ev.step (fun k => by rw [tontineref17_Parts.l0]) ?_
    simp only [if_pos (show (k : Int) ≥ 0 by omega), if_pos (show (0 : Int) ≤ (k : Int) by omega), if_pos (show (k : Int) < (out.length : Int) by omega)]
    refine Ev.bind (whole_at l F hl hF hfr a q (by omega) h1 h2) ?_
    have e1 : wrap64 ((a : Int) - ((a : Int) - q + 1)) = (q : Int) - 1 := by rw [w64 _ (by omega) (by omega)]; omega
    have e2 : wrap64 ((k : Int) - 1) = (k : Int) - 1 := w64 _ (by omega) (by omega)
    simp only [e1, e2, Int.toNat_natCast]
    have hd : ∀ n, (out.set k (a : Int)).drop (k + 1 + n) = out.drop (k + 1 + n) := fun n => by rw [List.drop_set_of_lt (by omega)]
    have hset : (out.set k (a : Int)).drop k = (a : Int) :: out.drop (k + 1) := by
      rw [List.drop_eq_getElem_cons (by rw [List.length_set]; exact hk), List.getElem_set_self]
      congr 1
      exact hd 0
    match k, h3 with
    | 0, _ =>
      refine Ev.step (fun k => by rw [tontineref17_Parts.l0]) ?_
      simp only [if_neg (show ¬ (((0 : Nat) : Int) - 1 ≥ 0) by omega)]
      rw [List.drop_zero] at hset
      rw [hset]
      exact Ev.const
    | k + 1, .inl ⟨z, _⟩ => omega
    | k + 1, .inr ⟨_, h4, h5⟩ =>
      have ih := rparts_l k (q - 1) p (out.set (k + 1) (a : Int)) h5 (by rw [List.length_set]; omega) (by rw [List.length_set]; omega)
      rw [hset] at ih
      have e3 : ((k + 1 : Nat) : Int) - 1 = (k : Int) := by omega
      have e4 : (q : Int) - 1 = ((q - 1 : Nat) : Int) := by omega
      rw [e3, e4]
      rw [show ends F (k + 1 + 1) (a : Int) = ends F (k + 1) (rd F (a : Int) - 1) ++ [(a : Int)] from rfl, rd_get h1, e4, List.append_assoc]
      exact ih
/-- The document's Parts of a right formula. -/
theorem rparts_in (i : Nat) (hi : i < l.length) : Ev (fun k => tontineref17_Parts.j0 k l (i : Int) false) (ends F (rd_T43 l (i : Int)).f1.toNat ((i : Int) - 1)) ∧ (rd_T43 l (i : Int)).f1.toNat ≤ 1024 := by
  obtain ⟨p, d, h1, h2, h3, h4⟩ := hfr i hi
  generalize hx : (rd_T43 l (i : Int)).f1 = N at h4 ⊢
  have hN : 0 ≤ N ∧ N ≤ 1024 := by
    rcases h4 with ⟨h4, -⟩ | ⟨h4, h5, h6⟩
    · omega
    · have := walk_le _ _ _ h6; omega
  refine ⟨?_, by omega⟩
  refine Ev.step (fun k => by rw [tontineref17_Parts.j0]) ?_
  simp only [Bool.false_eq_true, if_false, if_pos (show (0 : Int) ≤ (i : Int) by omega), if_pos (show (i : Int) < (l.length : Int) by omega), hx, if_pos hN.1, if_pos (show N.toNat ≤ 35184372088832 by omega), w64 ((i : Int) - 1) (by omega) (by omega), w64 (N - 1) (by omega) (by omega)]
  rcases h4 with ⟨h, -⟩ | ⟨h, h5, h6⟩
  · rw [h]
    refine Ev.step (fun k => by rw [tontineref17_Parts.l0]) ?_
    simp only [if_neg (show ¬ ((0 : Int) - 1 ≥ 0) by omega)]
    exact Ev.const
  · obtain ⟨k, hk⟩ : ∃ k, N.toNat = k + 1 := ⟨N.toNat - 1, by omega⟩
    have := rparts_l l F hl hF hfr k (i - 1) p (List.replicate (k + 1) 0) (hk ▸ h6) (by rw [List.length_replicate]; omega) (by rw [List.length_replicate]; omega)
    rw [List.drop_eq_nil_of_le (by rw [List.length_replicate]; omega), List.append_nil] at this
    rw [hk, show N - 1 = (k : Int) by omega, show (i : Int) - 1 = ((i - 1 : Nat) : Int) by omega]
    exact this
end
theorem parts_both (l : List Nd) (i : Int) (hs : small l) (hl : l.length < 4398046511104) : ∃ v : List Int, v.length ≤ 1024 ∧ Ev (fun k => clause_Parts.f k l i) v ∧ Ev (fun k => tontineref17_Parts.f k l i) v := by
  have nilC : Ev (fun k => clause_Parts.j0 k l i true) [] := by
    refine Ev.step (fun k => by rw [clause_Parts.j0]) ?_
    simp only [if_true]; exact Ev.const
  have nilR : Ev (fun k => tontineref17_Parts.j0 k l i true) [] := by
    refine Ev.step (fun k => by rw [tontineref17_Parts.j0]) ?_
    simp only [if_true]; exact Ev.const
  by_cases hr : (∃ d, wgo l [] = some [d]) ∧ l.length ≤ 1024 ∧ 0 ≤ i ∧ i < l.length
  · obtain ⟨⟨d, hw⟩, h1, h2, h3⟩ := hr
    obtain ⟨F, hFe, hF, hfr⟩ := fronts_ev l (by omega) [d] hw
    obtain ⟨j, rfl⟩ : ∃ j : Nat, i = (j : Int) := ⟨i.toNat, by omega⟩
    obtain ⟨hj, hle⟩ := rparts_in l F h1 hF hfr j (by omega)
    refine ⟨_, ?_, parts_ev' l F d hs h1 hw hFe hF hfr j (by omega), ?_⟩
    · rw [ends_len]; exact hle
    · unfold tontineref17_Parts.f
      refine Ev.bind (right_ev l (by omega) hs) ?_
      rw [hw]
      simp only [rres, if_neg (show ¬ (l.length : Int) > 1024 by omega), if_true, if_neg (show ¬ (j : Int) < 0 by omega), decide_eq_false (show ¬ (j : Int) ≥ (l.length : Int) by omega)]
      exact hj
  · refine ⟨[], Nat.zero_le _, ?_, ?_⟩
    · unfold clause_Parts.f
      refine Ev.bind (whole_ev l (by omega) hs) ?_
      cases hb : (wres (wgo l [])).2 with
      | false => simp only [Bool.false_eq_true, if_false]; exact nilC
      | true =>
        simp only [if_true]
        have hd : ∃ d, wgo l [] = some [d] := by
          unfold wres at hb
          split at hb
          · exact ⟨_, by assumption⟩
          · cases hb
        by_cases h1 : l.length > 1024
        · simp only [if_pos (show (l.length : Int) > 1024 by omega)]; exact nilC
        · simp only [if_neg (show ¬ (l.length : Int) > 1024 by omega)]
          by_cases h2 : i < 0
          · simp only [if_pos h2]; exact nilC
          · simp only [if_neg h2]
            rw [decide_eq_true (show i ≥ (l.length : Int) from by
              refine Int.not_lt.mp fun h3 => hr ⟨hd, by omega, by omega, h3⟩)]
            exact nilC
    · unfold tontineref17_Parts.f
      refine Ev.bind (right_ev l (by omega) hs) ?_
      cases hb : (rres l.length (wgo l [])).1 with
      | false => simp only [Bool.false_eq_true, if_false]; exact nilR
      | true =>
        simp only [if_true]
        have hd : (∃ d, wgo l [] = some [d]) ∧ l.length ≤ 1024 := by
          unfold rres at hb
          split at hb
          · rename_i d hw
            refine ⟨⟨_, hw⟩, ?_⟩
            by_cases h : (l.length : Int) > 1024
            · rw [if_pos h] at hb; cases hb
            · omega
          · cases hb
        by_cases h2 : i < 0
        · simp only [if_pos h2]; exact nilR
        · simp only [if_neg h2]
          rw [decide_eq_true (show i ≥ (l.length : Int) from by
            refine Int.not_lt.mp fun h3 => hr ⟨hd.1, hd.2, by omega, h3⟩)]
          exact nilR
theorem comp_l (nm : ByteArray) (ls : List Ln) (l : List Nd) (hs : smallL ls) (hl : l.length < 4398046511104) (v : List Int) (hv : v.length ≤ 1024) : ∀ (m j : Nat), v.length - j = m → j ≤ v.length → Ev (fun k => tontinelaw17_ClauseChecks.l0 k l l v v (j : Int) nm ls nm ls) true := by
  intro m
  induction m with
  | zero =>
    intro j hm hj
    refine Ev.step (fun k => by rw [tontinelaw17_ClauseChecks.l0]) ?_
    simp only [if_neg (show ¬ (j : Int) < (v.length : Int) by omega)]
    refine Ev.bind (sameP_ev nm ls hs) ?_
    simp only [if_true]
    exact Ev.bind (sameF_ev l (by omega)) Ev.const
  | succ m ih =>
    intro j hm hj
    refine Ev.step (fun k => by rw [tontinelaw17_ClauseChecks.l0]) ?_
    simp only [if_pos (show (j : Int) < (v.length : Int) by omega), if_pos (show (0 : Int) ≤ (j : Int) by omega), if_true, w64 ((j : Int) + 1) (by omega) (by omega)]
    exact ih (j + 1) (by omega) (by omega)
/-- THE LAW. -/
theorem clauseChecks_ev (nm : ByteArray) (ls : List Ln) (l : List Nd) (i : Int) (hn : nm.size ≤ 9223372036854775807) (hs : smallL ls) (hf : small l) (hl : l.length < 4398046511104) : Ev (fun k => tontinelaw17_ClauseChecks.f k nm ls l i) true := by
  unfold tontinelaw17_ClauseChecks.f
  refine Ev.bindc (v := true) rfl ?_
  simp only [if_true]
  refine Ev.bind (copy_ev nm ls hs) ?_
  refine Ev.bindc (lend_eq l hl) ?_
  refine Ev.bind (checkP_ev nm ls hn hs) ?_
  refine Ev.bind (rcheckP_ev nm ls hn hs) ?_
  simp only [if_true]
  refine Ev.bind (check_ev l hf) ?_
  refine Ev.bind (rcheck_ev l hf) ?_
  rw [bne_self_eq_false]
  refine Ev.step (fun k => by rw [tontinelaw17_ClauseChecks.j0]) ?_
  simp only [Bool.false_eq_true, if_false]
  obtain ⟨v, hv, h1, h2⟩ := parts_both l i hf hl
  refine Ev.bind h1 ?_
  refine Ev.bind h2 ?_
  simp only [if_true]
  exact comp_l nm ls l hs hl v hv v.length 0 (by omega) (by omega)
end Go.Proofs.Ytaogejkmkalnlaa.PL
