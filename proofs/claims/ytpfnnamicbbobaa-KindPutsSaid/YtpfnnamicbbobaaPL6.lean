/- Plain law, part 6: nodes. -/
import Derived.Test.YtpfnnamicbbobaaPL5
namespace Go.Proofs.Ytpfnnamicbbobaa.PL
set_option linter.unusedSimpArgs false
open Go.RowKit Go.Proofs.YtpfnnamicbbobaaW.PrintWords Go.Proofs.YtpfnnamicbbobaaW.PrintMore Go.Proofs.Ytpfnnamicbbobaa.HS Go.Proofs.Ytpfnnamicbbobaa.PAll
def wordOK (s : ByteArray) : Bool := named s.data.toList && !Ytpfnnamicbbobaa.HB.keptB s
def textOK (op : Int) (s : ByteArray) : Bool := if op = 1 then numOK false (strip s).data.toList else if op = 2 then sumOK s.data.toList else if op = 5 then wordOK s else (s.toList == ([] : List UInt8))
/-- How many parts; -1: as many as it says, one at least. -/
def pcount (op : Int) : Int := if 1 ≤ op ∧ op ≤ 5 then 0 else if op = 6 ∨ op = 7 then 1 else if op = 20 then 3 else if op = 21 ∨ op = 22 then -1 else 2
def nodeOK (op n : Int) (s : ByteArray) : Bool := (decide (1 ≤ op ∧ op ≤ 23) && (decide (0 ≤ pcount op ∧ n = pcount op) || decide (pcount op < 0 ∧ 1 ≤ n))) && textOK op s
theorem parts_ev (op : Int) : Ev (fun k => clause_parts.f k op) (pcount op) := by
  unfold clause_parts.f
  have last : ¬ (1 ≤ op ∧ op ≤ 5) → Ev (fun k => clause_parts.j0 k op false) (pcount op) := by
    intro h
    refine Ev.step (fun k => by rw [clause_parts.j0]) ?_
    unfold pcount
    rw [if_neg h]
    by_cases h6 : op = 6
    · simp only [if_pos h6]
      refine Ev.step (fun k => by rw [clause_parts.j1]) ?_
      subst h6
      exact Ev.const
    · simp only [if_neg h6]
      refine Ev.step (fun k => by rw [clause_parts.j1]) ?_
      by_cases h7 : op = 7
      · subst h7; exact Ev.const
      · simp only [beq_eq_false_iff_ne.mpr h7, Bool.false_eq_true, if_false]
        rw [if_neg (show ¬ (op = 6 ∨ op = 7) by omega)]
        by_cases h20 : op = 20
        · simp only [if_pos h20]; exact Ev.const
        · simp only [if_neg h20]
          by_cases h21 : op = 21
          · simp only [if_pos h21]; rw [if_pos (.inl h21)]; exact Ev.const
          · simp only [if_neg h21]
            by_cases h22 : op = 22
            · simp only [if_pos h22]; rw [if_pos (.inr h22)]; exact Ev.const
            · simp only [if_neg h22]; rw [if_neg (by omega)]; exact Ev.const
  by_cases h : 1 ≤ op ∧ op ≤ 5
  · have first : Ev (fun k => clause_parts.j0 k op true) (pcount op) := by
      refine Ev.step (fun k => by rw [clause_parts.j0]) ?_
      unfold pcount
      rw [if_pos h]
      exact Ev.const
    have : op = 1 ∨ op = 2 ∨ op = 3 ∨ op = 4 ∨ op = 5 := by omega
    rcases this with rfl | rfl | rfl | rfl | rfl <;> exact first
  · simp only [if_neg (show ¬ op = 1 by omega), if_neg (show ¬ op = 2 by omega), if_neg (show ¬ op = 3 by omega), if_neg (show ¬ op = 4 by omega), beq_eq_false_iff_ne.mpr (show op ≠ 5 by omega)]
    exact last h
/-- Words between blanks. -/
def joined : List (List UInt8) → List UInt8
  | [] => [32]
  | w :: r => 32 :: (w ++ joined r)
def no32 (l : List UInt8) : Bool := l.all fun c => c != 32
theorem joined_head (ws : List (List UInt8)) : ∃ R, joined ws = 32 :: R := by cases ws <;> exact ⟨_, rfl⟩
theorem pre_eq : ∀ (s w R : List UInt8), no32 s = true → no32 w = true → (s ++ [32]).isPrefixOf (w ++ 32 :: R) = (w == s)
  | [], [], R, _, _ => by simp [List.isPrefixOf]
  | [], d :: w, R, _, hw => by
    rw [no32, List.all_cons, Bool.and_eq_true] at hw
    have : (32 == d) = false := by rw [beq_eq_false_iff_ne]; intro e; rw [← e] at hw; exact absurd hw.1 (by decide)
    simp [List.isPrefixOf, this]
  | c :: s, [], R, hs, _ => by
    rw [no32, List.all_cons, Bool.and_eq_true] at hs
    have : (c == 32) = false := by rw [beq_eq_false_iff_ne]; intro e; rw [e] at hs; exact absurd hs.1 (by decide)
    simp [List.isPrefixOf, this]
  | c :: s, d :: w, R, hs, hw => by
    rw [no32, List.all_cons, Bool.and_eq_true] at hs hw
    have ih := pre_eq s w R hs.2 hw.2
    rw [List.cons_append, List.cons_append, List.isPrefixOf, ih, List.cons_beq_cons, Bool.beq_comm (a := c) (b := d)]
theorem has_cons (b : UInt8) (l sub : List UInt8) : Lib.contains (b :: l) sub = (sub.isPrefixOf (b :: l) || Lib.contains l sub) := by
  unfold Lib.contains
  rw [Lib.index]
  have := Lib.index_ge l sub
  split
  · rename_i h; rw [h]; rfl
  · rename_i h
    rw [Bool.eq_false_iff.mpr h, Bool.false_or]
    split
    · rename_i h2; rw [beq_iff_eq] at h2; rw [h2]
    · rename_i h2; rw [beq_iff_eq] at h2; exact decide_eq_decide.mpr (by omega)
theorem has_skip (s : List UInt8) : ∀ (w l : List UInt8), no32 w = true → Lib.contains (w ++ l) (32 :: s) = Lib.contains l (32 :: s)
  | [], l, _ => rfl
  | d :: w, l, hw => by
    rw [no32, List.all_cons, Bool.and_eq_true] at hw
    have : (32 == d) = false := by rw [beq_eq_false_iff_ne]; intro e; rw [← e] at hw; exact absurd hw.1 (by decide)
    rw [List.cons_append, has_cons, has_skip s w l hw.2, List.isPrefixOf, this]; rfl
theorem has_joined (s : List UInt8) (hs : no32 s = true) : ∀ ws : List (List UInt8), (ws.all no32) = true → Lib.contains (joined ws) (32 :: (s ++ [32])) = ws.any fun w => w == s
  | [], _ => by
    cases s with
    | nil => rfl
    | cons c t =>
      rw [joined, has_cons]
      simp [List.isPrefixOf, Lib.contains, Lib.index]
  | w :: r, h => by
    rw [List.all_cons, Bool.and_eq_true] at h
    obtain ⟨R, hR⟩ := joined_head r
    rw [joined, has_cons, has_skip _ w _ h.1, has_joined s hs r h.2, List.any_cons]
    rw [hR, List.isPrefixOf, pre_eq s w R hs h.1]
    rfl
theorem no32_inn (l : List UInt8) (h : l.all innB = true) : no32 l = true := by
  rw [List.all_eq_true] at h
  unfold no32
  rw [List.all_eq_true]
  intro c hc
  have := h c hc
  rw [bne_iff_ne]
  intro e
  subst e
  exact absurd this (by decide)
theorem named_small (s : ByteArray) (h : named s.data.toList = true) : s.size ≤ 24 ∧ no32 s.data.toList = true := by
  by_cases h0 : 0 < s.size
  · rw [named_eq s _ h0 rfl, Bool.and_eq_true, Bool.and_eq_true, decide_eq_true_eq] at h
    exact ⟨h.1, no32_inn _ h.2.2⟩
  · rw [named_nil s h0] at h; cases h
theorem kept_eq (s : ByteArray) (h : no32 s.data.toList = true) : Lib.contains Ytpfnnamicbbobaa.HB.keptText (32 :: (s.data.toList ++ [32])) = Ytpfnnamicbbobaa.HB.keptB s := by
  have e : Ytpfnnamicbbobaa.HB.keptText = joined (Ytpfnnamicbbobaa.HB.keptWs.map fun x => x.data.toList) := by decide
  rw [e, has_joined _ h _ (by decide), List.any_map]
  unfold Ytpfnnamicbbobaa.HB.keptB
  congr 1
  funext x
  simp only [Function.comp, toList_data]
theorem word_eq (s : ByteArray) (hs : s.size ≤ 9223372036854775806) : clause_word.f s = some (wordOK s) := by
  unfold clause_word.f clause_named.f
  rw [if_pos (by omega), Option.bind_some]
  unfold wordOK
  cases h : named s.data.toList with
  | false => rfl
  | true =>
    have hn := named_small s h
    rw [if_pos rfl]
    unfold clause_isKept.f
    rw [if_pos hn.1, Option.bind_some, kept_eq s hn.2]
    rfl
theorem Word_ev (s : ByteArray) (hs : s.size ≤ 9223372036854775806) : Ev (fun k => tontineref17_Word.f k s) (wordOK s) := by
  unfold tontineref17_Word.f wordOK
  refine Ev.bind (Name_ev s (by omega)) ?_
  cases named s.data.toList with
  | false => exact Ev.const
  | true => exact Ev.const
theorem text_eq (op n : Int) (s : ByteArray) (hs : s.size ≤ 9223372036854775806) : clause_text.f op n s = some (textOK op s) := by
  unfold clause_text.f textOK
  have hst := strip_le s
  by_cases h1 : op = 1
  · rw [if_pos h1, if_pos h1, trim_eq s hs, Option.bind_some, number_eq _ false (by omega)]; rfl
  · rw [if_neg h1, if_neg h1]
    by_cases h2 : op = 2
    · rw [if_pos h2, if_pos h2, cutp_eq s, Option.bind_some]
      unfold sumOK
      by_cases h3 : s.data.toList.head? = some 36
      · rw [if_pos h3, decide_eq_true h3, Bool.true_and]
        have hx : 0 < s.size := by
          by_cases h0 : 0 < s.size
          · exact h0
          · rw [show s.data.toList = [] from List.eq_nil_of_length_eq_zero (by rw [lsize]; omega)] at h3; cases h3
        show (if true = true then (clause_number.f (s.extract 1 s.size) true).bind fun t => some t else some false) = _
        rw [if_pos rfl, number_eq _ true (by rw [ex_size _ _ _ (Nat.le_refl _)]; omega), ex_list _ _ _ (Nat.le_refl _), List.take_of_length_le (by rw [List.length_drop, lsize]; omega), List.drop_one]; rfl
      · rw [if_neg h3, decide_eq_false h3]; rfl
    · rw [if_neg h2, if_neg h2]
      by_cases h5 : op = 5
      · rw [if_pos h5, if_pos h5, word_eq s hs]; rfl
      · rw [if_neg h5, if_neg h5]
theorem node_ev (op n : Int) (s : ByteArray) (hs : s.size ≤ 9223372036854775806) : Ev (fun k => clause_node.f k op n s) (nodeOK op n s) := by
  unfold clause_node.f
  refine Ev.bind (parts_ev op) ?_
  simp only [text_eq op n s hs, Option.bind_some]
  unfold nodeOK
  by_cases h1 : op ≥ 1
  · by_cases h2 : op ≤ 23
    · rw [decide_eq_true (show 1 ≤ op ∧ op ≤ 23 from ⟨h1, h2⟩), Bool.true_and]
      simp only [if_pos h1, if_pos h2]
      by_cases h3 : pcount op ≥ 0
      · simp only [if_pos h3, if_neg (show ¬ pcount op < 0 by omega)]
        rw [decide_eq_false (show ¬ (pcount op < 0 ∧ 1 ≤ n) by omega), Bool.or_false]
        by_cases h4 : n = pcount op
        · simp only [if_pos h4]; rw [decide_eq_true ⟨h3, h4⟩, Bool.true_and]; exact Ev.const
        · simp only [if_neg h4]; rw [decide_eq_false (fun q => h4 q.2), Bool.false_and]; exact Ev.const
      · simp only [if_neg h3, if_pos (show pcount op < 0 by omega)]
        rw [decide_eq_false (show ¬ (0 ≤ pcount op ∧ n = pcount op) by omega), Bool.false_or]
        by_cases h4 : n ≥ 1
        · simp only [if_pos h4]; rw [decide_eq_true (show pcount op < 0 ∧ 1 ≤ n by omega), Bool.true_and]; exact Ev.const
        · simp only [if_neg h4]; rw [decide_eq_false (show ¬ (pcount op < 0 ∧ 1 ≤ n) by omega), Bool.false_and]; exact Ev.const
    · simp only [if_pos h1, if_neg h2]
      rw [decide_eq_false (fun q => h2 q.2), Bool.false_and, Bool.false_and]; exact Ev.const
  · simp only [if_neg h1]
    rw [decide_eq_false (fun q => h1 q.1), Bool.false_and, Bool.false_and]; exact Ev.const
/-- The document's count. -/
def rcount (op n : Int) : Int := if 1 ≤ op ∧ op ≤ 5 then 0 else if op = 6 ∨ op = 7 then 1 else if (8 ≤ op ∧ op ≤ 19) ∨ op = 23 then 2 else if op = 20 then 3 else if (op = 21 ∨ op = 22) ∧ n ≥ 1 then n else -1
theorem count_ev (op n : Int) (s : ByteArray) : Ev (fun k => tontineref17_count.f k op n s) (rcount op n) := by
  have c2 : ¬ (1 ≤ op ∧ op ≤ 5) → ¬ (op = 6 ∨ op = 7) → ∀ b, b = decide ((8 ≤ op ∧ op ≤ 19) ∨ op = 23) → Ev (fun k => tontineref17_count.j2 k b op n s) (rcount op n) := by
    intro h1 h2 b hb
    refine Ev.step (fun k => by rw [tontineref17_count.j2]) ?_
    unfold rcount
    rw [if_neg h1, if_neg h2, hb]
    by_cases h3 : (8 ≤ op ∧ op ≤ 19) ∨ op = 23
    · rw [if_pos h3, decide_eq_true h3]; exact Ev.const
    · rw [if_neg h3, decide_eq_false h3]
      simp only [Bool.false_eq_true, if_false]
      by_cases h4 : op = 20
      · simp only [if_pos h4]; exact Ev.const
      · simp only [if_neg h4]
        by_cases h5 : op = 21
        · simp only [if_pos h5]
          by_cases h6 : n ≥ 1
          · simp only [if_pos h6]; rw [if_pos ⟨.inl h5, h6⟩]; exact Ev.const
          · simp only [if_neg h6]; rw [if_neg (fun q => h6 q.2)]; exact Ev.const
        · simp only [if_neg h5]
          by_cases h7 : op = 22
          · simp only [if_pos h7]
            by_cases h6 : n ≥ 1
            · simp only [if_pos h6]; rw [if_pos ⟨.inr h7, h6⟩]; exact Ev.const
            · simp only [if_neg h6]; rw [if_neg (fun q => h6 q.2)]; exact Ev.const
          · simp only [if_neg h7]; rw [if_neg (by omega)]; exact Ev.const
  have c1 : ¬ (1 ≤ op ∧ op ≤ 5) → ∀ b, b = decide (op = 6 ∨ op = 7) → Ev (fun k => tontineref17_count.j1 k b op n s) (rcount op n) := by
    intro h1 b hb
    refine Ev.step (fun k => by rw [tontineref17_count.j1]) ?_
    rw [hb]
    by_cases h2 : op = 6 ∨ op = 7
    · rw [decide_eq_true h2]
      unfold rcount
      rw [if_neg h1, if_pos h2]; exact Ev.const
    · rw [decide_eq_false h2]
      simp only [Bool.false_eq_true, if_false]
      by_cases h3 : op ≥ 8
      · simp only [if_pos h3]
        by_cases h4 : op ≤ 19
        · simp only [if_pos h4]; exact c2 h1 h2 _ (decide_eq_true (.inl ⟨h3, h4⟩)).symm
        · simp only [if_neg h4]
          exact c2 h1 h2 _ (by rw [Bool.eq_iff_iff]; simp only [beq_iff_eq, decide_eq_true_eq]; omega)
      · simp only [if_neg h3]
        exact c2 h1 h2 _ (by rw [Bool.eq_iff_iff]; simp only [beq_iff_eq, decide_eq_true_eq]; omega)
  have c0 : ∀ b, b = decide (1 ≤ op ∧ op ≤ 5) → Ev (fun k => tontineref17_count.j0 k b op n s) (rcount op n) := by
    intro b hb
    refine Ev.step (fun k => by rw [tontineref17_count.j0]) ?_
    rw [hb]
    by_cases h1 : 1 ≤ op ∧ op ≤ 5
    · rw [decide_eq_true h1]
      unfold rcount
      rw [if_pos h1]; exact Ev.const
    · rw [decide_eq_false h1]
      simp only [Bool.false_eq_true, if_false]
      by_cases h6 : op = 6
      · simp only [if_pos h6]; exact c1 h1 _ (decide_eq_true (.inl h6)).symm
      · simp only [if_neg h6]
        exact c1 h1 _ (by rw [Bool.eq_iff_iff]; simp only [beq_iff_eq, decide_eq_true_eq]; omega)
  unfold tontineref17_count.f
  by_cases h : op ≥ 1
  · simp only [if_pos h]; exact c0 _ (decide_eq_decide.mpr (by omega))
  · simp only [if_neg h]; exact c0 _ (decide_eq_false (by omega)).symm
theorem rnode_ev (op n : Int) (s : ByteArray) (hs : s.size ≤ 9223372036854775806) : Ev (fun k => tontineref17_node.f k op n s) (nodeOK op n s) := by
  have j1 : Ev (fun k => tontineref17_node.j0 k true op n s) false := by
    refine Ev.step (fun k => by rw [tontineref17_node.j0]) ?_
    exact Ev.const
  have j2 : Ev (fun k => tontineref17_node.j0 k false op n s) (textOK op s) := by
    refine Ev.step (fun k => by rw [tontineref17_node.j0]) ?_
    simp only [Bool.false_eq_true, if_false]
    unfold textOK
    by_cases h1 : op = 1
    · simp only [if_pos h1]; exact Ev.bind (NumberF_ev s hs) Ev.const
    · simp only [if_neg h1]
      by_cases h2 : op = 2
      · simp only [if_pos h2]; exact Ev.bind (Sum_ev s hs) Ev.const
      · simp only [if_neg h2]
        by_cases h5 : op = 5
        · simp only [if_pos h5]; exact Ev.bind (Word_ev s hs) Ev.const
        · simp only [if_neg h5]; exact Ev.const
  have hc : (decide (1 ≤ op ∧ op ≤ 23) && (decide (0 ≤ pcount op ∧ n = pcount op) || decide (pcount op < 0 ∧ 1 ≤ n))) = (decide (0 ≤ rcount op n) && decide (rcount op n = n)) := by
    rw [Bool.eq_iff_iff]
    simp only [Bool.and_eq_true, Bool.or_eq_true, decide_eq_true_eq]
    unfold pcount rcount
    repeat' split
    all_goals omega
  unfold tontineref17_node.f nodeOK
  rw [hc]
  refine Ev.bind (count_ev op n s) ?_
  by_cases h : rcount op n < 0
  · simp only [if_pos h]
    rw [decide_eq_false (show ¬ 0 ≤ rcount op n by omega), Bool.false_and, Bool.false_and]
    exact j1
  · simp only [if_neg h]
    rw [decide_eq_true (show 0 ≤ rcount op n by omega), Bool.true_and]
    refine Ev.bind (count_ev op n s) ?_
    by_cases h2 : rcount op n = n
    · rw [decide_eq_true h2, Bool.true_and]; simp only [show (rcount op n != n) = false from bne_eq_false_iff_eq.mpr h2]; exact j2
    · rw [decide_eq_false h2, Bool.false_and]; simp only [bne_iff_ne.mpr h2]; exact j1
end Go.Proofs.Ytpfnnamicbbobaa.PL
