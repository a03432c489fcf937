/- Plain law, part 7: whole formulas: clause.CheckFormula and the document's. -/
import Derived.Test.YtpfnnamicbbobaaPL6
namespace Go.Proofs.Ytpfnnamicbbobaa.PL
set_option linter.unusedSimpArgs false
open Go.RowKit Go.Proofs.YtpfnnamicbbobaaW.PrintWords Go.Proofs.YtpfnnamicbbobaaW.PrintMore Go.Proofs.Ytpfnnamicbbobaa.HS Go.Proofs.Ytpfnnamicbbobaa.PAll
abbrev Nd := S56
/-- Texts are no longer than a memory bears. -/
def small (l : List Nd) : Prop := ∀ x ∈ l, x.f2.size ≤ 9223372036854775806
def mxs (b : Int) (l : List Int) : Int := l.foldl mx b
/-- How deep the formulas on the stack are; none: a node is wrong. -/
def wgo : List Nd → List Int → Option (List Int)
  | [], st => some st
  | x :: r, st => if nodeOK x.f0 x.f1 x.f2 = true ∧ x.f1 ≤ st.length then wgo r (st.take (st.length - x.f1.toNat) ++ [wrap64 (mxs 0 (st.drop (st.length - x.f1.toNat)) + 1)]) else none
def wres : Option (List Int) → Int × Bool
  | some [d] => (d, true)
  | _ => (0, false)
theorem nodeOK_n (op n : Int) (s : ByteArray) (h : nodeOK op n s = true) : 0 ≤ n := by
  unfold nodeOK at h
  simp only [Bool.and_eq_true, Bool.or_eq_true, decide_eq_true_eq] at h
  omega
theorem rd_drop (l : List Nd) (j : Nat) (h : j < l.length) : l.drop j = rd_T56 l (j : Int) :: l.drop (j + 1) := by
  rw [List.drop_eq_getElem_cons h]
  simp [rd_T56, List.getD_eq_getElem?_getD, h]
theorem rd_mem (l : List Nd) (j : Nat) (h : j < l.length) : rd_T56 l (j : Int) ∈ l := by
  have := List.mem_of_mem_drop (rd_drop l j h ▸ List.mem_cons_self)
  exact this
theorem rdi_drop (l : List Int) (j : Nat) (h : j < l.length) : l.drop j = rd l (j : Int) :: l.drop (j + 1) := by
  rw [List.drop_eq_getElem_cons h]
  simp [rd, List.getD_eq_getElem?_getD, h]
theorem succ64 (j n : Nat) (h : j < n) (hn : n ≤ 9223372036854775807) : wrap64 ((j : Int) + 1) = ((j + 1 : Nat) : Int) := by rw [w64 _ (by omega) (by omega)]; rfl
section
variable (l : List Nd) (hl : l.length ≤ 8796093022208)
theorem whole_l1 (st : List Int) (j : Nat) (x0 x1 : Int) (x2 : ByteArray) (V : Int × Bool) (h1 : 0 ≤ x1) (h2 : x1 ≤ st.length) (hst : st.length ≤ 8796093022208) (ys : List Int) (hys : ys.length ≤ 8796093022208) :
    ∀ (m i : Nat) (b : Int), ys.length - i = m → i ≤ ys.length → Ev (fun k => clause_whole.l0 k (st.take (st.length - x1.toNat) ++ [wrap64 (mxs b (ys.drop i) + 1)]) l (l.length : Int) (wrap64 ((j : Int) + 1))) V →
    Ev (fun k => clause_whole.l1 k st b l (l.length : Int) (j : Int) ys (ys.length : Int) (i : Int) x0 x1 x2) V := by
  intro m
  induction m with
  | zero =>
    intro i b hm hi h
    rw [List.drop_eq_nil_of_le (by omega)] at h
    refine Ev.step (fun k => by rw [clause_whole.l1]) ?_
    have hw : wrap64 ((st.length : Int) - x1) = ((st.length - x1.toNat : Nat) : Int) := by rw [w64 _ (by omega) (by omega)]; omega
    simp only [if_neg (show ¬ (i : Int) < (ys.length : Int) by omega), hw, if_pos (show (0 : Int) ≤ ((st.length - x1.toNat : Nat) : Int) by omega), if_pos (show ((st.length - x1.toNat : Nat) : Int) ≤ (st.length : Int) by omega), Int.toNat_natCast, Option.bind_some,
      if_pos (show (st.take (st.length - x1.toNat)).length < 17592186044416 by rw [List.length_take]; omega)]
    exact h
  | succ m ih =>
    intro i b hm hi h
    have hlt : i < ys.length := by omega
    rw [rdi_drop ys i hlt] at h
    have := ih (i + 1) (mx b (rd ys i)) (by omega) (by omega) h
    refine Ev.step (fun k => by rw [clause_whole.l1]) ?_
    simp only [if_pos (show (i : Int) < (ys.length : Int) by omega), if_pos (show (0 : Int) ≤ (i : Int) by omega), succ64 i _ hlt (by omega)]
    exact this
include hl in
theorem whole_l (hs : small l) : ∀ (m j : Nat) (st : List Int), l.length - j = m → j ≤ l.length → st.length ≤ j → Ev (fun k => clause_whole.l0 k st l (l.length : Int) (j : Int)) (wres (wgo (l.drop j) st)) := by
  intro m
  induction m with
  | zero =>
    intro j st hm hj hst
    rw [List.drop_eq_nil_of_le (by omega)]
    refine Ev.step (fun k => by rw [clause_whole.l0]) ?_
    simp only [if_neg (show ¬ (j : Int) < (l.length : Int) by omega)]
    match st with
    | [] => exact Ev.const
    | [d] => exact Ev.const
    | a :: b :: r =>
      simp only [if_neg (show ¬ (((a :: b :: r : List Int).length : Nat) : Int) = 1 by simp; omega)]
      exact Ev.const
  | succ m ih =>
    intro j st hm hj hst
    have hlt : j < l.length := by omega
    have hmem := rd_mem l j hlt
    rw [rd_drop l j hlt]
    refine Ev.step (fun k => by rw [clause_whole.l0]) ?_
    generalize hx : rd_T56 l (j : Int) = x at hmem ⊢
    simp only [if_pos (show (j : Int) < (l.length : Int) by omega), if_pos (show (0 : Int) ≤ (j : Int) by omega), hx]
    refine Ev.bind (node_ev x.f0 x.f1 x.f2 (hs x hmem)) ?_
    unfold wgo
    have no : Ev (fun k => clause_whole.j1 k st l (l.length : Int) (j : Int) true x.f0 x.f1 x.f2) (0, false) := by
      refine Ev.step (fun k => by rw [clause_whole.j1]) ?_
      exact Ev.const
    cases hn : nodeOK x.f0 x.f1 x.f2 with
    | false =>
      rw [if_neg (by simp)]
      exact no
    | true =>
      have h0 := nodeOK_n _ _ _ hn
      by_cases h1 : x.f1 ≤ st.length
      · rw [if_pos ⟨rfl, h1⟩, decide_eq_false (show ¬ x.f1 > (st.length : Int) by omega)]
        simp only [if_true]
        refine Ev.step (fun k => by rw [clause_whole.j1]) ?_
        have hw : wrap64 ((st.length : Int) - x.f1) = ((st.length - x.f1.toNat : Nat) : Int) := by rw [w64 _ (by omega) (by omega)]; omega
        simp only [Bool.false_eq_true, if_false, hw, if_pos (show (0 : Int) ≤ ((st.length - x.f1.toNat : Nat) : Int) by omega), if_pos (show ((st.length - x.f1.toNat : Nat) : Int) ≤ (st.length : Int) by omega), Int.toNat_natCast, Option.bind_some]
        refine whole_l1 l st j x.f0 x.f1 x.f2 _ h0 h1 (by omega) _ (by rw [List.length_drop]; omega) _ 0 0 rfl (by omega) ?_
        rw [List.drop_zero, succ64 j _ hlt (by omega)]
        exact ih (j + 1) _ (by omega) (by omega) (by rw [List.length_append, List.length_take, List.length_singleton]; omega)
      · rw [if_neg (fun q => h1 q.2), decide_eq_true (show x.f1 > (st.length : Int) by omega)]
        exact no
include hl in
theorem whole_ev (hs : small l) : Ev (fun k => clause_whole.f k l) (wres (wgo l [])) := by
  unfold clause_whole.f
  exact whole_l l hl hs l.length 0 [] (by omega) (by omega) (by simp)
def rres (n : Nat) : Option (List Int) → Bool × Int
  | some [d] => if (n : Int) > 1024 then (false, 0) else (true, d)
  | _ => (false, 0)
theorem right_l1 (st : List Int) (j : Nat) (x1 : Int) (V : Bool × Int) (hst : st.length ≤ 8796093022208) :
    ∀ (m i : Nat) (b : Int), st.length - i = m → i ≤ st.length → Ev (fun k => tontineref17_Right.l0 k l (st.take (st.length - x1.toNat) ++ [wrap64 (mxs b (st.drop i) + 1)]) (wrap64 ((j : Int) + 1))) V →
    Ev (fun k => tontineref17_Right.l1 k l st (j : Int) ((st.length - x1.toNat : Nat) : Int) b (i : Int)) V := by
  intro m
  induction m with
  | zero =>
    intro i b hm hi h
    rw [List.drop_eq_nil_of_le (by omega)] at h
    refine Ev.step (fun k => by rw [tontineref17_Right.l1]) ?_
    simp only [if_neg (show ¬ (i : Int) < (st.length : Int) by omega), if_pos (show (0 : Int) ≤ ((st.length - x1.toNat : Nat) : Int) by omega), if_pos (show ((st.length - x1.toNat : Nat) : Int) ≤ (st.length : Int) by omega), Int.toNat_natCast, Option.bind_some,
      if_pos (show (st.take (st.length - x1.toNat)).length < 17592186044416 by rw [List.length_take]; omega)]
    exact h
  | succ m ih =>
    intro i b hm hi h
    have hlt : i < st.length := by omega
    rw [rdi_drop st i hlt] at h
    have := ih (i + 1) (mx b (rd st i)) (by omega) (by omega) h
    refine Ev.step (fun k => by rw [tontineref17_Right.l1]) ?_
    simp only [if_pos (show (i : Int) < (st.length : Int) by omega), if_pos (show (0 : Int) ≤ (i : Int) by omega), succ64 i _ hlt (by omega)]
    exact this
include hl in
theorem right_l (hs : small l) : ∀ (m j : Nat) (st : List Int), l.length - j = m → j ≤ l.length → st.length ≤ j → Ev (fun k => tontineref17_Right.l0 k l st (j : Int)) (rres l.length (wgo (l.drop j) st)) := by
  intro m
  induction m with
  | zero =>
    intro j st hm hj hst
    rw [List.drop_eq_nil_of_le (by omega)]
    refine Ev.step (fun k => by rw [tontineref17_Right.l0]) ?_
    simp only [if_neg (show ¬ (j : Int) < (l.length : Int) by omega)]
    match st with
    | [] => exact Ev.const
    | [d] =>
      unfold rres wgo
      by_cases h : (l.length : Int) > 1024
      · simp only [h, if_true]; exact Ev.const
      · simp only [h, if_false]; exact Ev.const
    | a :: b :: r =>
      simp only [if_neg (show ¬ (((a :: b :: r : List Int).length : Nat) : Int) = 1 by simp; omega)]
      exact Ev.const
  | succ m ih =>
    intro j st hm hj hst
    have hlt : j < l.length := by omega
    have hmem := rd_mem l j hlt
    rw [rd_drop l j hlt]
    refine Ev.step (fun k => by rw [tontineref17_Right.l0]) ?_
    generalize hx : rd_T56 l (j : Int) = x at hmem ⊢
    simp only [if_pos (show (j : Int) < (l.length : Int) by omega), if_pos (show (0 : Int) ≤ (j : Int) by omega), hx]
    refine Ev.bind (rnode_ev x.f0 x.f1 x.f2 (hs x hmem)) ?_
    unfold wgo
    have no : Ev (fun k => tontineref17_Right.j1 k l st (j : Int) true) (false, 0) := by
      refine Ev.step (fun k => by rw [tontineref17_Right.j1]) ?_
      exact Ev.const
    cases hn : nodeOK x.f0 x.f1 x.f2 with
    | false =>
      rw [if_neg (by simp)]
      exact no
    | true =>
      have h0 := nodeOK_n _ _ _ hn
      by_cases h1 : x.f1 ≤ st.length
      · rw [if_pos ⟨rfl, h1⟩, decide_eq_false (show ¬ x.f1 > (st.length : Int) by omega)]
        simp only [if_true]
        refine Ev.step (fun k => by rw [tontineref17_Right.j1]) ?_
        have hw : wrap64 ((st.length : Int) - x.f1) = ((st.length - x.f1.toNat : Nat) : Int) := by rw [w64 _ (by omega) (by omega)]; omega
        simp only [Bool.false_eq_true, if_false, if_pos (show (0 : Int) ≤ (j : Int) by omega), if_pos (show (j : Int) < (l.length : Int) by omega), hx, hw]
        refine right_l1 l st j x.f1 _ (by omega) _ _ 0 rfl (by omega) ?_
        rw [succ64 j _ hlt (by omega)]
        exact ih (j + 1) _ (by omega) (by omega) (by rw [List.length_append, List.length_take, List.length_singleton]; omega)
      · rw [if_neg (fun q => h1 q.2), decide_eq_true (show x.f1 > (st.length : Int) by omega)]
        exact no
include hl in
theorem right_ev (hs : small l) : Ev (fun k => tontineref17_Right.f k l) (rres l.length (wgo l [])) := by
  unfold tontineref17_Right.f
  exact right_l l hl hs l.length 0 [] (by omega) (by omega) (by simp)
end
/-- What CheckFormula says. -/
def checkF (l : List Nd) : Int := if l.length > 1024 then 3 else if (wres (wgo l [])).2 = true then (if mx 0 (wres (wgo l [])).1 > 64 then 173 else 0) else 5
theorem check_ev (l : List Nd) (hs : small l) : Ev (fun k => clause_CheckFormula.f k l) (checkF l) := by
  unfold clause_CheckFormula.f clause_worst.f checkF
  by_cases h : l.length > 1024
  · rw [if_pos h, decide_eq_true (show (l.length : Int) > 1024 by omega)]
    exact Ev.const
  · rw [if_neg h, decide_eq_false (show ¬ (l.length : Int) > 1024 by omega)]
    simp only [Bool.false_eq_true, if_false]
    have hw := whole_ev l (by omega) hs
    refine Ev.bind (v := _) (h := fun _ t => some t) ?_ Ev.const
    refine Ev.step (fun k => by rw [clause_worst.l0]) ?_
    simp only [show ((([l] : List (List Nd)).length : Nat) : Int) = 1 from rfl, if_pos (show (0 : Int) < 1 by omega), if_pos (show (0 : Int) ≤ 0 by omega), show rd_L23 [l] 0 = l from rfl]
    refine Ev.bind hw ?_
    cases hb : (wres (wgo l [])).2 with
    | false => exact Ev.const
    | true =>
      simp only [if_true]
      refine Ev.step (fun k => by rw [clause_worst.l0]) ?_
      simp only [show wrap64 (0 + 1) = 1 by rw [w64 _ (by omega) (by omega)]; rfl, if_neg (show ¬ (1 : Int) < 1 by omega)]
      by_cases h2 : mx 0 (wres (wgo l [])).1 > 64
      · simp only [if_pos h2]; exact Ev.const
      · simp only [if_neg h2]; exact Ev.const
theorem rcheck_ev (l : List Nd) (hs : small l) : Ev (fun k => tontineref17_CheckFormula.f k l) (checkF l) := by
  unfold tontineref17_CheckFormula.f checkF
  by_cases h : l.length > 1024
  · simp only [if_pos h, if_pos (show (l.length : Int) > 1024 by omega)]
    exact Ev.const
  · rw [if_neg h]
    simp only [if_neg (show ¬ (l.length : Int) > 1024 by omega)]
    refine Ev.bind (right_ev l (by omega) hs) ?_
    unfold rres wres
    match wgo l [] with
    | none => exact Ev.const
    | some [] => exact Ev.const
    | some [d] =>
      simp only [if_neg (show ¬ (l.length : Int) > 1024 by omega), if_true]
      by_cases h2 : d > 64
      · simp only [if_pos h2]
        rw [if_pos (show mx 0 d > 64 by unfold mx; split <;> omega)]; exact Ev.const
      · simp only [if_neg h2]
        rw [if_neg (show ¬ mx 0 d > 64 by unfold mx; split <;> omega)]; exact Ev.const
    | some (a :: b :: r) => exact Ev.const
end Go.Proofs.Ytpfnnamicbbobaa.PL
