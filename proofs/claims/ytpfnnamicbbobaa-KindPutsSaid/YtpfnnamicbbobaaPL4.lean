/- Plain law, part 4: the document's Number and Sum are numOK. -/
import Derived.Test.YtpfnnamicbbobaaPL3
namespace Go.Proofs.Ytpfnnamicbbobaa.PL
open Go.RowKit Go.Proofs.YtpfnnamicbbobaaW.PrintWords Go.Proofs.YtpfnnamicbbobaaW.PrintMore Go.Proofs.Ytpfnnamicbbobaa.HS Go.Proofs.Ytpfnnamicbbobaa.PAll
theorem bt_dig (s : ByteArray) (n : Nat) (h : n < s.size) : digB s[n] = (decide (48 ≤ bt s n) && decide (bt s n ≤ 57)) := by
  rw [bt_nat s n h]
  unfold digB
  rw [show decide (48 ≤ (s[n].toNat : Int)) = decide (48 ≤ s[n].toNat) from decide_eq_decide.mpr (by omega), show decide ((s[n].toNat : Int) ≤ 57) = decide (s[n].toNat ≤ 57) from decide_eq_decide.mpr (by omega)]
theorem bt_mid (s : ByteArray) (ds d : List UInt8) (c : UInt8) (e : s.data.toList = ds ++ c :: d) : bt s (ds.length : Int) = c.toNat := by
  have hl := lsize s
  have hlt : ds.length < s.size := by rw [← hl, e]; simp
  rw [bt_nat s _ hlt]
  have : s[ds.length] = c := by
    have h2 : s.data.toList[ds.length]? = some s[ds.length] := by rw [List.getElem?_eq_getElem (by omega)]; rfl
    rw [e, List.getElem?_append_right (Nat.le_refl _), Nat.sub_self] at h2
    simpa using h2.symm
  rw [this]
theorem digits_l (s : ByteArray) (hs : s.size ≤ 9223372036854775806) : ∀ (m n : Nat), s.size - n = m → n ≤ s.size → Ev (fun k => tontineref17_digits.l0 k s (n : Int)) ((n + spanN digB (s.data.toList.drop n) : Nat) : Int) := by
  intro m
  induction m with
  | zero =>
    intro n hm hn
    refine Ev.step (fun k => by rw [tontineref17_digits.l0]) ?_
    simp only [if_neg (show ¬ (n : Int) < (s.size : Int) by omega)]
    rw [spanN_end digB s n (by omega)]
    exact Ev.const
  | succ m ih =>
    intro n hm hn
    have hlt : n < s.size := by omega
    have hr := ih (n + 1) (by omega) (by omega)
    refine Ev.step (fun k => by rw [tontineref17_digits.l0]) ?_
    simp only [if_pos (show (n : Int) < (s.size : Int) by omega), if_pos (show (0 : Int) ≤ (n : Int) by omega), show wrap64 ((n : Int) + 1) = ((n + 1 : Nat) : Int) by rw [w64 _ (by omega) (by omega)]; rfl]
    have hd := bt_dig s n hlt
    by_cases h1 : bt s n ≥ 48
    · simp only [if_pos h1]
      by_cases h2 : bt s n ≤ 57
      · simp only [if_pos h2]
        rw [spanN_at digB s n hlt (by rw [hd, decide_eq_true h1, decide_eq_true h2]; rfl), show n + (spanN digB (s.data.toList.drop (n + 1)) + 1) = n + 1 + spanN digB (s.data.toList.drop (n + 1)) by omega]
        exact hr
      · simp only [if_neg h2]
        rw [spanN_stop digB s n hlt (by rw [hd, decide_eq_false h2, Bool.and_false])]
        exact Ev.const
    · simp only [if_neg h1]
      rw [spanN_stop digB s n hlt (by rw [hd, decide_eq_false h1, Bool.false_and])]
      exact Ev.const
theorem digits_ev (s : ByteArray) (hs : s.size ≤ 9223372036854775806) (n : Nat) (hn : n ≤ s.size) : Ev (fun k => tontineref17_digits.f k s (n : Int)) ((n + spanN digB (s.data.toList.drop n) : Nat) : Int) := by
  unfold tontineref17_digits.f
  exact digits_l s hs _ n rfl hn
/-- Figures, no 0 ahead. -/
def dgOK (l : List UInt8) : Bool := decide (l ≠ []) && !(decide (1 < l.length) && decide (l.head? = some 48))
theorem Digits_l (s : ByteArray) (hs : s.size ≤ 9223372036854775806) (ha : s.data.toList.all digB = true) : ∀ (m n : Nat), s.size - n = m → n ≤ s.size → Ev (fun k => tontinebase_Digits.l0 k s (n : Int)) (dgOK s.data.toList) := by
  intro m
  induction m with
  | zero =>
    intro n hm hn
    have hl := lsize s
    refine Ev.step (fun k => by rw [tontinebase_Digits.l0]) ?_
    simp only [if_neg (show ¬ (n : Int) < (s.size : Int) by omega), toList_data]
    by_cases h0 : 0 < s.size
    · have e : s.data.toList = s[0] :: s.data.toList.drop 1 := by simpa using drop_at s 0 h0
      simp only [if_pos (show 0 < (s.size : Int) by omega)]
      have hb := bt_nat s 0 h0
      rw [show ((0 : Nat) : Int) = 0 from rfl] at hb
      rw [hb]
      generalize s.data.toList = l at e hl ⊢
      generalize s[0] = c at e ⊢
      generalize l.drop 1 = r at e
      subst e
      simp only [List.length_cons] at hl
      by_cases h48 : c = 48
      · subst h48
        cases r with
        | nil => simp only [if_pos]; exact Ev.const
        | cons y r =>
          simp only [show ¬ ((48 : UInt8) :: y :: r = [48]) by simp, if_false, show ¬ ((48 : UInt8) :: y :: r = []) by simp]
          exact Ev.const
      · simp only [show ¬ (c :: r = [48]) by simp [h48], if_false, show ¬ (c :: r = []) by simp]
        rw [show dgOK (c :: r) = true by simp [dgOK, h48], show ((c.toNat : Int) != 48) = true from bne_iff_ne.mpr fun q => h48 (UInt8.toNat_inj.mp (by show c.toNat = 48; omega))]
        exact Ev.const
    · have : s.data.toList = [] := List.eq_nil_of_length_eq_zero (by omega)
      simp only [this, show ¬ (([] : List UInt8) = [48]) by simp, if_false, if_true]
      exact Ev.const
  | succ m ih =>
    intro n hm hn
    have hlt : n < s.size := by omega
    have hr := ih (n + 1) (by omega) (by omega)
    refine Ev.step (fun k => by rw [tontinebase_Digits.l0]) ?_
    simp only [if_pos (show (n : Int) < (s.size : Int) by omega), if_pos (show (0 : Int) ≤ (n : Int) by omega), show wrap64 ((n : Int) + 1) = ((n + 1 : Nat) : Int) by rw [w64 _ (by omega) (by omega)]; rfl]
    have hd := bt_dig s n hlt
    have : digB s[n] = true := by
      have h2 := List.all_eq_true.mp ha s[n]
      exact h2 (by have := List.getElem_mem (l := s.data.toList) (n := n) (by rw [lsize]; exact hlt); exact this)
    rw [this] at hd
    have hd2 := hd.symm
    rw [Bool.and_eq_true, decide_eq_true_eq, decide_eq_true_eq] at hd2
    simp only [if_neg (show ¬ bt s n < 48 by omega), if_neg (show ¬ bt s n > 57 by omega)]
    exact hr
theorem Digits_ev (s : ByteArray) (hs : s.size ≤ 9223372036854775806) (ha : s.data.toList.all digB = true) : Ev (fun k => tontinebase_Digits.f k s) (dgOK s.data.toList) := by
  unfold tontinebase_Digits.f
  exact Digits_l s hs ha s.size 0 (by omega) (by omega)
theorem Number_j1 (s : ByteArray) (hs : s.size ≤ 9223372036854775806) : Ev (fun k => tontineref17_Number.j1 k s) (numOK false s.data.toList) := by
  have hl := lsize s
  refine Ev.step (fun k => by rw [tontineref17_Number.j1]) ?_
  have hd := digits_ev s hs 0 (by omega)
  rw [List.drop_zero, Nat.zero_add] at hd
  refine Ev.bind hd ?_
  have hsp := spanN_le digB s.data.toList
  simp only [if_pos (show (0 : Int) ≤ ((spanN digB s.data.toList : Nat) : Int) by omega), if_pos (show ((spanN digB s.data.toList : Nat) : Int) ≤ (s.size : Int) by omega), Int.toNat_natCast]
  have he : (s.extract 0 (spanN digB s.data.toList)).data.toList = s.data.toList.takeWhile digB := by
    rw [ex_list _ _ _ (by omega), List.drop_zero, Nat.sub_zero]
    conv => lhs; rw [show s.data.toList.take (spanN digB s.data.toList) = (s.data.toList.takeWhile digB ++ s.data.toList.dropWhile digB).take (spanN digB s.data.toList) by rw [← parts_eq]]
    unfold spanN
    rw [List.take_left]
  have hD := Digits_ev (s.extract 0 (spanN digB s.data.toList)) (by rw [ex_size _ _ _ (by omega)]; omega) (by rw [he]; exact tw_all _)
  rw [he] at hD
  refine Ev.bind hD ?_
  rcases shapes s.data.toList with h | ⟨ds, d, e, h⟩ | ⟨ds, c, d, e, h, hc, h46⟩
  · have e1 := tw_app s.data.toList [] h
    rw [List.append_nil, List.takeWhile_nil, List.append_nil] at e1
    rw [(span_all _).mpr h, numOK_dig false _ h, e1, hl]
    show Ev (fun k => if dgOK s.data.toList = true then _ else _) (dgOK s.data.toList && (!false && decide (s.size ≤ 18)))
    cases dgOK s.data.toList with
    | false => simp only [Bool.false_and]; exact Ev.const
    | true =>
      simp only [if_true, if_neg (show ¬ (s.size : Int) < (s.size : Int) by omega)]
      rw [show (true && (!false && decide (s.size ≤ 18))) = decide ((s.size : Int) ≤ 18) by rw [Bool.true_and, Bool.not_false, Bool.true_and]; exact decide_eq_decide.mpr (by omega)]
      exact Ev.const
  · have e1 := tw_app ds (46 :: d) h
    rw [List.takeWhile_cons, if_neg (by decide), List.append_nil] at e1
    have hlen : s.size = ds.length + (d.length + 1) := by rw [← hl, e]; simp
    have hsn : spanN digB s.data.toList = ds.length := by rw [e]; unfold spanN; rw [e1]
    have hD2 := digits_ev s hs (ds.length + 1) (by omega)
    rw [show s.data.toList.drop (ds.length + 1) = d by rw [e, List.drop_append]; simp] at hD2
    rw [hsn]
    rw [show numOK false s.data.toList = (dgOK ds && ((decide ((46 : UInt8) = 46) && (decide (d ≠ []) && d.all digB)) && (decide (ds.length + d.length ≤ 18) && (!false || decide (d.length = 2))))) by rw [e]; exact numOK_app false ds 46 d h (by decide)]
    rw [e, e1, bt_mid s ds d 46 e]
    cases dgOK ds with
    | false => simp only [Bool.false_and]; exact Ev.const
    | true =>
      simp only [if_true, if_pos (show ((ds.length : Nat) : Int) < (s.size : Int) by omega), show (((46 : UInt8).toNat : Nat) : Int) = 46 from rfl, show wrap64 ((ds.length : Int) + 1) = ((ds.length + 1 : Nat) : Int) by rw [w64 _ (by omega) (by omega)]; rfl]
      refine Ev.bind hD2 ?_
      have := spanN_le digB d
      by_cases h3 : spanN digB d = d.length
      · simp only [if_pos (show ((ds.length + 1 + spanN digB d : Nat) : Int) = (s.size : Int) by omega), (span_all d).mp h3]
        by_cases h4 : d = []
        · subst h4
          simp only [if_pos (show ((ds.length + 1 : Nat) : Int) = (s.size : Int) by simp at hlen; omega)]
          exact Ev.const
        · have h5 : d.length ≠ 0 := fun q => h4 (List.eq_nil_of_length_eq_zero q)
          simp only [if_neg (show ¬ ((ds.length + 1 : Nat) : Int) = (s.size : Int) by omega)]
          rw [w64 _ (by omega) (by omega), decide_eq_true h4, show decide ((s.size : Int) - 1 ≤ 18) = decide (ds.length + d.length ≤ 18) from decide_eq_decide.mpr (by omega)]
          cases decide (ds.length + d.length ≤ 18) <;> exact Ev.const
      · simp only [if_neg (show ¬ ((ds.length + 1 + spanN digB d : Nat) : Int) = (s.size : Int) by omega), show d.all digB = false from Bool.eq_false_iff.mpr fun q => h3 ((span_all d).mpr q)]
        cases decide (d ≠ []) <;> exact Ev.const
  · have e1 := tw_app ds (c :: d) h
    rw [List.takeWhile_cons, if_neg (by simp [hc]), List.append_nil] at e1
    have hlen : s.size = ds.length + (d.length + 1) := by rw [← hl, e]; simp
    have hsn : spanN digB s.data.toList = ds.length := by rw [e]; unfold spanN; rw [e1]
    rw [hsn]
    rw [show numOK false s.data.toList = false by rw [e, numOK_app false ds c d h hc, decide_eq_false h46]; simp]
    rw [e, e1, bt_mid s ds d c e]
    have hcn : ¬ (c.toNat : Int) = 46 := fun q => h46 (UInt8.toNat_inj.mp (by show c.toNat = 46; omega))
    cases dgOK ds with
    | false => exact Ev.const
    | true => simp only [if_true, if_pos (show ((ds.length : Nat) : Int) < (s.size : Int) by omega), if_neg hcn]; exact Ev.const
end Go.Proofs.Ytpfnnamicbbobaa.PL
