/- Plain law, part 5: texts of nodes: what the program says and what the document says. -/
import Derived.Test.YtpfnnamicbbobaaPL4
namespace Go.Proofs.Ytpfnnamicbbobaa.PL
set_option linter.unusedSimpArgs false
open Go.RowKit Go.Proofs.YtpfnnamicbbobaaW.PrintWords Go.Proofs.YtpfnnamicbbobaaW.PrintMore Go.Proofs.Ytpfnnamicbbobaa.HS Go.Proofs.Ytpfnnamicbbobaa.PAll
/-- Without a % at the end. -/
def strip (s : ByteArray) : ByteArray := if 0 < s.size ∧ bt s ((s.size : Int) - 1) = 37 then s.extract 0 (s.size - 1) else s
theorem strip_le (s : ByteArray) : (strip s).size ≤ s.size := by
  unfold strip
  split
  · rw [ex_size _ _ _ (by omega)]; omega
  · exact Nat.le_refl _
theorem one_list (c x : UInt8) : (([c] : List UInt8) == [x]) = decide ((c.toNat : Int) = x.toNat) := by
  rw [Bool.eq_iff_iff, decide_eq_true_eq, beq_iff_eq]
  constructor
  · intro h; cases h; rfl
  · intro h; rw [UInt8.toNat_inj.mp (show c.toNat = x.toNat by omega)]
theorem trim_eq (s : ByteArray) (hs : s.size ≤ 9223372036854775806) : strings_TrimSuffix.f s ⟨#[37]⟩ = some (strip s) := by
  unfold strings_TrimSuffix.f stringslite_TrimSuffix.f stringslite_HasSuffix.f
  have h1 : ((⟨#[37]⟩ : ByteArray).size : Int) = 1 := rfl
  rw [h1]
  by_cases h0 : 0 < s.size
  · have hw : wrap64 ((s.size : Int) - 1) = ((s.size - 1 : Nat) : Int) := by rw [w64 _ (by omega) (by omega)]; omega
    rw [hw, if_pos (by omega), if_pos (by omega), if_pos (by omega), if_pos (by omega), if_pos (by omega), Int.toNat_natCast, Option.bind_some]
    have e : (s.extract (s.size - 1) s.size).toList = [s[s.size - 1]] := by
      rw [toList_data, ex_list _ _ _ (Nat.le_refl _), drop_at s (s.size - 1) (by omega), show s.size - (s.size - 1) = 1 by omega]; rfl
    rw [e, show (⟨#[37]⟩ : ByteArray).toList = [37] by rw [toList_data], one_list]
    have hb : bt s ((s.size : Int) - 1) = (s[s.size - 1].toNat : Int) := by rw [show ((s.size : Int) - 1) = ((s.size - 1 : Nat) : Int) by omega, bt_nat s (s.size - 1) (by omega)]
    rw [show (((37 : UInt8).toNat : Nat) : Int) = 37 from rfl]
    by_cases h2 : (s[s.size - 1].toNat : Int) = 37
    · have hst : strip s = s.extract 0 (s.size - 1) := if_pos ⟨h0, hb.trans h2⟩
      rw [hst, decide_eq_true h2]; rfl
    · have hst : strip s = s := if_neg (fun q => h2 (hb.symm.trans q.2))
      rw [hst, decide_eq_false h2]; rfl
  · rw [if_neg (by omega)]
    have hst : strip s = s := if_neg (fun q => h0 q.1)
    rw [hst]; rfl
theorem NumberF_ev (s : ByteArray) (hs : s.size ≤ 9223372036854775806) : Ev (fun k => tontineref17_Number.f k s) (numOK false (strip s).data.toList) := by
  unfold tontineref17_Number.f
  have hj := Number_j1 (strip s) (Nat.le_trans (strip_le s) hs)
  by_cases h0 : 0 < s.size
  · have hw : wrap64 ((s.size : Int) - 1) = ((s.size - 1 : Nat) : Int) := by rw [w64 _ (by omega) (by omega)]; omega
    simp only [if_neg (fun e => (size_nil s).mp e h0), hw, if_pos (show (0 : Int) ≤ ((s.size - 1 : Nat) : Int) by omega), if_pos (show ((s.size - 1 : Nat) : Int) < (s.size : Int) by omega)]
    refine Ev.step (fun k => by rw [tontineref17_Number.j0]) ?_
    have hb : bt s ((s.size : Int) - 1) = bt s ((s.size - 1 : Nat) : Int) := by rw [show ((s.size : Int) - 1) = ((s.size - 1 : Nat) : Int) by omega]
    by_cases h2 : bt s ((s.size - 1 : Nat) : Int) = 37
    · have hst : strip s = s.extract 0 (s.size - 1) := if_pos ⟨h0, hb.trans h2⟩
      rw [hst] at hj ⊢
      simp only [h2, beq_self_eq_true, if_true, hw, if_pos (show (0 : Int) ≤ ((s.size - 1 : Nat) : Int) by omega), if_pos (show ((s.size - 1 : Nat) : Int) ≤ (s.size : Int) by omega), Int.toNat_natCast]
      exact hj
    · have hst : strip s = s := if_neg (fun q => h2 (hb.symm.trans q.2))
      rw [hst] at hj ⊢
      simp only [beq_eq_false_iff_ne.mpr h2, show ¬ (false = true) by decide, if_false]
      exact hj
  · simp only [if_pos ((size_nil s).mpr h0)]
    refine Ev.step (fun k => by rw [tontineref17_Number.j0]) ?_
    have hst : strip s = s := if_neg (fun q => h0 q.1)
    rw [hst] at hj ⊢
    exact hj
/-- A sum, as it is written. -/
def sumOK (l : List UInt8) : Bool := decide (l.head? = some 36) && numOK true l.tail
theorem head_bt (s : ByteArray) (h0 : 0 < s.size) (c : UInt8) : decide (s.data.toList.head? = some c) = decide (bt s 0 = c.toNat) := by
  have e : s.data.toList.head? = some s[0] := by
    rw [show s.data.toList = s[0] :: s.data.toList.drop 1 by simpa using drop_at s 0 h0]; rfl
  rw [e, show bt s 0 = (s[0].toNat : Int) from bt_nat s 0 h0]
  exact decide_eq_decide.mpr ⟨fun q => by rw [Option.some.inj q], fun q => by rw [UInt8.toNat_inj.mp (show s[0].toNat = c.toNat by omega)]⟩
theorem cutp_eq (s : ByteArray) : strings_CutPrefix.f s ⟨#[36]⟩ = some (if s.data.toList.head? = some 36 then (s.extract 1 s.size, true) else (s, false)) := by
  unfold strings_CutPrefix.f stringslite_CutPrefix.f stringslite_HasPrefix.f
  have h1 : ((⟨#[36]⟩ : ByteArray).size : Int) = 1 := rfl
  rw [h1]
  by_cases h0 : 0 < s.size
  · rw [if_pos (by omega), if_pos (by omega), if_pos (by omega), if_pos (by omega), Option.bind_some]
    have e : (s.extract 0 ((1 : Int).toNat)).toList = [s[0]] := by
      rw [toList_data, ex_list _ _ _ (by show 1 ≤ s.size; omega), drop_at s 0 (by omega)]; rfl
    rw [e, show (⟨#[36]⟩ : ByteArray).toList = [36] by rw [toList_data], one_list]
    have hd := head_bt s h0 36
    rw [show bt s 0 = (s[0].toNat : Int) from bt_nat s 0 h0] at hd
    rw [← hd]
    by_cases h2 : s.data.toList.head? = some 36
    · rw [if_pos h2, decide_eq_true h2, if_pos rfl, if_pos (by omega)]; rfl
    · rw [if_neg h2, decide_eq_false h2]; rfl
  · rw [if_neg (by omega), Option.bind_some]
    have : s.data.toList = [] := List.eq_nil_of_length_eq_zero (by rw [lsize]; omega)
    rw [this]; rfl
theorem Sum_ev (s : ByteArray) (hs : s.size ≤ 9223372036854775806) : Ev (fun k => tontineref17_Sum.f k s) (sumOK s.data.toList) := by
  unfold tontineref17_Sum.f
  have hl := lsize s
  unfold sumOK
  by_cases h5 : (s.size : Int) < 5
  · simp only [if_pos h5]
    refine Ev.step (fun k => by rw [tontineref17_Sum.j0]) ?_
    simp only [if_true]
    have : (decide (s.data.toList.head? = some 36) && numOK true s.data.toList.tail) = false := by
      cases hx : s.data.toList with
      | nil => rfl
      | cons c t =>
        rw [hx] at hl
        simp only [List.length_cons] at hl
        rw [List.tail_cons]
        have : numOK true t = false := by
          rcases shapes t with h | ⟨ds, d, e, h⟩ | ⟨ds, c, d, e, h, hc, h46⟩
          · rw [numOK_dig true t h]; simp
          · rw [e, numOK_app true ds 46 d h (by decide)]
            rw [e] at hl
            simp only [List.length_append, List.length_cons] at hl
            by_cases h1 : ds = []
            · rw [decide_eq_false (fun q => q h1)]; rfl
            · have : ds.length ≠ 0 := fun q => h1 (List.eq_nil_of_length_eq_zero q)
              rw [show decide (d.length = 2) = false from decide_eq_false (by omega)]; simp
          · rw [e, numOK_app true ds c d h hc, decide_eq_false h46]; simp
        rw [this, Bool.and_false]
    rw [this]
    exact Ev.const
  · have h0 : 0 < s.size := by omega
    simp only [if_neg h5, if_pos (show 0 < (s.size : Int) by omega)]
    refine Ev.step (fun k => by rw [tontineref17_Sum.j0]) ?_
    rw [head_bt s h0 36, show (((36 : UInt8).toNat : Nat) : Int) = 36 from rfl]
    by_cases h36 : bt s 0 = 36
    · simp only [h36, bne_self_eq_false, show ¬ (false = true) by decide, if_false, decide_true, Bool.true_and]
      have hx : s.data.toList = s[0] :: s.data.toList.drop 1 := by simpa using drop_at s 0 h0
      obtain ⟨t, ht⟩ : ∃ t, t = s.data.toList.drop 1 := ⟨_, rfl⟩
      rw [show s.data.toList.tail = t by rw [ht, List.drop_one]]
      have htl : t.length + 1 = s.size := by rw [ht, List.length_drop, hl]; omega
      have hd := digits_ev s hs 1 (by omega)
      rw [← ht] at hd
      have hsp := spanN_le digB t
      refine Ev.bind (show Ev (fun k => tontineref17_digits.f k s 1) _ from hd) ?_
      simp only [if_pos (show (1 : Int) ≤ ((1 + spanN digB t : Nat) : Int) by omega), if_pos (show ((1 + spanN digB t : Nat) : Int) ≤ (s.size : Int) by omega), Int.toNat_natCast]
      have he : (s.extract 1 (1 + spanN digB t)).data.toList = t.takeWhile digB := by
        rw [ex_list _ _ _ (by omega), ← ht, show 1 + spanN digB t - 1 = (t.takeWhile digB).length by unfold spanN; omega]
        conv => lhs; rw [show t.take (t.takeWhile digB).length = (t.takeWhile digB ++ t.dropWhile digB).take (t.takeWhile digB).length by rw [← parts_eq]]
        rw [List.take_left]
      have hD := Digits_ev (s.extract 1 (1 + spanN digB t)) (by rw [ex_size _ _ _ (by omega)]; omega) (by rw [he]; exact tw_all _)
      rw [he] at hD
      refine Ev.bind hD ?_
      have hw3 : wrap64 ((s.size : Int) - 3) = (s.size : Int) - 3 := w64 _ (by omega) (by omega)
      simp only [hw3]
      rcases shapes t with h | ⟨ds, d, e, h⟩ | ⟨ds, c, d, e, h, hc, h46⟩
      · rw [(span_all _).mpr h, show numOK true t = false by rw [numOK_dig true t h]; simp]
        simp only [if_neg (show ¬ ((1 + t.length : Nat) : Int) = (s.size : Int) - 3 by omega)]
        cases dgOK (t.takeWhile digB) <;> exact Ev.const
      · have e1 := tw_app ds (46 :: d) h
        rw [List.takeWhile_cons, if_neg (by decide), List.append_nil] at e1
        have hlen : t.length = ds.length + (d.length + 1) := by rw [e]; simp
        have hsn : spanN digB t = ds.length := by rw [e]; unfold spanN; rw [e1]
        have hb : bt s ((1 + ds.length : Nat) : Int) = 46 := by
          have := bt_mid s (s[0] :: ds) d 46 (by rw [hx, ← ht, e]; rfl)
          rw [List.length_cons] at this
          rw [show 1 + ds.length = ds.length + 1 by omega, this]; rfl
        have hD2 := digits_ev s hs (1 + ds.length + 1) (by omega)
        rw [show s.data.toList.drop (1 + ds.length + 1) = d by rw [show 1 + ds.length + 1 = 1 + (ds.length + 1) by omega, ← List.drop_drop, ← ht, e, List.drop_append]; simp] at hD2
        rw [hsn]
        rw [show numOK true t = (dgOK ds && ((decide ((46 : UInt8) = 46) && (decide (d ≠ []) && d.all digB)) && (decide (ds.length + d.length ≤ 18) && (!true || decide (d.length = 2))))) by rw [e]; exact numOK_app true ds 46 d h (by decide)]
        rw [e, e1]
        cases dgOK ds with
        | false => simp only [Bool.false_and]; exact Ev.const
        | true =>
          simp only [if_true]
          by_cases h2 : d.length = 2
          · simp only [if_pos (show ((1 + ds.length : Nat) : Int) = (s.size : Int) - 3 by omega), if_pos (show (0 : Int) ≤ ((1 + ds.length : Nat) : Int) by omega), if_pos (show ((1 + ds.length : Nat) : Int) < (s.size : Int) by omega), hb, if_true, show wrap64 (((1 + ds.length : Nat) : Int) + 1) = ((1 + ds.length + 1 : Nat) : Int) by rw [w64 _ (by omega) (by omega)]; rfl]
            refine Ev.bind hD2 ?_
            have := spanN_le digB d
            have h4 : d ≠ [] := fun q => by rw [q] at h2; cases h2
            rw [w64 ((s.size : Int) - 2) (by omega) (by omega), decide_eq_true h2, decide_eq_true h4]
            by_cases h3 : spanN digB d = d.length
            · simp only [if_pos (show ((1 + ds.length + 1 + spanN digB d : Nat) : Int) = (s.size : Int) by omega), (span_all d).mp h3]
              rw [show decide ((s.size : Int) - 2 ≤ 18) = decide (ds.length + d.length ≤ 18) from decide_eq_decide.mpr (by omega)]
              cases decide (ds.length + d.length ≤ 18) <;> exact Ev.const
            · simp only [if_neg (show ¬ ((1 + ds.length + 1 + spanN digB d : Nat) : Int) = (s.size : Int) by omega), show d.all digB = false from Bool.eq_false_iff.mpr fun q => h3 ((span_all d).mpr q)]
              exact Ev.const
          · simp only [if_neg (show ¬ ((1 + ds.length : Nat) : Int) = (s.size : Int) - 3 by omega)]
            rw [decide_eq_false h2]
            simp only [Bool.not_true, Bool.false_or, Bool.and_false]
            exact Ev.const
      · have e1 := tw_app ds (c :: d) h
        rw [List.takeWhile_cons, if_neg (by simp [hc]), List.append_nil] at e1
        have hlen : t.length = ds.length + (d.length + 1) := by rw [e]; simp
        have hsn : spanN digB t = ds.length := by rw [e]; unfold spanN; rw [e1]
        have hb : bt s ((1 + ds.length : Nat) : Int) = c.toNat := by
          have := bt_mid s (s[0] :: ds) d c (by rw [hx, ← ht, e]; rfl)
          rw [List.length_cons] at this
          rw [show 1 + ds.length = ds.length + 1 by omega, this]
        have hcn : ¬ (c.toNat : Int) = 46 := fun q => h46 (UInt8.toNat_inj.mp (by show c.toNat = 46; omega))
        rw [hsn, show numOK true t = false by rw [e, numOK_app true ds c d h hc, decide_eq_false h46]; simp]
        rw [e, e1]
        cases dgOK ds with
        | false => exact Ev.const
        | true =>
          simp only [if_true]
          by_cases h2 : ((1 + ds.length : Nat) : Int) = (s.size : Int) - 3
          · simp only [if_pos h2, if_pos (show (0 : Int) ≤ ((1 + ds.length : Nat) : Int) by omega), if_pos (show ((1 + ds.length : Nat) : Int) < (s.size : Int) by omega), hb, if_neg hcn]
            exact Ev.const
          · simp only [if_neg h2]
            exact Ev.const
    · simp only [bne_iff_ne.mpr h36, if_true, decide_eq_false h36, Bool.false_and]
      exact Ev.const
end Go.Proofs.Ytpfnnamicbbobaa.PL
