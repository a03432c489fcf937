/- Plain law, part 3: clause.number is numOK. -/
import Derived.Test.YtpfnnamicbbobaaPL1
import Derived.Test.YtpfnnamicbbobaaPL2
namespace Go.Proofs.Ytpfnnamicbbobaa.PL
open Go.RowKit Go.Proofs.YtpfnnamicbbobaaW.PrintWords Go.Proofs.YtpfnnamicbbobaaW.PrintMore Go.Proofs.Ytpfnnamicbbobaa.HS Go.Proofs.Ytpfnnamicbbobaa.PAll
theorem lsize (s : ByteArray) : s.data.toList.length = s.size := by simp
theorem count1 (s : ByteArray) : strings_Count.f s ⟨#[46]⟩ = some ((s.data.toList.count 46 : Nat) : Int) := rfl
theorem index1 (s : ByteArray) : stringslite_Index.f s ⟨#[46]⟩ = some (Lib.indexByte s.data.toList 46) := rfl
theorem ex_list (s : ByteArray) (a b : Nat) (_ : b ≤ s.size) : (s.extract a b).data.toList = (s.data.toList.drop a).take (b - a) := by
  rw [ByteArray.data_extract, Array.toList_extract, List.extract_eq_take_drop]
theorem ex_size (s : ByteArray) (a b : Nat) (h : b ≤ s.size) : (s.extract a b).size = b - a := by
  rw [ByteArray.size_extract]; omega
theorem many_eq (s : ByteArray) (hs : s.size ≤ 9223372036854775807) : clause_many.f s = some ((s.size : Int) - (s.data.toList.count 46 : Nat)) := by
  unfold clause_many.f
  rw [count1, Option.bind_some]
  have : s.data.toList.count 46 ≤ s.size := by rw [← lsize]; exact List.count_le_length
  rw [w64 _ (by omega) (by omega)]
/-- The three answers of Cut at a point. -/
theorem cut_none (s : ByteArray) (h : Lib.indexByte s.data.toList 46 = -1) : strings_Cut.f s ⟨#[46]⟩ = some (s, ⟨#[]⟩, false) := by
  unfold strings_Cut.f stringslite_Cut.f
  rw [index1, h]; rfl
theorem cut_some (s : ByteArray) (n : Nat) (hs : s.size ≤ 9223372036854775807) (hn : n < s.size) (h : Lib.indexByte s.data.toList 46 = n) : strings_Cut.f s ⟨#[46]⟩ = some (s.extract 0 n, s.extract (n + 1) s.size, true) := by
  unfold strings_Cut.f stringslite_Cut.f
  rw [index1, h, Option.bind_some]
  have hw : wrap64 ((n : Int) + ((⟨#[46]⟩ : ByteArray).size : Int)) = ((n + 1 : Nat) : Int) := by rw [show ((⟨#[46]⟩ : ByteArray).size) = 1 from rfl, w64 _ (by omega) (by omega)]; rfl
  rw [hw, if_pos (by omega), if_pos (by omega), if_pos (by omega), if_pos (by omega), if_pos (by omega)]
  rfl
/-- What 'early' and 'pennies' say. -/
theorem early_of (s p q : ByteArray) (b : Bool) (h : strings_Cut.f s ⟨#[46]⟩ = some (p, q, b)) : clause_early.f s = some (decide (1 < p.size) && decide (p.data.toList.head? = some 48)) := by
  unfold clause_early.f
  rw [h, Option.bind_some]
  show (if (p.size : Int) > 1 then (if 0 < (p.size : Int) then some (bt p 0 == 48) else none) else some false) = _
  by_cases h1 : 1 < p.size
  · rw [if_pos (by omega), if_pos (by omega), decide_eq_true h1, Bool.true_and]
    congr 1
    have e : p.data.toList.head? = some p[0] := by
      rw [show p.data.toList = p[0] :: p.data.toList.drop 1 by simpa using drop_at p 0 (by omega)]; rfl
    rw [e, show bt p 0 = (p[0].toNat : Int) from bt_nat p 0 (by omega)]
    rw [Bool.eq_iff_iff]
    simp only [beq_iff_eq, decide_eq_true_eq, Option.some.injEq]
    constructor
    · intro e; exact UInt8.toNat_inj.mp (by simpa using (show p[0].toNat = 48 by omega))
    · intro e; rw [e]; rfl
  · rw [if_neg (by omega), decide_eq_false h1, Bool.false_and]
theorem pennies_of (s p q : ByteArray) (b : Bool) (h : strings_Cut.f s ⟨#[46]⟩ = some (p, q, b)) : clause_pennies.f s = some (b && decide (q.size = 2)) := by
  unfold clause_pennies.f
  rw [h, Option.bind_some]
  cases b with
  | true => rw [if_pos rfl, Bool.true_and]; congr 1; rw [Bool.eq_iff_iff]; simp only [beq_iff_eq, decide_eq_true_eq]; omega
  | false => rfl
theorem amiss_of (s p q : ByteArray) (b sum : Bool) (hs : s.size ≤ 9223372036854775807) (h : strings_Cut.f s ⟨#[46]⟩ = some (p, q, b)) :
    ∃ e, clause_amiss.f s sum = some e ∧ (e == 0) = (decide ((s.size : Int) - (s.data.toList.count 46 : Nat) ≤ 18) && (!(decide (1 < p.size) && decide (p.data.toList.head? = some 48)) && (!sum || (b && decide (q.size = 2))))) := by
  unfold clause_amiss.f
  rw [many_eq s hs, Option.bind_some, early_of s p q b h, Option.bind_some, pennies_of s p q b h]
  by_cases h1 : (s.size : Int) - (s.data.toList.count 46 : Nat) > 18
  · rw [if_pos h1]
    exact ⟨_, rfl, by rw [decide_eq_false (by omega)]; rfl⟩
  · rw [if_neg h1, decide_eq_true (show (s.size : Int) - (s.data.toList.count 46 : Nat) ≤ 18 by omega), Bool.true_and]
    cases (decide (1 < p.size) && decide (p.data.toList.head? = some 48)) with
    | true => exact ⟨_, rfl, rfl⟩
    | false =>
      rw [if_neg (by decide)]
      cases sum with
      | false => exact ⟨_, rfl, rfl⟩
      | true =>
        rw [if_pos rfl, Option.bind_some]
        cases (b && decide (q.size = 2)) with
        | true => exact ⟨_, rfl, rfl⟩
        | false => exact ⟨_, rfl, rfl⟩
theorem number_eq (s : ByteArray) (sum : Bool) (hs : s.size ≤ 9223372036854775807) : clause_number.f s sum = some (numOK sum s.data.toList) := by
  have hl := lsize s
  unfold clause_number.f clause_figures.f
  rw [if_pos hs, Option.bind_some]
  rcases shapes s.data.toList with h | ⟨ds, d, e, h⟩ | ⟨ds, c, d, e, h, hc, h46⟩
  · have hf : figs s.data.toList = s.size := by
      have := figs_app s.data.toList [] h rfl
      rw [List.append_nil] at this
      rw [this, hl]; simp
    rw [hf, if_pos rfl, numOK_dig sum _ h]
    by_cases h0 : 0 < s.size
    · rw [if_neg (fun e => (size_nil s).mp e h0)]
      obtain ⟨x, hx, hx0⟩ := amiss_of s s ⟨#[]⟩ false sum hs (cut_none s (index_dig _ h))
      rw [hx, Option.bind_some, hx0, count_dig _ h, decide_eq_true (show s.data.toList ≠ [] by intro e; rw [e] at hl; simp at hl; omega)]
      congr 1
      rw [hl, show decide ((s.size : Int) - ((0 : Nat) : Int) ≤ 18) = decide (s.size ≤ 18) from decide_eq_decide.mpr (by omega)]
      cases (decide (1 < s.size) && decide (s.data.toList.head? = some 48)) <;> cases decide (s.size ≤ 18) <;> cases sum <;> rfl
    · rw [if_pos ((size_nil s).mpr h0), decide_eq_false (show ¬ s.data.toList ≠ [] from fun q => q (List.eq_nil_of_length_eq_zero (by omega)))]
      rfl
  · have hlen : s.size = ds.length + (d.length + 1) := by rw [← hl, e]; simp
    have hf : figs (ds ++ 46 :: d) = if 0 < ds.length then (if 0 < spanN digB d then ds.length + (spanN digB d + 1) else ds.length) else ds.length := by
      rw [figs_app ds (46 :: d) h rfl]
      by_cases q : 0 < ds.length
      · rw [if_pos ⟨q, rfl⟩, if_pos q]; rfl
      · rw [if_neg (fun z => q z.1), if_neg q]
    rw [e, hf, numOK_app sum ds 46 d h (by decide)]
    by_cases h1 : 0 < ds.length
    · rw [if_pos h1]
      by_cases h2 : 0 < spanN digB d
      · rw [if_pos h2]
        have hd : d ≠ [] := fun q => by rw [q] at h2; exact absurd h2 (by decide)
        by_cases h3 : spanN digB d = d.length
        · rw [if_pos (by omega), if_neg (fun q => (size_nil s).mp q (by omega))]
          have hi := index_dot ds d h
          rw [← e] at hi
          obtain ⟨x, hx, hx0⟩ := amiss_of s _ _ true sum hs (cut_some s ds.length hs (by omega) hi)
          rw [hx, Option.bind_some, hx0, ex_size _ _ _ (by omega), ex_size _ _ _ (Nat.le_refl _), ex_list _ _ _ (by omega), e, List.count_append, count_dig ds h, List.count_cons, count_dig d ((span_all d).mp h3)]
          rw [show (List.drop 0 (ds ++ 46 :: d)).take (ds.length - 0) = ds by simp]
          rw [decide_eq_true (show ds ≠ [] by intro q; rw [q] at h1; exact absurd h1 (by decide)), decide_eq_true hd, (span_all d).mp h3]
          congr 1
          rw [show decide ((s.size : Int) - ((0 + (0 + if (46 : UInt8) == 46 then 1 else 0) : Nat) : Int) ≤ 18) = decide (ds.length + d.length ≤ 18) from decide_eq_decide.mpr (by simp; omega), show decide (1 < ds.length - 0) = decide (1 < ds.length) from rfl, show decide (s.size - (ds.length + 1) = 2) = decide (d.length = 2) from decide_eq_decide.mpr (by omega)]
          cases (decide (1 < ds.length) && decide (ds.head? = some 48)) <;> cases decide (ds.length + d.length ≤ 18) <;> cases sum <;> cases decide (d.length = 2) <;> rfl
        · have := spanN_le digB d
          rw [if_neg (by omega)]
          rw [show d.all digB = false from Bool.eq_false_iff.mpr fun q => h3 ((span_all d).mpr q)]
          simp
      · rw [if_neg h2, if_neg (by omega)]
        have : (decide (d ≠ []) && d.all digB) = false := by
          cases hq : (decide (d ≠ []) && d.all digB) with
          | false => rfl
          | true =>
            rw [Bool.and_eq_true, decide_eq_true_eq] at hq
            have := (span_all d).mpr hq.2
            have h9 : d.length ≠ 0 := fun q => hq.1 (List.eq_nil_of_length_eq_zero q)
            omega
        rw [this]; simp
    · rw [if_neg h1, if_neg (by omega), decide_eq_false (show ¬ ds ≠ [] from fun q => q (List.eq_nil_of_length_eq_zero (by omega)))]
      rfl
  · have hlen : s.size = ds.length + (d.length + 1) := by rw [← hl, e]; simp
    have hf := figs_app ds (c :: d) h (by rw [List.takeWhile_cons, if_neg (by simp [hc])])
    rw [if_neg (by rintro ⟨_, q⟩; exact h46 (by simpa using q))] at hf
    rw [e, hf, if_neg (by omega), numOK_app sum ds c d h hc, decide_eq_false h46]
    simp
end Go.Proofs.Ytpfnnamicbbobaa.PL
