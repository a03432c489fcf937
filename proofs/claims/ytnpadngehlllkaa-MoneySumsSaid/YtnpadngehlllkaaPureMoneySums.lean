/- MoneySums: for every slice of ints money.Sum answers as the document's Sum, the slice is left as it was, and 1 + 2 is 3. No condition. -/
import Derived.Test.YtnpadngehlllkaaPMoneySumsx1
namespace Go.Proofs.Ytnpadngehlllkaa.Pure
open Go.RowKit Go.Proofs.Ytnpadngehlllkaa.PMoneySums Go.Proofs.YtnpadngehlllkaaW.PrintWords Go.Proofs.YtnpadngehlllkaaW.PrintLast

theorem wrap_in {i : Int} (h0 : -9223372036854775808 ≤ i) (h1 : i ≤ 9223372036854775807) : wrap64 i = i := by
  unfold wrap64; omega
theorem is_some (c : Int) : ∃ b, money_amount.f c = some b ∧ tontineref06_Is.f c = some b := by
  unfold money_amount.f tontineref06_Is.f
  split <;> exact ⟨_, rfl, rfl⟩
theorem sums_alike (xs : List Int) (hn : xs.length * 8 ≤ 140737488351232) (d : Nat) : ∀ (i s : Int), 0 ≤ i → i ≤ xs.length → (xs.length : Int) - i = d →
    ∃ r, (∀ k, d < k → money_Sum.l0 k s xs (xs.length : Int) i = some r) ∧ (∀ k, d < k → tontineref06_Sum.l0 k xs s i = some r) := by
  induction d with
  | zero =>
    intro i s h0 h1 hd
    obtain ⟨b, e1, e2⟩ := is_some s
    refine ⟨if b = true then (s, 0) else (0, 6), ?_, ?_⟩
    · intro k hk
      obtain ⟨k, rfl⟩ : ∃ m, k = m + 1 := ⟨k - 1, by omega⟩
      simp only [money_Sum.l0]
      rw [if_neg (by omega), e1]
      cases b <;> rfl
    · intro k hk
      obtain ⟨k, rfl⟩ : ∃ m, k = m + 1 := ⟨k - 1, by omega⟩
      simp only [tontineref06_Sum.l0]
      rw [if_neg (by omega), e2]
      cases b <;> rfl
  | succ d ih =>
    intro i s h0 h1 hd
    obtain ⟨b, e1, e2⟩ := is_some (rd xs i)
    have hw : wrap64 (i + 1) = i + 1 := wrap_in (by omega) (by omega)
    cases b with
    | true =>
      obtain ⟨r, q1, q2⟩ := ih (i + 1) (wrap64 (s + rd xs i)) (by omega) (by omega) (by omega)
      refine ⟨r, ?_, ?_⟩
      · intro k hk
        obtain ⟨k, rfl⟩ : ∃ m, k = m + 1 := ⟨k - 1, by omega⟩
        simp only [money_Sum.l0]
        rw [if_pos (by omega), if_pos h0, if_pos (by omega), e1]
        simp only [Option.bind_some, if_true, hw]
        exact q1 k (by omega)
      · intro k hk
        obtain ⟨k, rfl⟩ : ∃ m, k = m + 1 := ⟨k - 1, by omega⟩
        simp only [tontineref06_Sum.l0]
        rw [if_pos (by omega), if_pos h0, e2]
        simp only [Option.bind_some, if_true, hw]
        exact q2 k (by omega)
    | false =>
      refine ⟨(0, 6), ?_, ?_⟩
      · intro k hk
        obtain ⟨k, rfl⟩ : ∃ m, k = m + 1 := ⟨k - 1, by omega⟩
        simp only [money_Sum.l0]
        rw [if_pos (by omega), if_pos h0, if_pos (by omega), e1]
        rfl
      · intro k hk
        obtain ⟨k, rfl⟩ : ∃ m, k = m + 1 := ⟨k - 1, by omega⟩
        simp only [tontineref06_Sum.l0]
        rw [if_pos (by omega), if_pos h0, e2]
        rfl
theorem ints_same (xs : List Int) (hn : xs.length * 8 ≤ 140737488351232) (d : Nat) : ∀ (i : Int), 0 ≤ i → i ≤ xs.length → (xs.length : Int) - i = d →
    ∀ k, d < k → tontinelaw06_ints.l0 k xs xs i = some true := by
  induction d with
  | zero =>
    intro i h0 h1 hd k hk
    obtain ⟨k, rfl⟩ : ∃ m, k = m + 1 := ⟨k - 1, by omega⟩
    simp only [tontinelaw06_ints.l0]
    rw [if_neg (by omega)]
  | succ d ih =>
    intro i h0 h1 hd k hk
    obtain ⟨k, rfl⟩ : ∃ m, k = m + 1 := ⟨k - 1, by omega⟩
    simp only [tontinelaw06_ints.l0]
    rw [if_pos (by omega), if_pos h0, if_pos (by omega), if_pos True.intro, wrap_in (by omega) (by omega)]
    exact ih (i + 1) (by omega) (by omega) (by omega) k (by omega)
theorem one_two (k : Nat) (hk : 3 ≤ k) : money_Sum.f k [1, 2] = some (3, 0) := by
  obtain ⟨k, rfl⟩ : ∃ m, k = m + 3 := ⟨k - 3, by omega⟩
  have a1 : money_amount.f 1 = some true := rfl
  have a2 : money_amount.f 2 = some true := rfl
  have a3 : money_amount.f 3 = some true := rfl
  have r0 : rd [1, 2] 0 = 1 := rfl
  have r1 : rd [1, 2] 1 = 2 := rfl
  have w1 : wrap64 (0 + 1) = 1 := by unfold wrap64; decide
  have w2 : wrap64 (1 + 2) = 3 := by unfold wrap64; decide
  have w3 : wrap64 (1 + 1) = 2 := by unfold wrap64; decide
  unfold money_Sum.f
  rw [if_neg (by simp)]
  simp only [money_Sum.l0]
  rw [if_pos (by decide), if_pos (by decide), if_pos (by decide), r0, a1]
  simp only [Option.bind_some, if_true, w1]
  rw [if_pos (by decide), if_pos (by decide), if_pos (by decide), r1, a2]
  simp only [Option.bind_some, if_true, w2, w3]
  rw [if_neg (by decide), a3]
  rfl
theorem MoneySums : tontinelaw06_MoneySums.Pure := by
  intro xs _ hn _
  obtain ⟨r, q1, q2⟩ := sums_alike xs hn xs.length 0 0 (by omega) (by omega) (by omega)
  refine ⟨xs.length + 3, ?_⟩
  have e0 : ([] : List Int) ++ xs = xs := rfl
  unfold tontinelaw06_MoneySums.f
  simp only [Option.bind_some, e0]
  rw [if_pos (by simp; omega)]
  have eM : ∃ r', money_Sum.f (xs.length + 3) xs = some r' ∧ tontineref06_Sum.f (xs.length + 3) xs = some r' := by
    unfold money_Sum.f tontineref06_Sum.f
    by_cases h : (xs.length : Int) > 4096
    · exact ⟨_, by rw [if_pos h], by rw [if_pos h]⟩
    · exact ⟨r, by rw [if_neg h]; exact q1 _ (by omega), by rw [if_neg h]; exact q2 _ (by omega)⟩
  obtain ⟨r', m1, m2⟩ := eM
  rw [m1, m2, one_two _ (by omega)]
  simp only [Option.bind_some, if_true]
  have eI : tontinelaw06_ints.f (xs.length + 3) xs xs = some true := by
    unfold tontinelaw06_ints.f
    rw [if_pos rfl]
    exact ints_same xs hn xs.length 0 (by omega) (by omega) (by omega) _ (by omega)
  rw [eI]
  rfl

end Go.Proofs.Ytnpadngehlllkaa.Pure
