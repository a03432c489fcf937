/- Contracts typed by hand: clause.span at its byte classes, figures, named. -/
import Derived.Test.YtaogejkmkalnlaaProg
import Derived.Test.YtaogejkmkalnlaaHS
import Derived.Lib.Strings
namespace Go.Proofs.Ytaogejkmkalnlaa.HA
open Go.RowKit Go.Proofs.Ytaogejkmkalnlaa.HS
set_option maxHeartbeats 400000 in
theorem digit_any (c : UInt8) (w : World) : Calls Try.prog 33 #[.int .u8 (c.toNat : Int)] w fun e w' => e = .returned (.bool (digB c)) ∧ w = w' := by
  go_enter Try.func33, Try.ntmps33
  go_wp2
  all_goals
    go_ret
    refine ⟨ret_bool ?_, rfl⟩
    unfold digB
    rw [Bool.eq_iff_iff]
    simp
    omega
set_option maxHeartbeats 400000 in
theorem letter_any (c : UInt8) (w : World) : Calls Try.prog 26 #[.int .u8 (c.toNat : Int)] w fun e w' => e = .returned (.bool (letB c)) ∧ w = w' := by
  go_enter Try.func26, Try.ntmps26
  go_wp2
  all_goals
    go_ret
    refine ⟨ret_bool ?_, rfl⟩
    unfold letB
    rw [Bool.eq_iff_iff]
    simp
    omega
set_option maxHeartbeats 400000 in
theorem inner_any (c : UInt8) (w : World) : Calls Try.prog 28 #[.int .u8 (c.toNat : Int)] w fun e w' => e = .returned (.bool (innB c)) ∧ w = w' := by
  have hl := letter_any c
  have hd := digit_any c
  by_cases h1 : letB c = true
  · have h2 : innB c = true := by simp [innB, h1]
    go_enter Try.func28, Try.ntmps28
    go_wp2_with (first | (go_at_call 26; refine (letter_any _ _).mono ?_; rintro e w' ⟨rfl, rfl⟩) | (go_at_call 33; refine (digit_any _ _).mono ?_; rintro e w' ⟨rfl, rfl⟩))
    go_ret
    exact ⟨ret_bool h2.symm, rfl⟩
  · have h1' : letB c = false := by simpa using h1
    clear h1
    by_cases h3 : digB c = true
    · have h2 : innB c = true := by simp [innB, h3]
      go_enter Try.func28, Try.ntmps28
      go_wp2_with (first | (go_at_call 26; refine (letter_any _ _).mono ?_; rintro e w' ⟨rfl, rfl⟩) | (go_at_call 33; refine (digit_any _ _).mono ?_; rintro e w' ⟨rfl, rfl⟩))
      go_ret
      exact ⟨ret_bool h2.symm, rfl⟩
    · have h3' : digB c = false := by simpa using h3
      clear h3
      have h2 : Hid (innB c = decide (c.toNat = 95)) := by simp [innB, h1', h3', Hid]
      go_enter Try.func28, Try.ntmps28
      go_wp2_with (first | (go_at_call 26; refine (letter_any _ _).mono ?_; rintro e w' ⟨rfl, rfl⟩) | (go_at_call 33; refine (digit_any _ _).mono ?_; rintro e w' ⟨rfl, rfl⟩))
      go_ret
      refine ⟨ret_bool ?_, rfl⟩
      rw [h2.out, Bool.eq_iff_iff]
      simp
      omega
set_option maxHeartbeats 400000 in
theorem span_digit (s : ByteArray) (w : World) (hs : s.size ≤ 9223372036854775807) :
    Calls Try.prog 27 #[.string s, .func (.func 33) #[] #[]] w fun e w' => e = .returned (.int .i64 (spanN digB s.data.toList : Nat)) ∧ w = w' := by
  go_enter Try.func27, Try.ntmps27
  go_wp2_with fail
  go_loop [5] (fun n => ∃ k : Nat, k ≤ s.size ∧ n = .int .i64 k ∧ spanN digB s.data.toList = k + spanN digB (s.data.toList.drop k)) (fun n => s.size - (intOf n).toNat)
  case atStart => exact ⟨0, Nat.zero_le _, rfl, by simp⟩
  case round =>
    obtain ⟨k, hk, rfl, hsp⟩ := hrel
    have HSP := Lib.hid hsp; clear hsp
    by_cases hlt : k < s.size
    · by_cases hq : digB s[k] = true
      · go_wp2_with (go_at_call 33; refine (digit_any _ _).mono ?_; rintro e w' ⟨rfl, rfl⟩)
        go_round
        case rel => exact ⟨k + 1, by omega, by go_num, by rw [HSP.out, spanN_at _ s k hlt hq]; omega⟩
        case measure => simp [intOf]; omega
      · have hq' : digB s[k] = false := by simpa using hq
        clear hq
        go_wp2_with (go_at_call 33; refine (digit_any _ _).mono ?_; rintro e w' ⟨rfl, rfl⟩)
        go_ret
        exact ⟨ret_int (by rw [HSP.out, spanN_stop _ s k hlt hq']; simp), rfl⟩
    · go_wp2_with fail
      go_ret
      exact ⟨ret_int (by rw [HSP.out, spanN_end _ s k (by omega)]; simp), rfl⟩
set_option maxHeartbeats 400000 in
theorem span_inner (s : ByteArray) (w : World) (hs : s.size ≤ 9223372036854775807) :
    Calls Try.prog 27 #[.string s, .func (.func 28) #[] #[]] w fun e w' => e = .returned (.int .i64 (spanN innB s.data.toList : Nat)) ∧ w = w' := by
  go_enter Try.func27, Try.ntmps27
  go_wp2_with fail
  go_loop [5] (fun n => ∃ k : Nat, k ≤ s.size ∧ n = .int .i64 k ∧ spanN innB s.data.toList = k + spanN innB (s.data.toList.drop k)) (fun n => s.size - (intOf n).toNat)
  case atStart => exact ⟨0, Nat.zero_le _, rfl, by simp⟩
  case round =>
    obtain ⟨k, hk, rfl, hsp⟩ := hrel
    have HSP := Lib.hid hsp; clear hsp
    by_cases hlt : k < s.size
    · by_cases hq : innB s[k] = true
      · go_wp2_with (go_at_call 28; refine (inner_any _ _).mono ?_; rintro e w' ⟨rfl, rfl⟩)
        go_round
        case rel => exact ⟨k + 1, by omega, by go_num, by rw [HSP.out, spanN_at _ s k hlt hq]; omega⟩
        case measure => simp [intOf]; omega
      · have hq' : innB s[k] = false := by simpa using hq
        clear hq
        go_wp2_with (go_at_call 28; refine (inner_any _ _).mono ?_; rintro e w' ⟨rfl, rfl⟩)
        go_ret
        exact ⟨ret_int (by rw [HSP.out, spanN_stop _ s k hlt hq']; simp), rfl⟩
    · go_wp2_with fail
      go_ret
      exact ⟨ret_int (by rw [HSP.out, spanN_end _ s k (by omega)]; simp), rfl⟩
theorem data_extract (s : ByteArray) (a : Nat) : (s.extract a s.size).data.toList = s.data.toList.drop a := by
  simp only [ByteArray.data_extract, Array.toList_extract, List.extract_eq_take_drop]
  exact List.take_of_length_le (by simp)
set_option maxHeartbeats 1000000 in
theorem figures_any (s : ByteArray) (w : World) (hs : s.size ≤ 9223372036854775807) :
    Calls Try.prog 48 #[.string s] w fun e w' => e = .returned (.int .i64 (figs s.data.toList : Nat)) ∧ w = w' := by
  have hle : spanN digB s.data.toList ≤ s.size := by simpa using spanN_le digB s.data.toList
  obtain ⟨n, hn⟩ : ∃ n, n = spanN digB s.data.toList := ⟨_, rfl⟩
  have HC : ∀ W, Calls Try.prog 27 #[.string s, .func (.func 33) #[] #[]] W fun e w' => e = .returned (.int .i64 n) ∧ W = w' := fun W => by rw [hn]; exact span_digit s W hs
  have HF : Hid (figs s.data.toList = if 0 < n ∧ s.data.toList[n]? = some 46 then if 0 < spanN digB (s.data.toList.drop (n + 1)) then n + (spanN digB (s.data.toList.drop (n + 1)) + 1) else n else n) := by rw [hn]; rfl
  rw [← hn] at hle
  have HCC := Lib.hid HC
  clear hn HC
  by_cases h0 : 0 < n
  · by_cases hlt : n < s.size
    · by_cases hp : s[n] = 46
      · obtain ⟨m, hm⟩ : ∃ m, m = spanN digB (s.data.toList.drop (n + 1)) := ⟨_, rfl⟩
        have hm2 : m ≤ s.size - (n + 1) := by rw [hm]; have := spanN_le digB (s.data.toList.drop (n + 1)); simpa using this
        have HM := Lib.hid hm
        clear hm
        have hpt : ((s[n].toNat : Int) == 46) = true := by rw [hp]; rfl
        have hg : s.data.toList[n]? = some 46 := by
          rw [List.getElem?_eq_getElem (by simpa using hlt)]
          exact congrArg some hp
        have HG := Lib.hid hg
        clear hg hp
        by_cases hmp : 0 < m
        all_goals
          go_enter Try.func48, Try.ntmps48
          go_wp2_with fail
          refine (HCC.out _).mono ?_
          rintro e w' ⟨rfl, rfl⟩
          go_wp2_with fail
          refine (span_digit _ _ (by simp; omega)).mono ?_
          rintro e w' ⟨rfl, rfl⟩
          rw [data_extract, ← HM.out]
          go_wp2_with fail
          go_ret
          refine ⟨ret_int ?_, rfl⟩
          rw [HF.out, if_pos ⟨h0, HG.out⟩, ← HM.out]
          first | rw [if_pos hmp] | rw [if_neg hmp]
          try (first | rfl | omega)
      · have hpt : ((s[n].toNat : Int) == 46) = false := by
          rw [beq_eq_false_iff_ne]
          intro h
          exact hp (UInt8.toNat_inj.1 (by show s[n].toNat = 46; omega))
        have hg : ¬ s.data.toList[n]? = some 46 := by
          rw [List.getElem?_eq_getElem (by simpa using hlt)]
          intro h
          exact hp (Option.some.inj h)
        have HG := Lib.hid hg
        clear hg hp
        go_enter Try.func48, Try.ntmps48
        go_wp2_with fail
        refine (HCC.out _).mono ?_
        rintro e w' ⟨rfl, rfl⟩
        go_wp2_with fail
        go_ret
        exact ⟨ret_int (by rw [HF.out, if_neg (fun h => HG.out h.2)]), rfl⟩
    · go_enter Try.func48, Try.ntmps48
      go_wp2_with fail
      refine (HCC.out _).mono ?_
      rintro e w' ⟨rfl, rfl⟩
      go_wp2_with fail
      go_ret
      refine ⟨ret_int ?_, rfl⟩
      rw [HF.out, if_neg]
      rintro ⟨_, h⟩
      have := (List.getElem?_eq_some_iff.1 h).1
      simp at this
      omega
  · obtain rfl : n = 0 := by omega
    go_enter Try.func48, Try.ntmps48
    go_wp2_with fail
    refine (HCC.out _).mono ?_
    rintro e w' ⟨rfl, rfl⟩
    go_wp2_with fail
    go_ret
    exact ⟨ret_int (by rw [HF.out, if_neg (by omega)]; rfl), rfl⟩
theorem named_empty (s : ByteArray) (h : s.size = 0) : named s.data.toList = false := by
  have : s.data.toList = [] := List.eq_nil_of_length_eq_zero (by simpa using h)
  rw [this]; rfl
theorem named_some (s : ByteArray) (h : 0 < s.size) : named s.data.toList = (decide (s.size < 25) && (letB s[0] && decide (spanN innB s.data.toList = s.size))) := by
  have e : s.data.toList = s[0] :: s.data.toList.drop 1 := by
    have := drop_at s 0 h
    rwa [List.drop_zero] at this
  have hl : s.data.toList.length = s.size := by simp
  generalize s.data.toList = l at *
  rw [e] at hl ⊢
  simp only [List.length_cons] at hl
  show (decide ((List.drop 1 l).length < 24) && (letB s[0] && decide (spanN innB (s[0] :: List.drop 1 l) = (List.drop 1 l).length + 1))) = _
  rw [hl]
  congr 1
  rw [Bool.eq_iff_iff, decide_eq_true_iff, decide_eq_true_iff]
  omega
set_option maxHeartbeats 1000000 in
theorem named_any (s : ByteArray) (w : World) (hs : s.size ≤ 9223372036854775807) :
    Calls Try.prog 15 #[.string s] w fun e w' => e = .returned (.bool (named s.data.toList)) ∧ w = w' := by
  by_cases h0 : s.size = 0
  · have HN := Lib.hid (named_empty s h0)
    have e1 : s.toList = [] := by
      have : s.data.toList = [] := List.eq_nil_of_length_eq_zero (by simpa using h0)
      rw [ByteArray.toList_eq] ; exact this
    have e2 : (!s.toList.isEmpty) = false := by rw [e1]; rfl
    clear h0
    go_enter Try.func15, Try.ntmps15
    go_wp2_with fail
    go_ret
    exact ⟨ret_bool (by rw [HN.out]), rfl⟩
  · have hp : 0 < s.size := by omega
    have HN := Lib.hid (named_some s hp)
    have e1 : s.toList ≠ [] := by
      rw [ByteArray.toList_eq]
      intro h
      have hz : s.data.toList.length = s.size := by simp
      rw [h, List.length_nil] at hz
      omega
    have e2 : (!s.toList.isEmpty) = true := by simpa using e1
    have e3 : s.toList.isEmpty = false := by simpa using e1
    by_cases h1 : s.size ≤ 24
    · by_cases h2 : letB s[0] = true
      · go_enter Try.func15, Try.ntmps15
        go_wp2_with fail
        refine (letter_any _ _).mono ?_
        rintro e w' ⟨rfl, rfl⟩
        go_wp2_with fail
        refine (span_inner _ _ hs).mono ?_
        rintro e w' ⟨rfl, rfl⟩
        go_wp2_with fail
        go_ret
        refine ⟨ret_bool ?_, rfl⟩
        rw [HN.out, h2, decide_eq_true (show s.size < 25 by omega), Bool.true_and, Bool.true_and, Bool.eq_iff_iff]
        simp
        omega
      · have h2' : letB s[0] = false := by simpa using h2
        clear h2
        go_enter Try.func15, Try.ntmps15
        go_wp2_with fail
        refine (letter_any _ _).mono ?_
        rintro e w' ⟨rfl, rfl⟩
        go_wp2_with fail
        go_ret
        exact ⟨ret_bool (by rw [HN.out, h2']; simp), rfl⟩
    · go_enter Try.func15, Try.ntmps15
      go_wp2_with fail
      go_ret
      exact ⟨ret_bool (by rw [HN.out, decide_eq_false (show ¬ s.size < 25 by omega)]; rfl), rfl⟩
end Go.Proofs.Ytaogejkmkalnlaa.HA
