-- Written by a program of this session (wip/tools/print2.sh): functions as plain Lean, and that the machine's calls do what they say.
import Derived.Test.YtaogejkmkalnlaaPAllx0
import Derived.Test.YtaogejkmkalnlaaPAllx9
namespace Go.Proofs.Ytaogejkmkalnlaa.PAll
open Go.RowKit Go.Proofs.YtaogejkmkalnlaaW.PrintWords Go.Proofs.YtaogejkmkalnlaaW.PrintLast Go.Proofs.YtaogejkmkalnlaaW.PrintMore
attribute [local go_sem] max2_int min2_int max_two min_two max_three min_three max_four min_four   -- for this text's walks alone
set_option linter.unusedVariables false
set_option linter.unusedSimpArgs false

/-! ### tontineref17_Number: function 37 -/
mutual
def tontineref17_Number.j0 : Nat → ByteArray → Bool → Option (Bool)
 | 0, _, _ => none
 | k + 1, x0, x14 => if x14 = true then (if 0 ≤ (wrap64 ((x0.size : Int) - 1)) then (if (wrap64 ((x0.size : Int) - 1)) ≤ (x0.size : Int) then (tontineref17_Number.j1 k (x0.extract 0 ((wrap64 ((x0.size : Int) - 1)) : Int).toNat)) else (none)) else (none)) else (tontineref17_Number.j1 k x0)
def tontineref17_Number.j1 : Nat → ByteArray → Option (Bool)
 | 0, _ => none
 | k + 1, x0 => (tontineref17_digits.f k x0 0).bind fun t196 => (if 0 ≤ t196 then (if t196 ≤ (x0.size : Int) then ((tontinebase_Digits.f k (x0.extract 0 (t196 : Int).toNat)).bind fun t197 => (if t197 = true then (if t196 < (x0.size : Int) then (if (bt x0 t196) = 46 then ((tontineref17_digits.f k x0 (wrap64 (t196 + 1))).bind fun t198 => (if t198 = (x0.size : Int) then (if (wrap64 (t196 + 1)) = (x0.size : Int) then (some false) else (some (decide ((wrap64 ((x0.size : Int) - 1)) ≤ 18)))) else (some false))) else (some false)) else (some (decide (t196 ≤ 18)))) else (some false))) else (none)) else (none))
end
def tontineref17_Number.f (k : Nat) (a0 : ByteArray) : Option (Bool) := if a0.toList = ([] : List UInt8) then (tontineref17_Number.j0 k a0 false) else (if 0 ≤ (wrap64 ((a0.size : Int) - 1)) then (if (wrap64 ((a0.size : Int) - 1)) < (a0.size : Int) then (tontineref17_Number.j0 k a0 ((bt a0 (wrap64 ((a0.size : Int) - 1))) == 37)) else (none)) else (none))
theorem tontineref17_Number.mono_l : ∀ k, (∀ y0 y1, LeO (tontineref17_Number.j0 k y0 y1) (tontineref17_Number.j0 (k + 1) y0 y1)) ∧ (∀ y0, LeO (tontineref17_Number.j1 k y0) (tontineref17_Number.j1 (k + 1) y0))
 | 0 => ⟨fun _ _ r h => by simp [tontineref17_Number.j0] at h, fun _ r h => by simp [tontineref17_Number.j1] at h⟩
 | k + 1 => by
  obtain ⟨ih0, ih1⟩ := tontineref17_Number.mono_l k
  refine ⟨?_, ?_⟩
  ·intro y0 y1
   unfold tontineref17_Number.j0
   exact sq107
  intro y0
  unfold tontineref17_Number.j1
  exact sq107
theorem tontineref17_Number.mono : ∀ a0 k, LeO (tontineref17_Number.f k a0) (tontineref17_Number.f (k + 1) a0) := by
 intro a0 k
 obtain ⟨ih0, ih1⟩ := tontineref17_Number.mono_l k
 unfold tontineref17_Number.f
 exact sq107
set_option maxHeartbeats 8000000 in
set_option maxRecDepth 100000 in
theorem tontineref17_Number.calls (k : Nat) (a0 : ByteArray) (r : Bool) (w : World) (h : tontineref17_Number.f k a0 = some r) :
  Calls Try.prog 37 #[.string a0] w fun e w' => e = .returned (.bool r) ∧ Drawn0 w w' := by
 have H : (if a0.toList = ([] : List UInt8) then (tontineref17_Number.j0 k a0 false) else (if 0 ≤ (wrap64 ((a0.size : Int) - 1)) then (if (wrap64 ((a0.size : Int) - 1)) < (a0.size : Int) then (tontineref17_Number.j0 k a0 ((bt a0 (wrap64 ((a0.size : Int) - 1))) == 37)) else (none)) else (none))) = some r := h
 clear h
 have HC2 := Aside0.mk H
 clear H
 go_enter Try.func37, Try.ntmps37
 go_upto_region 1 with (fail)
 go_cut [14] (fun v14 wc => ∃ (kq : Nat) (x14_1 : Bool), v14 = .bool x14_1 ∧ Aside0 (tontineref17_Number.j0 kq a0 x14_1 = some r) ∧ Aside0 (kq ≤ k) ∧ Drawn0 w wc)
 case first =>
  have H := HC2.out
  clear HC2
  by_cases c3 : a0.toList = ([] : List UInt8)
  ·rw [if_pos c3] at H
   have c3b0 : (a0.toList == ([] : List UInt8)) = true := beq_iff_eq.mpr c3
   have c3b1 : (a0.toList != ([] : List UInt8)) = false := bne_eq_false_iff_eq.mpr c3
   clear c3
   (first | rw [c3b0] | (simp only [i64_w, i32_w]; rw [c3b0]) | skip)
   have H' := Aside0.mk H
   clear H
   go_wp2
   go_meet
   case rel => exact ⟨_, (false), sq4, H', ⟨sq2⟩, sq7⟩
  rw [if_neg c3] at H
  have c3b0 : (a0.toList == ([] : List UInt8)) = false := beq_eq_false_iff_ne.mpr c3
  have c3b1 : (a0.toList != ([] : List UInt8)) = true := bne_iff_ne.mpr c3
  (first | rw [c3b0] | (simp only [i64_w, i32_w]; rw [c3b0]) | skip)
  obtain ⟨ji4, hji4⟩ : ∃ j_ : Int, (wrap64 ((a0.size : Int) - 1)) = j_ := ⟨_, rfl⟩
  replace H : (if 0 ≤ (ji4) then (if (ji4) < (a0.size : Int) then (tontineref17_Number.j0 k a0 ((bt a0 (ji4)) == 37)) else (none)) else (none)) = some r := by first | (rw [hji4] at H; exact H) | (simp only [hji4] at H ⊢; exact H)
  have hji4w : (IntKind.i64.wrap ((a0.size : Int) - 1)) = ji4 := (i64_w _).trans hji4
  by_cases c5 : 0 ≤ (ji4)
  ·rw [if_pos c5] at H
   have c5b0 : decide (0 ≤ (ji4)) = true := decide_eq_true c5; clear c5
   by_cases c6 : (ji4) < (a0.size : Int)
   ·rw [if_pos c6] at H
    have c6b0 : decide ((ji4) < (a0.size : Int)) = true := decide_eq_true c6; clear c6
    have H' := Aside0.mk H
    clear H
    have p7 : 0 ≤ ((ji4) : Int) := of_decide_eq_true sq5
    have q7 : (ji4) < (a0.size : Int) := of_decide_eq_true sq5
    have hx7 := bt_at a0 (ji4)
    replace p7 := eq_true p7
    replace q7 := eq_true q7
    go_wp2
    go_meet
    case rel => exact ⟨_, (((bt a0 (ji4)) == 37)), (by first | rfl | (simp; done) | (simp only [← hji4] <;> (first | rfl | simp)) | (simp [*]; done)), H', ⟨sq2⟩, sq7⟩
   rw [if_neg c6] at H
   exact absurd H (by simp)
  rw [if_neg c5] at H
  exact absurd H (by simp)
 case rest =>
  clear HC2; try clear p2; try clear c3; try clear c3b0; try clear c3b1; try clear c5; try clear c5b0; try clear c6; try clear c6b0; try clear p6; try clear p7; try clear q7; try clear hx7; try clear p7; try clear q7
  obtain ⟨kq, x14_1, rfl, HA, HJ1, ⟨mc1, rfl⟩⟩ := hcut
  cases kq with
  | zero => exact absurd HA.out (by simp [tontineref17_Number.j0])
  | succ kj1 =>
   have H := HA.out
   clear HA
   simp only [tontineref17_Number.j0] at H
   have HC8 := Aside0.mk H
   clear H
   go_upto_if 14 with (fail)
   go_cut [0] (fun v0 wc => ∃ (kq : Nat) (x0_7 : ByteArray), v0 = .string x0_7 ∧ Aside0 (tontineref17_Number.j1 kq x0_7 = some r) ∧ Aside0 (kq ≤ kj1) ∧ Drawn0 w wc)
   case first =>
    have H := HC8.out
    clear HC8
    by_cases c9 : x14_1 = true
    ·subst c9
     replace H := (itT_ _ _).symm.trans H
     obtain ⟨ji10, hji10⟩ : ∃ j_ : Int, (wrap64 ((a0.size : Int) - 1)) = j_ := ⟨_, rfl⟩
     replace H : (if 0 ≤ (ji10) then (if (ji10) ≤ (a0.size : Int) then (tontineref17_Number.j1 kj1 (a0.extract 0 ((ji10) : Int).toNat)) else (none)) else (none)) = some r := by first | (rw [hji10] at H; exact H) | (simp only [hji10] at H ⊢; exact H)
     have hji10w : (IntKind.i64.wrap ((a0.size : Int) - 1)) = ji10 := (i64_w _).trans hji10
     by_cases c11 : 0 ≤ (ji10)
     ·rw [if_pos c11] at H
      have c11b0 := eq_true c11
      have c11b1 : decide (0 ≤ (ji10)) = true := decide_eq_true c11
      clear c11
      by_cases c12 : (ji10) ≤ (a0.size : Int)
      ·rw [if_pos c12] at H
       have c12b0 := eq_true c12
       have c12b1 : decide ((ji10) ≤ (a0.size : Int)) = true := decide_eq_true c12
       clear c12
       have H' := Aside0.mk H
       clear H
       go_wp2
       go_meet
       case rel => exact ⟨_, (a0.extract 0 ((ji10) : Int).toNat), (by first | rfl | (simp; done) | (simp only [← hji10] <;> (first | rfl | simp)) | (simp [*]; done)), H', ⟨sq6⟩, sq7⟩
      rw [if_neg c12] at H
      exact absurd H (by simp)
     rw [if_neg c11] at H
     exact absurd H (by simp)
    replace c9 := Bool.eq_false_iff.mpr c9
    subst c9
    replace H := (itF_ _ _).symm.trans H
    have H' := Aside0.mk H
    clear H
    go_wp2
    go_meet
    case rel => exact ⟨_, (a0), sq4, H', ⟨sq6⟩, sq7⟩
   case rest =>
    clear HC8; try clear c1; try clear p2; try clear c3; try clear c3b0; try clear c3b1; try clear c5; try clear c5b0; try clear c6; try clear c6b0; try clear p6; try clear p7; try clear q7; try clear hx7; try clear c9; try clear c11; try clear c11b0; try clear c11b1; try clear c12; try clear c12b0; try clear c12b1; try clear p2; try clear p6; try clear p7; try clear q7
    obtain ⟨kq, x0_7, rfl, HA, HJ7, ⟨mc7, rfl⟩⟩ := hcut
    cases kq with
    | zero => exact absurd HA.out (by simp [tontineref17_Number.j1])
    | succ kj7 =>
     have H := HA.out
     clear HA
     simp only [tontineref17_Number.j1] at H
     replace H := Option.bind_eq_some_iff.mp H
     obtain ⟨t196, A130, H⟩ := H
     replace H : (if 0 ≤ t196 then (if t196 ≤ (x0_7.size : Int) then ((tontinebase_Digits.f kj7 (x0_7.extract 0 (t196 : Int).toNat)).bind fun t197 => (if t197 = true then (if t196 < (x0_7.size : Int) then (if (bt x0_7 t196) = 46 then ((tontineref17_digits.f kj7 x0_7 (wrap64 (t196 + 1))).bind fun t198 => (if t198 = (x0_7.size : Int) then (if (wrap64 (t196 + 1)) = (x0_7.size : Int) then (some false) else (some (decide ((wrap64 ((x0_7.size : Int) - 1)) ≤ 18)))) else (some false))) else (some false)) else (some (decide (t196 ≤ 18)))) else (some false))) else (none)) else (none)) = some r := H
     have A13 := Aside0.mk A130
     clear A130
     by_cases c14 : 0 ≤ t196
     ·rw [if_pos c14] at H
      have c14b0 := eq_true c14
      have c14b1 : decide (0 ≤ t196) = true := decide_eq_true c14
      clear c14
      by_cases c15 : t196 ≤ (x0_7.size : Int)
      ·rw [if_pos c15] at H
       have c15b0 := eq_true c15
       have c15b1 : decide (t196 ≤ (x0_7.size : Int)) = true := decide_eq_true c15
       clear c15
       replace H := Option.bind_eq_some_iff.mp H
       obtain ⟨t197, A160, H⟩ := H
       replace H : (if t197 = true then (if t196 < (x0_7.size : Int) then (if (bt x0_7 t196) = 46 then ((tontineref17_digits.f kj7 x0_7 (wrap64 (t196 + 1))).bind fun t198 => (if t198 = (x0_7.size : Int) then (if (wrap64 (t196 + 1)) = (x0_7.size : Int) then (some false) else (some (decide ((wrap64 ((x0_7.size : Int) - 1)) ≤ 18)))) else (some false))) else (some false)) else (some (decide (t196 ≤ 18)))) else (some false)) = some r := H
       have A16 := Aside0.mk A160
       clear A160
       by_cases c17 : t197 = true
       ·subst c17
        replace H := (itT_ _ _).symm.trans H
        by_cases c18 : t196 < (x0_7.size : Int)
        ·rw [if_pos c18] at H
         have c18b0 : decide (t196 < (x0_7.size : Int)) = true := decide_eq_true c18; clear c18
         by_cases c20 : (bt x0_7 t196) = 46
         ·rw [if_pos c20] at H
          have c20b0 : ((bt x0_7 t196) == 46) = true := beq_iff_eq.mpr c20
          have c20b1 : ((bt x0_7 t196) != 46) = false := bne_eq_false_iff_eq.mpr c20
          clear c20
          replace H := Option.bind_eq_some_iff.mp H
          obtain ⟨t198, A210, H⟩ := H
          replace H : (if t198 = (x0_7.size : Int) then (if (wrap64 (t196 + 1)) = (x0_7.size : Int) then (some false) else (some (decide ((wrap64 ((x0_7.size : Int) - 1)) ≤ 18)))) else (some false)) = some r := H
          have A21 := Aside0.mk A210
          clear A210
          by_cases c22 : t198 = (x0_7.size : Int)
          ·rw [if_pos c22] at H
           have c22b0 : (t198 == (x0_7.size : Int)) = true := beq_iff_eq.mpr c22
           have c22b1 : (t198 != (x0_7.size : Int)) = false := bne_eq_false_iff_eq.mpr c22
           clear c22
           by_cases c23 : (wrap64 (t196 + 1)) = (x0_7.size : Int)
           ·rw [if_pos c23] at H
            have c23b0 : ((wrap64 (t196 + 1)) == (x0_7.size : Int)) = true := beq_iff_eq.mpr c23
            have c23b1 : ((wrap64 (t196 + 1)) != (x0_7.size : Int)) = false := bne_eq_false_iff_eq.mpr c23
            clear c23
            obtain rfl := Option.some.inj H
            go_wp2_with (first | ((with_reducible refine gate_callee (f := 42) rfl ?_); refine goesL_ (some 21) rfl rfl Try.func42 sq1 rfl #[.string x0_7, .int .i64 0] rfl sq56 ?_; (with_reducible refine (tontineref17_digits.calls kj7 x0_7 0 t196 _ A13.out).mono ?_); rintro e w' ⟨rfl, ⟨nd, rfl⟩⟩; refine ⟨_, rfl, ?_⟩) | ((with_reducible refine gate_callee (f := 43) rfl ?_); refine goesL_ (some 26) rfl rfl Try.func43 sq1 rfl #[.string (x0_7.extract 0 (t196 : Int).toNat)] rfl sq56 ?_; (with_reducible refine (tontinebase_Digits.calls kj7 (x0_7.extract 0 (t196 : Int).toNat) true _ A16.out).mono ?_); rintro e w' ⟨rfl, ⟨nd, rfl⟩⟩; refine ⟨_, rfl, ?_⟩; have p19 : 0 ≤ (t196 : Int) := of_decide_eq_true sq5; have q19 : t196 < (x0_7.size : Int) := of_decide_eq_true sq5; have hx19 := bt_at x0_7 t196; replace p19 := eq_true p19; replace q19 := eq_true q19) | (go_at_call 42; (with_reducible refine (tontineref17_digits.calls kj7 x0_7 (wrap64 (t196 + 1)) t198 _ A21.out).mono ?_); rintro e w' ⟨rfl, ⟨nd, rfl⟩⟩))
            go_ret
            exact ⟨sq4, sq7⟩
           rw [if_neg c23] at H
           have c23b0 : ((wrap64 (t196 + 1)) == (x0_7.size : Int)) = false := beq_eq_false_iff_ne.mpr c23
           have c23b1 : ((wrap64 (t196 + 1)) != (x0_7.size : Int)) = true := bne_iff_ne.mpr c23
           obtain rfl := Option.some.inj H
           go_wp2_with (first | ((with_reducible refine gate_callee (f := 42) rfl ?_); refine goesL_ (some 21) rfl rfl Try.func42 sq1 rfl #[.string x0_7, .int .i64 0] rfl sq56 ?_; (with_reducible refine (tontineref17_digits.calls kj7 x0_7 0 t196 _ A13.out).mono ?_); rintro e w' ⟨rfl, ⟨nd, rfl⟩⟩; refine ⟨_, rfl, ?_⟩) | ((with_reducible refine gate_callee (f := 43) rfl ?_); refine goesL_ (some 26) rfl rfl Try.func43 sq1 rfl #[.string (x0_7.extract 0 (t196 : Int).toNat)] rfl sq56 ?_; (with_reducible refine (tontinebase_Digits.calls kj7 (x0_7.extract 0 (t196 : Int).toNat) true _ A16.out).mono ?_); rintro e w' ⟨rfl, ⟨nd, rfl⟩⟩; refine ⟨_, rfl, ?_⟩; have p19 : 0 ≤ (t196 : Int) := of_decide_eq_true sq5; have q19 : t196 < (x0_7.size : Int) := of_decide_eq_true sq5; have hx19 := bt_at x0_7 t196; replace p19 := eq_true p19; replace q19 := eq_true q19) | (go_at_call 42; (with_reducible refine (tontineref17_digits.calls kj7 x0_7 (wrap64 (t196 + 1)) t198 _ A21.out).mono ?_); rintro e w' ⟨rfl, ⟨nd, rfl⟩⟩))
           go_ret
           exact ⟨sq4, sq7⟩
          rw [if_neg c22] at H
          have c22b0 : (t198 == (x0_7.size : Int)) = false := beq_eq_false_iff_ne.mpr c22
          have c22b1 : (t198 != (x0_7.size : Int)) = true := bne_iff_ne.mpr c22
          obtain rfl := Option.some.inj H
          go_wp2_with (first | ((with_reducible refine gate_callee (f := 42) rfl ?_); refine goesL_ (some 21) rfl rfl Try.func42 sq1 rfl #[.string x0_7, .int .i64 0] rfl sq56 ?_; (with_reducible refine (tontineref17_digits.calls kj7 x0_7 0 t196 _ A13.out).mono ?_); rintro e w' ⟨rfl, ⟨nd, rfl⟩⟩; refine ⟨_, rfl, ?_⟩) | ((with_reducible refine gate_callee (f := 43) rfl ?_); refine goesL_ (some 26) rfl rfl Try.func43 sq1 rfl #[.string (x0_7.extract 0 (t196 : Int).toNat)] rfl sq56 ?_; (with_reducible refine (tontinebase_Digits.calls kj7 (x0_7.extract 0 (t196 : Int).toNat) true _ A16.out).mono ?_); rintro e w' ⟨rfl, ⟨nd, rfl⟩⟩; refine ⟨_, rfl, ?_⟩; have p19 : 0 ≤ (t196 : Int) := of_decide_eq_true sq5; have q19 : t196 < (x0_7.size : Int) := of_decide_eq_true sq5; have hx19 := bt_at x0_7 t196; replace p19 := eq_true p19; replace q19 := eq_true q19) | (go_at_call 42; (with_reducible refine (tontineref17_digits.calls kj7 x0_7 (wrap64 (t196 + 1)) t198 _ A21.out).mono ?_); rintro e w' ⟨rfl, ⟨nd, rfl⟩⟩))
          go_ret
          exact ⟨sq4, sq7⟩
         rw [if_neg c20] at H
         have c20b0 : ((bt x0_7 t196) == 46) = false := beq_eq_false_iff_ne.mpr c20
         have c20b1 : ((bt x0_7 t196) != 46) = true := bne_iff_ne.mpr c20
         obtain rfl := Option.some.inj H
         go_wp2_with (first | ((with_reducible refine gate_callee (f := 42) rfl ?_); refine goesL_ (some 21) rfl rfl Try.func42 sq1 rfl #[.string x0_7, .int .i64 0] rfl sq56 ?_; (with_reducible refine (tontineref17_digits.calls kj7 x0_7 0 t196 _ A13.out).mono ?_); rintro e w' ⟨rfl, ⟨nd, rfl⟩⟩; refine ⟨_, rfl, ?_⟩) | ((with_reducible refine gate_callee (f := 43) rfl ?_); refine goesL_ (some 26) rfl rfl Try.func43 sq1 rfl #[.string (x0_7.extract 0 (t196 : Int).toNat)] rfl sq56 ?_; (with_reducible refine (tontinebase_Digits.calls kj7 (x0_7.extract 0 (t196 : Int).toNat) true _ A16.out).mono ?_); rintro e w' ⟨rfl, ⟨nd, rfl⟩⟩; refine ⟨_, rfl, ?_⟩; have p19 : 0 ≤ (t196 : Int) := of_decide_eq_true sq5; have q19 : t196 < (x0_7.size : Int) := of_decide_eq_true sq5; have hx19 := bt_at x0_7 t196; replace p19 := eq_true p19; replace q19 := eq_true q19))
         go_ret
         exact ⟨sq4, sq7⟩
        rw [if_neg c18] at H
        have c18b0 : decide (t196 < (x0_7.size : Int)) = false := decide_eq_false c18; clear c18
        obtain rfl := Option.some.inj H
        go_wp2_with (first | ((with_reducible refine gate_callee (f := 42) rfl ?_); refine goesL_ (some 21) rfl rfl Try.func42 sq1 rfl #[.string x0_7, .int .i64 0] rfl sq56 ?_; (with_reducible refine (tontineref17_digits.calls kj7 x0_7 0 t196 _ A13.out).mono ?_); rintro e w' ⟨rfl, ⟨nd, rfl⟩⟩; refine ⟨_, rfl, ?_⟩) | ((with_reducible refine gate_callee (f := 43) rfl ?_); refine goesL_ (some 26) rfl rfl Try.func43 sq1 rfl #[.string (x0_7.extract 0 (t196 : Int).toNat)] rfl sq56 ?_; (with_reducible refine (tontinebase_Digits.calls kj7 (x0_7.extract 0 (t196 : Int).toNat) true _ A16.out).mono ?_); rintro e w' ⟨rfl, ⟨nd, rfl⟩⟩; refine ⟨_, rfl, ?_⟩))
        go_ret
        exact ⟨sq4, sq7⟩
       replace c17 := Bool.eq_false_iff.mpr c17
       subst c17
       replace H := (itF_ _ _).symm.trans H
       obtain rfl := Option.some.inj H
       go_wp2_with (first | ((with_reducible refine gate_callee (f := 42) rfl ?_); refine goesL_ (some 21) rfl rfl Try.func42 sq1 rfl #[.string x0_7, .int .i64 0] rfl sq56 ?_; (with_reducible refine (tontineref17_digits.calls kj7 x0_7 0 t196 _ A13.out).mono ?_); rintro e w' ⟨rfl, ⟨nd, rfl⟩⟩; refine ⟨_, rfl, ?_⟩) | ((with_reducible refine gate_callee (f := 43) rfl ?_); refine goesL_ (some 26) rfl rfl Try.func43 sq1 rfl #[.string (x0_7.extract 0 (t196 : Int).toNat)] rfl sq56 ?_; (with_reducible refine (tontinebase_Digits.calls kj7 (x0_7.extract 0 (t196 : Int).toNat) false _ A16.out).mono ?_); rintro e w' ⟨rfl, ⟨nd, rfl⟩⟩; refine ⟨_, rfl, ?_⟩))
       go_ret
       exact ⟨sq4, sq7⟩
      rw [if_neg c15] at H
      exact absurd H (by simp)
     rw [if_neg c14] at H
     exact absurd H (by simp)

/-! ### tontineref17_Sum: function 38 -/
def tontineref17_Sum.j0 : Nat → ByteArray → Bool → Option (Bool)
 | 0, _, _ => none
 | k + 1, x0, x11 => if x11 = true then (some false) else ((tontineref17_digits.f k x0 1).bind fun t199 => (if 1 ≤ t199 then (if t199 ≤ (x0.size : Int) then ((tontinebase_Digits.f k (x0.extract 1 (t199 : Int).toNat)).bind fun t200 => (if t200 = true then (if t199 = (wrap64 ((x0.size : Int) - 3)) then (if 0 ≤ t199 then (if t199 < (x0.size : Int) then (if (bt x0 t199) = 46 then ((tontineref17_digits.f k x0 (wrap64 (t199 + 1))).bind fun t201 => (if t201 = (x0.size : Int) then (some (decide ((wrap64 ((x0.size : Int) - 2)) ≤ 18))) else (some false))) else (some false)) else (none)) else (none)) else (some false)) else (some false))) else (none)) else (none)))
def tontineref17_Sum.f (k : Nat) (a0 : ByteArray) : Option (Bool) := if (a0.size : Int) < 5 then (tontineref17_Sum.j0 k a0 true) else (if 0 < (a0.size : Int) then (tontineref17_Sum.j0 k a0 ((bt a0 0) != 36)) else (none))
theorem tontineref17_Sum.mono_l : ∀ k, (∀ y0 y1, LeO (tontineref17_Sum.j0 k y0 y1) (tontineref17_Sum.j0 (k + 1) y0 y1))
 | 0 => fun _ _ r h => by simp [tontineref17_Sum.j0] at h
 | k + 1 => by
  have ih0 := tontineref17_Sum.mono_l k
  ·intro y0 y1
   unfold tontineref17_Sum.j0
   exact sq105
theorem tontineref17_Sum.mono : ∀ a0 k, LeO (tontineref17_Sum.f k a0) (tontineref17_Sum.f (k + 1) a0) := by
 intro a0 k
 have ih0 := tontineref17_Sum.mono_l k
 unfold tontineref17_Sum.f
 exact sq105
set_option maxHeartbeats 8000000 in
set_option maxRecDepth 100000 in
theorem tontineref17_Sum.calls (k : Nat) (a0 : ByteArray) (r : Bool) (w : World) (h : tontineref17_Sum.f k a0 = some r) :
  Calls Try.prog 38 #[.string a0] w fun e w' => e = .returned (.bool r) ∧ Drawn0 w w' := by
 have H : (if (a0.size : Int) < 5 then (tontineref17_Sum.j0 k a0 true) else (if 0 < (a0.size : Int) then (tontineref17_Sum.j0 k a0 ((bt a0 0) != 36)) else (none))) = some r := h
 clear h
 have HC2 := Aside0.mk H
 clear H
 go_enter Try.func38, Try.ntmps38
 go_upto_region 1 with (fail)
 go_cut [11] (fun v11 wc => ∃ (kq : Nat) (x11_1 : Bool), v11 = .bool x11_1 ∧ Aside0 (tontineref17_Sum.j0 kq a0 x11_1 = some r) ∧ Aside0 (kq ≤ k) ∧ Drawn0 w wc)
 case first =>
  have H := HC2.out
  clear HC2
  by_cases c3 : (a0.size : Int) < 5
  ·rw [if_pos c3] at H
   have c3b0 : decide ((a0.size : Int) < 5) = true := decide_eq_true c3
   have c3b1 : decide (a0.size < 5) = true := decide_eq_true (by omega)
   clear c3
   (first | rw [c3b0] | (simp only [i64_w, i32_w]; rw [c3b0]) | skip)
   have H' := Aside0.mk H
   clear H
   go_wp2
   go_meet
   case rel => exact ⟨_, (true), sq4, H', ⟨sq2⟩, sq7⟩
  rw [if_neg c3] at H
  have c3b0 : decide ((a0.size : Int) < 5) = false := decide_eq_false c3
  have c3b1 : decide (a0.size < 5) = false := decide_eq_false (by omega)
  clear c3
  (first | rw [c3b0] | (simp only [i64_w, i32_w]; rw [c3b0]) | skip)
  by_cases c4 : 0 < (a0.size : Int)
  ·rw [if_pos c4] at H
   have c4b0 : decide (0 < (a0.size : Int)) = true := decide_eq_true c4
   have c4b1 : decide (0 < a0.size) = true := decide_eq_true (by omega)
   clear c4
   have H' := Aside0.mk H
   clear H
   have p5 : 0 ≤ (0 : Int) := (by omega)
   have q5 : 0 < a0.size := (by have : (0 : Int) < (a0.size : Int) := of_decide_eq_true sq5; omega)
   have hx5 : ∀ h : 0 < a0.size, ((a0[0]'h).toNat : Int) = bt a0 0 := bt_at a0 0
   clear p5
   have qi5 : (0 < (a0.size : Int)) = True := eq_true (of_decide_eq_true sq5)
   replace q5 := eq_true q5
   go_wp2
   go_meet
   case rel => exact ⟨_, (((bt a0 0) != 36)), sq4, H', ⟨sq2⟩, sq7⟩
  rw [if_neg c4] at H
  exact absurd H (by simp)
 case rest =>
  clear HC2; try clear p2; try clear c3; try clear c3b0; try clear c3b1; try clear c4; try clear c4b0; try clear c4b1; try clear p5; try clear q5; try clear hx5; try clear qi5; try clear p5; try clear q5
  obtain ⟨kq, x11_1, rfl, HA, HJ1, ⟨mc1, rfl⟩⟩ := hcut
  cases kq with
  | zero => exact absurd HA.out (by simp [tontineref17_Sum.j0])
  | succ kj1 =>
   have H := HA.out
   clear HA
   simp only [tontineref17_Sum.j0] at H
   by_cases c6 : x11_1 = true
   ·subst c6
    replace H := (itT_ _ _).symm.trans H
    obtain rfl := Option.some.inj H
    go_wp2
    go_ret
    exact ⟨sq4, sq7⟩
   replace c6 := Bool.eq_false_iff.mpr c6
   subst c6
   replace H := (itF_ _ _).symm.trans H
   replace H := Option.bind_eq_some_iff.mp H
   obtain ⟨t199, A70, H⟩ := H
   replace H : (if 1 ≤ t199 then (if t199 ≤ (a0.size : Int) then ((tontinebase_Digits.f kj1 (a0.extract 1 (t199 : Int).toNat)).bind fun t200 => (if t200 = true then (if t199 = (wrap64 ((a0.size : Int) - 3)) then (if 0 ≤ t199 then (if t199 < (a0.size : Int) then (if (bt a0 t199) = 46 then ((tontineref17_digits.f kj1 a0 (wrap64 (t199 + 1))).bind fun t201 => (if t201 = (a0.size : Int) then (some (decide ((wrap64 ((a0.size : Int) - 2)) ≤ 18))) else (some false))) else (some false)) else (none)) else (none)) else (some false)) else (some false))) else (none)) else (none)) = some r := H
   have A7 := Aside0.mk A70
   clear A70
   by_cases c8 : 1 ≤ t199
   ·rw [if_pos c8] at H
    have c8b0 := eq_true c8
    have c8b1 : decide (1 ≤ t199) = true := decide_eq_true c8
    clear c8
    by_cases c9 : t199 ≤ (a0.size : Int)
    ·rw [if_pos c9] at H
     have c9b0 := eq_true c9
     have c9b1 : decide (t199 ≤ (a0.size : Int)) = true := decide_eq_true c9
     clear c9
     replace H := Option.bind_eq_some_iff.mp H
     obtain ⟨t200, A100, H⟩ := H
     replace H : (if t200 = true then (if t199 = (wrap64 ((a0.size : Int) - 3)) then (if 0 ≤ t199 then (if t199 < (a0.size : Int) then (if (bt a0 t199) = 46 then ((tontineref17_digits.f kj1 a0 (wrap64 (t199 + 1))).bind fun t201 => (if t201 = (a0.size : Int) then (some (decide ((wrap64 ((a0.size : Int) - 2)) ≤ 18))) else (some false))) else (some false)) else (none)) else (none)) else (some false)) else (some false)) = some r := H
     have A10 := Aside0.mk A100
     clear A100
     by_cases c11 : t200 = true
     ·subst c11
      replace H := (itT_ _ _).symm.trans H
      by_cases c12 : t199 = (wrap64 ((a0.size : Int) - 3))
      ·rw [if_pos c12] at H
       have c12b0 : (t199 == (wrap64 ((a0.size : Int) - 3))) = true := beq_iff_eq.mpr c12
       have c12b1 : (t199 != (wrap64 ((a0.size : Int) - 3))) = false := bne_eq_false_iff_eq.mpr c12
       clear c12
       by_cases c13 : 0 ≤ t199
       ·rw [if_pos c13] at H
        have c13b0 : decide (0 ≤ t199) = true := decide_eq_true c13; clear c13
        by_cases c14 : t199 < (a0.size : Int)
        ·rw [if_pos c14] at H
         have c14b0 : decide (t199 < (a0.size : Int)) = true := decide_eq_true c14; clear c14
         by_cases c16 : (bt a0 t199) = 46
         ·rw [if_pos c16] at H
          have c16b0 : ((bt a0 t199) == 46) = true := beq_iff_eq.mpr c16
          have c16b1 : ((bt a0 t199) != 46) = false := bne_eq_false_iff_eq.mpr c16
          clear c16
          replace H := Option.bind_eq_some_iff.mp H
          obtain ⟨t201, A170, H⟩ := H
          replace H : (if t201 = (a0.size : Int) then (some (decide ((wrap64 ((a0.size : Int) - 2)) ≤ 18))) else (some false)) = some r := H
          have A17 := Aside0.mk A170
          clear A170
          by_cases c18 : t201 = (a0.size : Int)
          ·rw [if_pos c18] at H
           have c18b0 : (t201 == (a0.size : Int)) = true := beq_iff_eq.mpr c18
           have c18b1 : (t201 != (a0.size : Int)) = false := bne_eq_false_iff_eq.mpr c18
           clear c18
           obtain rfl := Option.some.inj H
           go_wp2_with (first | ((with_reducible refine gate_callee (f := 42) rfl ?_); refine goesL_ (some 13) rfl rfl Try.func42 sq1 rfl #[.string a0, .int .i64 1] rfl sq56 ?_; (with_reducible refine (tontineref17_digits.calls kj1 a0 1 t199 _ A7.out).mono ?_); rintro e w' ⟨rfl, ⟨nd, rfl⟩⟩; refine ⟨_, rfl, ?_⟩) | ((with_reducible refine gate_callee (f := 43) rfl ?_); refine goesL_ (some 17) rfl rfl Try.func43 sq1 rfl #[.string (a0.extract 1 (t199 : Int).toNat)] rfl sq56 ?_; (with_reducible refine (tontinebase_Digits.calls kj1 (a0.extract 1 (t199 : Int).toNat) true _ A10.out).mono ?_); rintro e w' ⟨rfl, ⟨nd, rfl⟩⟩; refine ⟨_, rfl, ?_⟩; have p15 : 0 ≤ (t199 : Int) := of_decide_eq_true sq5; have q15 : t199 < (a0.size : Int) := of_decide_eq_true sq5; have hx15 := bt_at a0 t199; replace p15 := eq_true p15; replace q15 := eq_true q15) | (go_at_call 42; (with_reducible refine (tontineref17_digits.calls kj1 a0 (wrap64 (t199 + 1)) t201 _ A17.out).mono ?_); rintro e w' ⟨rfl, ⟨nd, rfl⟩⟩))
           go_ret
           exact ⟨sq4, sq7⟩
          rw [if_neg c18] at H
          have c18b0 : (t201 == (a0.size : Int)) = false := beq_eq_false_iff_ne.mpr c18
          have c18b1 : (t201 != (a0.size : Int)) = true := bne_iff_ne.mpr c18
          obtain rfl := Option.some.inj H
          go_wp2_with (first | ((with_reducible refine gate_callee (f := 42) rfl ?_); refine goesL_ (some 13) rfl rfl Try.func42 sq1 rfl #[.string a0, .int .i64 1] rfl sq56 ?_; (with_reducible refine (tontineref17_digits.calls kj1 a0 1 t199 _ A7.out).mono ?_); rintro e w' ⟨rfl, ⟨nd, rfl⟩⟩; refine ⟨_, rfl, ?_⟩) | ((with_reducible refine gate_callee (f := 43) rfl ?_); refine goesL_ (some 17) rfl rfl Try.func43 sq1 rfl #[.string (a0.extract 1 (t199 : Int).toNat)] rfl sq56 ?_; (with_reducible refine (tontinebase_Digits.calls kj1 (a0.extract 1 (t199 : Int).toNat) true _ A10.out).mono ?_); rintro e w' ⟨rfl, ⟨nd, rfl⟩⟩; refine ⟨_, rfl, ?_⟩; have p15 : 0 ≤ (t199 : Int) := of_decide_eq_true sq5; have q15 : t199 < (a0.size : Int) := of_decide_eq_true sq5; have hx15 := bt_at a0 t199; replace p15 := eq_true p15; replace q15 := eq_true q15) | (go_at_call 42; (with_reducible refine (tontineref17_digits.calls kj1 a0 (wrap64 (t199 + 1)) t201 _ A17.out).mono ?_); rintro e w' ⟨rfl, ⟨nd, rfl⟩⟩))
          go_ret
          exact ⟨sq4, sq7⟩
         rw [if_neg c16] at H
         have c16b0 : ((bt a0 t199) == 46) = false := beq_eq_false_iff_ne.mpr c16
         have c16b1 : ((bt a0 t199) != 46) = true := bne_iff_ne.mpr c16
         obtain rfl := Option.some.inj H
         go_wp2_with (first | ((with_reducible refine gate_callee (f := 42) rfl ?_); refine goesL_ (some 13) rfl rfl Try.func42 sq1 rfl #[.string a0, .int .i64 1] rfl sq56 ?_; (with_reducible refine (tontineref17_digits.calls kj1 a0 1 t199 _ A7.out).mono ?_); rintro e w' ⟨rfl, ⟨nd, rfl⟩⟩; refine ⟨_, rfl, ?_⟩) | ((with_reducible refine gate_callee (f := 43) rfl ?_); refine goesL_ (some 17) rfl rfl Try.func43 sq1 rfl #[.string (a0.extract 1 (t199 : Int).toNat)] rfl sq56 ?_; (with_reducible refine (tontinebase_Digits.calls kj1 (a0.extract 1 (t199 : Int).toNat) true _ A10.out).mono ?_); rintro e w' ⟨rfl, ⟨nd, rfl⟩⟩; refine ⟨_, rfl, ?_⟩; have p15 : 0 ≤ (t199 : Int) := of_decide_eq_true sq5; have q15 : t199 < (a0.size : Int) := of_decide_eq_true sq5; have hx15 := bt_at a0 t199; replace p15 := eq_true p15; replace q15 := eq_true q15))
         go_ret
         exact ⟨sq4, sq7⟩
        rw [if_neg c14] at H
        exact absurd H (by simp)
       rw [if_neg c13] at H
       exact absurd H (by simp)
      rw [if_neg c12] at H
      have c12b0 : (t199 == (wrap64 ((a0.size : Int) - 3))) = false := beq_eq_false_iff_ne.mpr c12
      have c12b1 : (t199 != (wrap64 ((a0.size : Int) - 3))) = true := bne_iff_ne.mpr c12
      obtain rfl := Option.some.inj H
      go_wp2_with (first | ((with_reducible refine gate_callee (f := 42) rfl ?_); refine goesL_ (some 13) rfl rfl Try.func42 sq1 rfl #[.string a0, .int .i64 1] rfl sq56 ?_; (with_reducible refine (tontineref17_digits.calls kj1 a0 1 t199 _ A7.out).mono ?_); rintro e w' ⟨rfl, ⟨nd, rfl⟩⟩; refine ⟨_, rfl, ?_⟩) | ((with_reducible refine gate_callee (f := 43) rfl ?_); refine goesL_ (some 17) rfl rfl Try.func43 sq1 rfl #[.string (a0.extract 1 (t199 : Int).toNat)] rfl sq56 ?_; (with_reducible refine (tontinebase_Digits.calls kj1 (a0.extract 1 (t199 : Int).toNat) true _ A10.out).mono ?_); rintro e w' ⟨rfl, ⟨nd, rfl⟩⟩; refine ⟨_, rfl, ?_⟩))
      go_ret
      exact ⟨sq4, sq7⟩
     replace c11 := Bool.eq_false_iff.mpr c11
     subst c11
     replace H := (itF_ _ _).symm.trans H
     obtain rfl := Option.some.inj H
     go_wp2_with (first | ((with_reducible refine gate_callee (f := 42) rfl ?_); refine goesL_ (some 13) rfl rfl Try.func42 sq1 rfl #[.string a0, .int .i64 1] rfl sq56 ?_; (with_reducible refine (tontineref17_digits.calls kj1 a0 1 t199 _ A7.out).mono ?_); rintro e w' ⟨rfl, ⟨nd, rfl⟩⟩; refine ⟨_, rfl, ?_⟩) | ((with_reducible refine gate_callee (f := 43) rfl ?_); refine goesL_ (some 17) rfl rfl Try.func43 sq1 rfl #[.string (a0.extract 1 (t199 : Int).toNat)] rfl sq56 ?_; (with_reducible refine (tontinebase_Digits.calls kj1 (a0.extract 1 (t199 : Int).toNat) false _ A10.out).mono ?_); rintro e w' ⟨rfl, ⟨nd, rfl⟩⟩; refine ⟨_, rfl, ?_⟩))
     go_ret
     exact ⟨sq4, sq7⟩
    rw [if_neg c9] at H
    exact absurd H (by simp)
   rw [if_neg c8] at H
   exact absurd H (by simp)

end Go.Proofs.Ytaogejkmkalnlaa.PAll
