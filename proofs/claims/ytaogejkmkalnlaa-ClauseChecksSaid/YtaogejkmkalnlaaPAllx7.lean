-- Written by a program of this session (wip/tools/print2.sh): functions as plain Lean, and that the machine's calls do what they say.
import Derived.Test.YtaogejkmkalnlaaPAllx0
namespace Go.Proofs.Ytaogejkmkalnlaa.PAll
open Go.RowKit Go.Proofs.YtaogejkmkalnlaaW.PrintWords Go.Proofs.YtaogejkmkalnlaaW.PrintLast Go.Proofs.YtaogejkmkalnlaaW.PrintMore
attribute [local go_sem] max2_int min2_int max_two min_two max_three min_three max_four min_four   -- for this text's walks alone
set_option linter.unusedVariables false
set_option linter.unusedSimpArgs false

/-! ### tontinebase_Name: function 18 -/
mutual
def tontinebase_Name.j0 : Nat → ByteArray → Bool → Option (Bool)
 | 0, _, _ => none
 | k + 1, x0, x21 => if x21 = true then (some false) else (tontinebase_Name.l0 k x0 0)
def tontinebase_Name.l0 : Nat → ByteArray → Int → Option (Bool)
 | 0, _, _ => none
 | k + 1, x0, x3 => if x3 < (x0.size : Int) then (if 0 ≤ x3 then (if (bt x0 x3) ≥ 97 then (if (bt x0 x3) ≤ 122 then (tontinebase_Name.l0 k x0 (wrap64 (x3 + 1))) else (if (bt x0 x3) ≥ 48 then (if (bt x0 x3) ≤ 57 then (tontinebase_Name.l0 k x0 (wrap64 (x3 + 1))) else (if ((bt x0 x3) = 95) then (tontinebase_Name.l0 k x0 (wrap64 (x3 + 1))) else (some false))) else (if ((bt x0 x3) = 95) then (tontinebase_Name.l0 k x0 (wrap64 (x3 + 1))) else (some false)))) else (if (bt x0 x3) ≥ 48 then (if (bt x0 x3) ≤ 57 then (tontinebase_Name.l0 k x0 (wrap64 (x3 + 1))) else (if ((bt x0 x3) = 95) then (tontinebase_Name.l0 k x0 (wrap64 (x3 + 1))) else (some false))) else (if ((bt x0 x3) = 95) then (tontinebase_Name.l0 k x0 (wrap64 (x3 + 1))) else (some false)))) else (none)) else (some true)
end
def tontinebase_Name.f (k : Nat) (a0 : ByteArray) : Option (Bool) := if (a0.size : Int) < 1 then (tontinebase_Name.j0 k a0 true) else (if (a0.size : Int) > 24 then (tontinebase_Name.j0 k a0 true) else (if 0 < (a0.size : Int) then (if (bt a0 0) < 97 then (tontinebase_Name.j0 k a0 true) else (tontinebase_Name.j0 k a0 (decide ((bt a0 0) > 122)))) else (none)))
theorem tontinebase_Name.mono_l : ∀ k, (∀ y0 y1, LeO (tontinebase_Name.j0 k y0 y1) (tontinebase_Name.j0 (k + 1) y0 y1)) ∧ (∀ y0 y1, LeO (tontinebase_Name.l0 k y0 y1) (tontinebase_Name.l0 (k + 1) y0 y1))
 | 0 => ⟨fun _ _ r h => by simp [tontinebase_Name.j0] at h, fun _ _ r h => by simp [tontinebase_Name.l0] at h⟩
 | k + 1 => by
  obtain ⟨ih0, ih1⟩ := tontinebase_Name.mono_l k
  refine ⟨?_, ?_⟩
  ·intro y0 y1
   unfold tontinebase_Name.j0
   exact sq92
  intro y0 y1
  unfold tontinebase_Name.l0
  exact sq92
theorem tontinebase_Name.mono : ∀ a0 k, LeO (tontinebase_Name.f k a0) (tontinebase_Name.f (k + 1) a0) := by
 intro a0 k
 obtain ⟨ih0, ih1⟩ := tontinebase_Name.mono_l k
 unfold tontinebase_Name.f
 exact sq92
set_option maxHeartbeats 8000000 in
set_option maxRecDepth 100000 in
theorem tontinebase_Name.calls (k : Nat) (a0 : ByteArray) (r : Bool) (w : World) (h : tontinebase_Name.f k a0 = some r) :
  Calls Try.prog 18 #[.string a0] w fun e w' => e = .returned (.bool r) ∧ Drawn0 w w' := by
 have H : (if (a0.size : Int) < 1 then (tontinebase_Name.j0 k a0 true) else (if (a0.size : Int) > 24 then (tontinebase_Name.j0 k a0 true) else (if 0 < (a0.size : Int) then (if (bt a0 0) < 97 then (tontinebase_Name.j0 k a0 true) else (tontinebase_Name.j0 k a0 (decide ((bt a0 0) > 122)))) else (none)))) = some r := h
 clear h
 have HC2 := Aside0.mk H
 clear H
 go_enter Try.func18, Try.ntmps18
 go_upto_region 1 with (fail)
 go_cut [21] (fun v21 wc => ∃ (kq : Nat) (x21_1 : Bool), v21 = .bool x21_1 ∧ Aside0 (tontinebase_Name.j0 kq a0 x21_1 = some r) ∧ Aside0 (kq ≤ k) ∧ Drawn0 w wc)
 case first =>
  have H := HC2.out
  clear HC2
  by_cases c3 : (a0.size : Int) < 1
  ·rw [if_pos c3] at H
   have c3b0 : decide ((a0.size : Int) < 1) = true := decide_eq_true c3
   have c3b1 : decide (a0.size < 1) = true := decide_eq_true (by omega)
   clear c3
   (first | rw [c3b0] | (simp only [i64_w, i32_w]; rw [c3b0]) | skip)
   have H' := Aside0.mk H
   clear H
   go_wp2
   go_meet
   case rel => exact ⟨_, (true), sq4, H', ⟨sq2⟩, sq7⟩
  rw [if_neg c3] at H
  have c3b0 : decide ((a0.size : Int) < 1) = false := decide_eq_false c3
  have c3b1 : decide (a0.size < 1) = false := decide_eq_false (by omega)
  clear c3
  (first | rw [c3b0] | (simp only [i64_w, i32_w]; rw [c3b0]) | skip)
  by_cases c4 : (a0.size : Int) > 24
  ·rw [if_pos c4] at H
   have c4b0 : decide (24 < (a0.size : Int)) = true := decide_eq_true c4
   have c4b1 : decide (24 < a0.size) = true := decide_eq_true (by omega)
   clear c4
   have H' := Aside0.mk H
   clear H
   go_wp2
   go_meet
   case rel => exact ⟨_, (true), sq4, H', ⟨sq2⟩, sq7⟩
  rw [if_neg c4] at H
  have c4b0 : decide (24 < (a0.size : Int)) = false := decide_eq_false c4
  have c4b1 : decide (24 < a0.size) = false := decide_eq_false (by omega)
  clear c4
  by_cases c5 : 0 < (a0.size : Int)
  ·rw [if_pos c5] at H
   have c5b0 : decide (0 < (a0.size : Int)) = true := decide_eq_true c5
   have c5b1 : decide (0 < a0.size) = true := decide_eq_true (by omega)
   clear c5
   by_cases c7 : (bt a0 0) < 97
   ·rw [if_pos c7] at H
    have c7b0 : decide ((bt a0 0) < 97) = true := decide_eq_true c7; clear c7
    have H' := Aside0.mk H
    clear H
    have p6 : 0 ≤ (0 : Int) := (by omega)
    have q6 : 0 < a0.size := (by have : (0 : Int) < (a0.size : Int) := of_decide_eq_true sq5; omega)
    have hx6 : ∀ h : 0 < a0.size, ((a0[0]'h).toNat : Int) = bt a0 0 := bt_at a0 0
    clear p6
    have qi6 : (0 < (a0.size : Int)) = True := eq_true (of_decide_eq_true sq5)
    replace q6 := eq_true q6
    go_wp2
    go_meet
    case rel => exact ⟨_, (true), sq4, H', ⟨sq2⟩, sq7⟩
   rw [if_neg c7] at H
   have c7b0 : decide ((bt a0 0) < 97) = false := decide_eq_false c7; clear c7
   have H' := Aside0.mk H
   clear H
   have p6 : 0 ≤ (0 : Int) := (by omega)
   have q6 : 0 < a0.size := (by have : (0 : Int) < (a0.size : Int) := of_decide_eq_true sq5; omega)
   have hx6 : ∀ h : 0 < a0.size, ((a0[0]'h).toNat : Int) = bt a0 0 := bt_at a0 0
   clear p6
   have qi6 : (0 < (a0.size : Int)) = True := eq_true (of_decide_eq_true sq5)
   replace q6 := eq_true q6
   have p8 : 0 ≤ (0 : Int) := (by omega)
   have q8 : 0 < a0.size := (by have : (0 : Int) < (a0.size : Int) := of_decide_eq_true sq5; omega)
   have hx8 : ∀ h : 0 < a0.size, ((a0[0]'h).toNat : Int) = bt a0 0 := bt_at a0 0
   clear p8
   have qi8 : (0 < (a0.size : Int)) = True := eq_true (of_decide_eq_true sq5)
   replace q8 := eq_true q8
   go_wp2
   go_meet
   case rel => exact ⟨_, (decide ((bt a0 0) > 122)), sq4, H', ⟨sq2⟩, sq7⟩
  rw [if_neg c5] at H
  exact absurd H (by simp)
 case rest =>
  clear HC2; try clear c1; try clear p2; try clear c3; try clear c3b0; try clear c3b1; try clear c4; try clear c4b0; try clear c4b1; try clear c5; try clear c5b0; try clear c5b1; try clear p6; try clear q6; try clear hx6; try clear qi6; try clear c7; try clear c7b0; try clear p8; try clear q8; try clear hx8; try clear qi8; try clear p6; try clear p8; try clear q6; try clear q8
  obtain ⟨kq, x21_1, rfl, HA, HJ1, ⟨mc1, rfl⟩⟩ := hcut
  cases kq with
  | zero => exact absurd HA.out (by simp [tontinebase_Name.j0])
  | succ kj1 =>
   have H := HA.out
   clear HA
   simp only [tontinebase_Name.j0] at H
   by_cases c9 : x21_1 = true
   ·subst c9
    replace H := (itT_ _ _).symm.trans H
    obtain rfl := Option.some.inj H
    go_wp2
    go_ret
    exact ⟨sq4, sq7⟩
   replace c9 := Bool.eq_false_iff.mpr c9
   subst c9
   replace H := (itF_ _ _).symm.trans H
   have H' := Aside0.mk H
   clear H
   go_wp2
   go_loopg [3] kj1 (fun kq v3 w' => ∃ (x3_2 : Int), v3 = .int .i64 x3_2 ∧ Aside0 (tontinebase_Name.l0 kq a0 x3_2 = some r) ∧ Aside0 (kq ≤ kj1) ∧ Drawn0 w w')
   case atStart => exact ⟨(0), sq4, H', ⟨Nat.le_refl _⟩, sq7⟩
   case round =>
    clear H'
    try clear c1; try clear p2; try clear c3; try clear c3b0; try clear c3b1; try clear c4; try clear c4b0; try clear c4b1; try clear c5; try clear c5b0; try clear c5b1; try clear p6; try clear q6; try clear hx6; try clear qi6; try clear c7; try clear c7b0; try clear p8; try clear q8; try clear hx8; try clear qi8; try clear c9; try clear p2; try clear p6; try clear p8; try clear q6; try clear q8
    obtain ⟨x3_2, rfl, HA, HK2, ⟨m2, rfl⟩⟩ := hrel
    cases gk with
    | zero => exact absurd HA.out (by simp [tontinebase_Name.l0])
    | succ k2 =>
     have H := HA.out
     clear HA
     simp only [tontinebase_Name.l0] at H
     by_cases c10 : x3_2 < (a0.size : Int)
     ·rw [if_pos c10] at H
      have c10b0 : decide (x3_2 < (a0.size : Int)) = true := decide_eq_true c10; clear c10
      by_cases c11 : 0 ≤ x3_2
      ·rw [if_pos c11] at H
       have c11b0 : decide (0 ≤ x3_2) = true := decide_eq_true c11; clear c11
       by_cases c13 : (bt a0 x3_2) ≥ 97
       ·rw [if_pos c13] at H
        have c13b0 : decide (97 ≤ (bt a0 x3_2)) = true := decide_eq_true c13; clear c13
        by_cases c15 : (bt a0 x3_2) ≤ 122
        ·rw [if_pos c15] at H
         have c15b0 : decide ((bt a0 x3_2) ≤ 122) = true := decide_eq_true c15; clear c15
         have H' := Aside0.mk H
         clear H
         obtain ⟨p12, q12, hx12⟩ := btf_ a0 x3_2
         obtain ⟨p14, q14, hx14⟩ := btf_ a0 x3_2
         go_wp2
         go_roundg k2
         case measure => have := HJ1.out; have := HK2.out; omega
         case rel => exact ⟨(wrap64 (x3_2 + 1)), sq4, H', ⟨sq3⟩, sq7⟩
        rw [if_neg c15] at H
        have c15b0 : decide ((bt a0 x3_2) ≤ 122) = false := decide_eq_false c15; clear c15
        by_cases c17 : (bt a0 x3_2) ≥ 48
        ·rw [if_pos c17] at H
         have c17b0 : decide (48 ≤ (bt a0 x3_2)) = true := decide_eq_true c17; clear c17
         by_cases c19 : (bt a0 x3_2) ≤ 57
         ·rw [if_pos c19] at H
          have c19b0 : decide ((bt a0 x3_2) ≤ 57) = true := decide_eq_true c19; clear c19
          have H' := Aside0.mk H
          clear H
          obtain ⟨p12, q12, hx12⟩ := btf_ a0 x3_2
          obtain ⟨p14, q14, hx14⟩ := btf_ a0 x3_2
          obtain ⟨p16, q16, hx16⟩ := btf_ a0 x3_2
          obtain ⟨p18, q18, hx18⟩ := btf_ a0 x3_2
          go_wp2
          go_roundg k2
          case measure => have := HJ1.out; have := HK2.out; omega
          case rel => exact ⟨(wrap64 (x3_2 + 1)), sq4, H', ⟨sq3⟩, sq7⟩
         rw [if_neg c19] at H
         have c19b0 : decide ((bt a0 x3_2) ≤ 57) = false := decide_eq_false c19; clear c19
         by_cases c21 : ((bt a0 x3_2) = 95)
         ·rw [if_pos c21] at H
          have c21b0 : ((bt a0 x3_2) == 95) = true := beq_iff_eq.mpr c21
          have c21b1 : ((bt a0 x3_2) != 95) = false := bne_eq_false_iff_eq.mpr c21
          clear c21
          have H' := Aside0.mk H
          clear H
          obtain ⟨p12, q12, hx12⟩ := btf_ a0 x3_2
          obtain ⟨p14, q14, hx14⟩ := btf_ a0 x3_2
          obtain ⟨p16, q16, hx16⟩ := btf_ a0 x3_2
          obtain ⟨p18, q18, hx18⟩ := btf_ a0 x3_2
          obtain ⟨p20, q20, hx20⟩ := btf_ a0 x3_2
          go_wp2
          go_roundg k2
          case measure => have := HJ1.out; have := HK2.out; omega
          case rel => exact ⟨(wrap64 (x3_2 + 1)), sq4, H', ⟨sq3⟩, sq7⟩
         rw [if_neg c21] at H
         have c21b0 : ((bt a0 x3_2) == 95) = false := beq_eq_false_iff_ne.mpr c21
         have c21b1 : ((bt a0 x3_2) != 95) = true := bne_iff_ne.mpr c21
         obtain rfl := Option.some.inj H
         obtain ⟨p12, q12, hx12⟩ := btf_ a0 x3_2
         obtain ⟨p14, q14, hx14⟩ := btf_ a0 x3_2
         obtain ⟨p16, q16, hx16⟩ := btf_ a0 x3_2
         obtain ⟨p18, q18, hx18⟩ := btf_ a0 x3_2
         obtain ⟨p20, q20, hx20⟩ := btf_ a0 x3_2
         go_wp2
         go_ret
         exact ⟨sq4, sq7⟩
        rw [if_neg c17] at H
        have c17b0 : decide (48 ≤ (bt a0 x3_2)) = false := decide_eq_false c17; clear c17
        by_cases c23 : ((bt a0 x3_2) = 95)
        ·rw [if_pos c23] at H
         have c23b0 : ((bt a0 x3_2) == 95) = true := beq_iff_eq.mpr c23
         have c23b1 : ((bt a0 x3_2) != 95) = false := bne_eq_false_iff_eq.mpr c23
         clear c23
         have H' := Aside0.mk H
         clear H
         obtain ⟨p12, q12, hx12⟩ := btf_ a0 x3_2
         obtain ⟨p14, q14, hx14⟩ := btf_ a0 x3_2
         obtain ⟨p16, q16, hx16⟩ := btf_ a0 x3_2
         obtain ⟨p22, q22, hx22⟩ := btf_ a0 x3_2
         go_wp2
         go_roundg k2
         case measure => have := HJ1.out; have := HK2.out; omega
         case rel => exact ⟨(wrap64 (x3_2 + 1)), sq4, H', ⟨sq3⟩, sq7⟩
        rw [if_neg c23] at H
        have c23b0 : ((bt a0 x3_2) == 95) = false := beq_eq_false_iff_ne.mpr c23
        have c23b1 : ((bt a0 x3_2) != 95) = true := bne_iff_ne.mpr c23
        obtain rfl := Option.some.inj H
        obtain ⟨p12, q12, hx12⟩ := btf_ a0 x3_2
        obtain ⟨p14, q14, hx14⟩ := btf_ a0 x3_2
        obtain ⟨p16, q16, hx16⟩ := btf_ a0 x3_2
        obtain ⟨p22, q22, hx22⟩ := btf_ a0 x3_2
        go_wp2
        go_ret
        exact ⟨sq4, sq7⟩
       rw [if_neg c13] at H
       have c13b0 : decide (97 ≤ (bt a0 x3_2)) = false := decide_eq_false c13; clear c13
       by_cases c25 : (bt a0 x3_2) ≥ 48
       ·rw [if_pos c25] at H
        have c25b0 : decide (48 ≤ (bt a0 x3_2)) = true := decide_eq_true c25; clear c25
        by_cases c27 : (bt a0 x3_2) ≤ 57
        ·rw [if_pos c27] at H
         have c27b0 : decide ((bt a0 x3_2) ≤ 57) = true := decide_eq_true c27; clear c27
         have H' := Aside0.mk H
         clear H
         obtain ⟨p12, q12, hx12⟩ := btf_ a0 x3_2
         obtain ⟨p24, q24, hx24⟩ := btf_ a0 x3_2
         obtain ⟨p26, q26, hx26⟩ := btf_ a0 x3_2
         go_wp2
         go_roundg k2
         case measure => have := HJ1.out; have := HK2.out; omega
         case rel => exact ⟨(wrap64 (x3_2 + 1)), sq4, H', ⟨sq3⟩, sq7⟩
        rw [if_neg c27] at H
        have c27b0 : decide ((bt a0 x3_2) ≤ 57) = false := decide_eq_false c27; clear c27
        by_cases c29 : ((bt a0 x3_2) = 95)
        ·rw [if_pos c29] at H
         have c29b0 : ((bt a0 x3_2) == 95) = true := beq_iff_eq.mpr c29
         have c29b1 : ((bt a0 x3_2) != 95) = false := bne_eq_false_iff_eq.mpr c29
         clear c29
         have H' := Aside0.mk H
         clear H
         obtain ⟨p12, q12, hx12⟩ := btf_ a0 x3_2
         obtain ⟨p24, q24, hx24⟩ := btf_ a0 x3_2
         obtain ⟨p26, q26, hx26⟩ := btf_ a0 x3_2
         obtain ⟨p28, q28, hx28⟩ := btf_ a0 x3_2
         go_wp2
         go_roundg k2
         case measure => have := HJ1.out; have := HK2.out; omega
         case rel => exact ⟨(wrap64 (x3_2 + 1)), sq4, H', ⟨sq3⟩, sq7⟩
        rw [if_neg c29] at H
        have c29b0 : ((bt a0 x3_2) == 95) = false := beq_eq_false_iff_ne.mpr c29
        have c29b1 : ((bt a0 x3_2) != 95) = true := bne_iff_ne.mpr c29
        obtain rfl := Option.some.inj H
        obtain ⟨p12, q12, hx12⟩ := btf_ a0 x3_2
        obtain ⟨p24, q24, hx24⟩ := btf_ a0 x3_2
        obtain ⟨p26, q26, hx26⟩ := btf_ a0 x3_2
        obtain ⟨p28, q28, hx28⟩ := btf_ a0 x3_2
        go_wp2
        go_ret
        exact ⟨sq4, sq7⟩
       rw [if_neg c25] at H
       have c25b0 : decide (48 ≤ (bt a0 x3_2)) = false := decide_eq_false c25; clear c25
       by_cases c31 : ((bt a0 x3_2) = 95)
       ·rw [if_pos c31] at H
        have c31b0 : ((bt a0 x3_2) == 95) = true := beq_iff_eq.mpr c31
        have c31b1 : ((bt a0 x3_2) != 95) = false := bne_eq_false_iff_eq.mpr c31
        clear c31
        have H' := Aside0.mk H
        clear H
        obtain ⟨p12, q12, hx12⟩ := btf_ a0 x3_2
        obtain ⟨p24, q24, hx24⟩ := btf_ a0 x3_2
        obtain ⟨p30, q30, hx30⟩ := btf_ a0 x3_2
        go_wp2
        go_roundg k2
        case measure => have := HJ1.out; have := HK2.out; omega
        case rel => exact ⟨(wrap64 (x3_2 + 1)), sq4, H', ⟨sq3⟩, sq7⟩
       rw [if_neg c31] at H
       have c31b0 : ((bt a0 x3_2) == 95) = false := beq_eq_false_iff_ne.mpr c31
       have c31b1 : ((bt a0 x3_2) != 95) = true := bne_iff_ne.mpr c31
       obtain rfl := Option.some.inj H
       obtain ⟨p12, q12, hx12⟩ := btf_ a0 x3_2
       obtain ⟨p24, q24, hx24⟩ := btf_ a0 x3_2
       obtain ⟨p30, q30, hx30⟩ := btf_ a0 x3_2
       go_wp2
       go_ret
       exact ⟨sq4, sq7⟩
      rw [if_neg c11] at H
      exact absurd H (by simp)
     rw [if_neg c10] at H
     have c10b0 : decide (x3_2 < (a0.size : Int)) = false := decide_eq_false c10; clear c10
     obtain rfl := Option.some.inj H
     go_wp2
     go_ret
     exact ⟨sq4, sq7⟩

/-! ### tontineref17_Kept: function 35: by hand -/
def tontineref17_Kept.f (a0 : ByteArray) : Option Bool := some (Ytaogejkmkalnlaa.HB.keptB a0)
theorem tontineref17_Kept.calls (a0 : ByteArray) (r : Bool) (w : World) (h : tontineref17_Kept.f a0 = some r) :
  Calls Try.prog 35 #[.string a0] w fun e w' => e = .returned (.bool r) ∧ Below w.heap.size w w' := by
 unfold tontineref17_Kept.f at h
 obtain rfl := Option.some.inj h
 exact Ytaogejkmkalnlaa.HB.kept_any a0 w

/-! ### tontineref17_Word: function 30 -/
def tontineref17_Word.f (k : Nat) (a0 : ByteArray) : Option (Bool) := (tontinebase_Name.f k a0).bind fun t186 => (if t186 = true then ((tontineref17_Kept.f a0).bind fun t187 => (some (!t187))) else (some false))
theorem tontineref17_Word.mono : ∀ a0 k, LeO (tontineref17_Word.f k a0) (tontineref17_Word.f (k + 1) a0) := by
 intro a0 k
 unfold tontineref17_Word.f
 exact (by repeat' first | (with_reducible exact tontinebase_Name.mono _ _) | (with_reducible exact LeO.refl _) | (with_reducible exact LeO.none _) | (with_reducible refine LeO.ite ?_ ?_) | (with_reducible refine LeO.bind ?_ (fun _ => ?_)) | exact tontinebase_Name.mono _ _ | exact LeO.none _ | refine LeO.ite ?_ ?_ | refine LeO.bind ?_ (fun _ => ?_))
set_option maxHeartbeats 8000000 in
set_option maxRecDepth 100000 in
theorem tontineref17_Word.calls (k : Nat) (a0 : ByteArray) (r : Bool) (w : World) (h : tontineref17_Word.f k a0 = some r) :
  Calls Try.prog 30 #[.string a0] w fun e w' => e = .returned (.bool r) ∧ Below w.heap.size w w' := by
 have HB := Aside0.mk (Below.refl w.heap.size w)
 have H : ((tontinebase_Name.f k a0).bind fun t186 => (if t186 = true then ((tontineref17_Kept.f a0).bind fun t187 => (some (!t187))) else (some false))) = some r := h
 clear h
 replace H := Option.bind_eq_some_iff.mp H
 obtain ⟨t186, A20, H⟩ := H
 replace H : (if t186 = true then ((tontineref17_Kept.f a0).bind fun t187 => (some (!t187))) else (some false)) = some r := H
 have A2 := Aside0.mk A20
 clear A20
 by_cases c3 : t186 = true
 ·subst c3
  replace H := (itT_ _ _).symm.trans H
  replace H := Option.bind_eq_some_iff.mp H
  obtain ⟨t187, A40, H⟩ := H
  replace H : (some (!t187)) = some r := H
  have A4 := Aside0.mk A40
  clear A40
  obtain rfl := Option.some.inj H
  go_enter Try.func30, Try.ntmps30
  go_wp2_with (first | ((with_reducible refine gate_callee (f := 18) rfl ?_); refine goesL_ (some 4) rfl rfl Try.func18 sq1 rfl #[.string a0] rfl sq56 ?_; (with_reducible refine (tontinebase_Name.calls k a0 true _ A2.out).mono ?_); rintro e w' ⟨rfl, ⟨nd, rfl⟩⟩; refine ⟨_, rfl, ?_⟩) | (go_at_call 35; (with_reducible refine (tontineref17_Kept.calls a0 t187 _ A4.out).mono ?_); rintro e w5 ⟨rfl, hb⟩; have n0_ := Aside0.mk (below_step sq55 hb); clear HB; have HB := n0_; clear n0_; (try clear hb); (try clear hb2); (try clear hk); (try clear hi)))
  go_ret
  exact ⟨sq23, sq55⟩
 replace c3 := Bool.eq_false_iff.mpr c3
 subst c3
 replace H := (itF_ _ _).symm.trans H
 obtain rfl := Option.some.inj H
 go_enter Try.func30, Try.ntmps30
 go_wp2_with (first | ((with_reducible refine gate_callee (f := 18) rfl ?_); refine goesL_ (some 4) rfl rfl Try.func18 sq1 rfl #[.string a0] rfl sq56 ?_; (with_reducible refine (tontinebase_Name.calls k a0 false _ A2.out).mono ?_); rintro e w' ⟨rfl, ⟨nd, rfl⟩⟩; refine ⟨_, rfl, ?_⟩))
 go_ret
 exact ⟨sq23, sq55⟩

end Go.Proofs.Ytaogejkmkalnlaa.PAll
