-- Written by a program of this session (wip/tools/print2.sh): functions as plain Lean, and that the machine's calls do what they say.
import Derived.Test.YtpfnnamicbbobaaPAllx0
import Derived.Test.YtpfnnamicbbobaaPAllx1
import Derived.Test.YtpfnnamicbbobaaPAllx4
import Derived.Test.YtpfnnamicbbobaaPAllx6
namespace Go.Proofs.Ytpfnnamicbbobaa.PAll
open Go.RowKit Go.Proofs.YtpfnnamicbbobaaW.PrintWords Go.Proofs.YtpfnnamicbbobaaW.PrintLast Go.Proofs.YtpfnnamicbbobaaW.PrintMore
attribute [local go_sem] max2_int min2_int max_two min_two max_three min_three max_four min_four   -- for this text's walks alone
set_option linter.unusedVariables false
set_option linter.unusedSimpArgs false

attribute [local go_sem high] eqA28
/-! ### kind_isName: function 35 -/
mutual
def kind_isName.j0 : Nat → ByteArray → Bool → Option (Bool)
 | 0, _, _ => none
 | k + 1, x0, x21 => if x21 = true then (some false) else (kind_isName.l0 k x0 (x0.size : Int) 0)
def kind_isName.l0 : Nat → ByteArray → Int → Int → Option (Bool)
 | 0, _, _, _ => none
 | k + 1, x0, x23, x24 => if x24 < x23 then (if 0 ≤ x24 then (if x24 < (x0.size : Int) then (if (bt x0 x24) ≥ 97 then (if (bt x0 x24) ≤ 122 then (kind_isName.l0 k x0 x23 (wrap64 (x24 + 1))) else (if (bt x0 x24) ≥ 48 then (if (bt x0 x24) ≤ 57 then (kind_isName.l0 k x0 x23 (wrap64 (x24 + 1))) else (if ((bt x0 x24) = 95) then (kind_isName.l0 k x0 x23 (wrap64 (x24 + 1))) else (some false))) else (if ((bt x0 x24) = 95) then (kind_isName.l0 k x0 x23 (wrap64 (x24 + 1))) else (some false)))) else (if (bt x0 x24) ≥ 48 then (if (bt x0 x24) ≤ 57 then (kind_isName.l0 k x0 x23 (wrap64 (x24 + 1))) else (if ((bt x0 x24) = 95) then (kind_isName.l0 k x0 x23 (wrap64 (x24 + 1))) else (some false))) else (if ((bt x0 x24) = 95) then (kind_isName.l0 k x0 x23 (wrap64 (x24 + 1))) else (some false)))) else (none)) else (none)) else (some true)
end
def kind_isName.f (k : Nat) (a0 : ByteArray) : Option (Bool) := if a0.toList = ([] : List UInt8) then (kind_isName.j0 k a0 true) else (if (a0.size : Int) > 24 then (kind_isName.j0 k a0 true) else (if 0 < (a0.size : Int) then (if (bt a0 0) < 97 then (kind_isName.j0 k a0 true) else (kind_isName.j0 k a0 (decide ((bt a0 0) > 122)))) else (none)))
theorem kind_isName.mono_l : ∀ k, (∀ y0 y1, LeO (kind_isName.j0 k y0 y1) (kind_isName.j0 (k + 1) y0 y1)) ∧ (∀ y0 y1 y2, LeO (kind_isName.l0 k y0 y1 y2) (kind_isName.l0 (k + 1) y0 y1 y2))
 | 0 => ⟨fun _ _ r h => by simp [kind_isName.j0] at h, fun _ _ _ r h => by simp [kind_isName.l0] at h⟩
 | k + 1 => by
  obtain ⟨ih0, ih1⟩ := kind_isName.mono_l k
  refine ⟨?_, ?_⟩
  ·intro y0 y1
   unfold kind_isName.j0
   exact sq101
  intro y0 y1 y2
  unfold kind_isName.l0
  exact sq101
theorem kind_isName.mono : ∀ a0 k, LeO (kind_isName.f k a0) (kind_isName.f (k + 1) a0) := by
 intro a0 k
 obtain ⟨ih0, ih1⟩ := kind_isName.mono_l k
 unfold kind_isName.f
 exact sq101
set_option maxHeartbeats 8000000 in
set_option maxRecDepth 100000 in
theorem kind_isName.calls (k : Nat) (a0 : ByteArray) (r : Bool) (w : World) (h : kind_isName.f k a0 = some r) :
  Calls Try.prog 35 #[.string a0] w fun e w' => e = .returned (.bool r) ∧ Drawn0 w w' := by
 have H : (if a0.toList = ([] : List UInt8) then (kind_isName.j0 k a0 true) else (if (a0.size : Int) > 24 then (kind_isName.j0 k a0 true) else (if 0 < (a0.size : Int) then (if (bt a0 0) < 97 then (kind_isName.j0 k a0 true) else (kind_isName.j0 k a0 (decide ((bt a0 0) > 122)))) else (none)))) = some r := h
 clear h
 have HC2 := Aside0.mk H
 clear H
 go_enter Try.func35, Try.ntmps35
 go_upto_region 1 with (fail)
 go_cut [21] (fun v21 wc => ∃ (kq : Nat) (x21_1 : Bool), v21 = .bool x21_1 ∧ Aside0 (kind_isName.j0 kq a0 x21_1 = some r) ∧ Aside0 (kq ≤ k) ∧ Drawn0 w wc)
 case first =>
  have H := HC2.out
  clear HC2
  by_cases c3 : a0.toList = ([] : List UInt8)
  ·rw [if_pos c3] at H
   have c3b0 : (a0.toList == ([] : List UInt8)) = true := beq_iff_eq.mpr c3
   have c3b1 : (a0.toList != ([] : List UInt8)) = false := bne_eq_false_iff_eq.mpr c3
   clear c3
   (first | rw [c3b0] | (simp only [i64_w, i32_w]; rw [c3b0]) | skip)
   have H' := Aside0.mk H
   clear H
   go_wp2
   go_meet
   case rel => exact ⟨_, (true), sq5, H', ⟨sq3⟩, sq7⟩
  rw [if_neg c3] at H
  have c3b0 : (a0.toList == ([] : List UInt8)) = false := beq_eq_false_iff_ne.mpr c3
  have c3b1 : (a0.toList != ([] : List UInt8)) = true := bne_iff_ne.mpr c3
  (first | rw [c3b0] | (simp only [i64_w, i32_w]; rw [c3b0]) | skip)
  by_cases c4 : (a0.size : Int) > 24
  ·rw [if_pos c4] at H
   have c4b0 : decide (24 < (a0.size : Int)) = true := decide_eq_true c4
   have c4b1 : decide (24 < a0.size) = true := decide_eq_true sq0
   clear c4
   have H' := Aside0.mk H
   clear H
   go_wp2
   go_meet
   case rel => exact ⟨_, (true), sq5, H', ⟨sq3⟩, sq7⟩
  rw [if_neg c4] at H
  have c4b0 : decide (24 < (a0.size : Int)) = false := decide_eq_false c4
  have c4b1 : decide (24 < a0.size) = false := decide_eq_false sq0
  clear c4
  by_cases c5 : 0 < (a0.size : Int)
  ·rw [if_pos c5] at H
   have c5b0 : decide (0 < (a0.size : Int)) = true := decide_eq_true c5
   have c5b1 : decide (0 < a0.size) = true := decide_eq_true sq0
   clear c5
   by_cases c7 : (bt a0 0) < 97
   ·rw [if_pos c7] at H
    have c7b0 : decide ((bt a0 0) < 97) = true := decide_eq_true c7; clear c7
    have H' := Aside0.mk H
    clear H
    have p6 : 0 ≤ (0 : Int) := sq0
    have q6 : 0 < a0.size := (by have : (0 : Int) < (a0.size : Int) := of_decide_eq_true sq6; omega)
    have hx6 : ∀ h : 0 < a0.size, ((a0[0]'h).toNat : Int) = bt a0 0 := bt_at a0 0
    clear p6
    have qi6 : (0 < (a0.size : Int)) = True := eq_true (of_decide_eq_true sq6)
    replace q6 := eq_true q6
    go_wp2
    go_meet
    case rel => exact ⟨_, (true), sq5, H', ⟨sq3⟩, sq7⟩
   rw [if_neg c7] at H
   have c7b0 : decide ((bt a0 0) < 97) = false := decide_eq_false c7; clear c7
   have H' := Aside0.mk H
   clear H
   have p6 : 0 ≤ (0 : Int) := sq0
   have q6 : 0 < a0.size := (by have : (0 : Int) < (a0.size : Int) := of_decide_eq_true sq6; omega)
   have hx6 : ∀ h : 0 < a0.size, ((a0[0]'h).toNat : Int) = bt a0 0 := bt_at a0 0
   clear p6
   have qi6 : (0 < (a0.size : Int)) = True := eq_true (of_decide_eq_true sq6)
   replace q6 := eq_true q6
   have p8 : 0 ≤ (0 : Int) := sq0
   have q8 : 0 < a0.size := (by have : (0 : Int) < (a0.size : Int) := of_decide_eq_true sq6; omega)
   have hx8 : ∀ h : 0 < a0.size, ((a0[0]'h).toNat : Int) = bt a0 0 := bt_at a0 0
   clear p8
   have qi8 : (0 < (a0.size : Int)) = True := eq_true (of_decide_eq_true sq6)
   replace q8 := eq_true q8
   go_wp2
   go_meet
   case rel => exact ⟨_, (decide ((bt a0 0) > 122)), sq5, H', ⟨sq3⟩, sq7⟩
  rw [if_neg c5] at H
  exact absurd H (by simp)
 case rest =>
  clear HC2; try clear p2; try clear c3; try clear c3b0; try clear c3b1; try clear c4; try clear c4b0; try clear c4b1; try clear c5; try clear c5b0; try clear c5b1; try clear p6; try clear q6; try clear hx6; try clear qi6; try clear c7; try clear c7b0; try clear p8; try clear q8; try clear hx8; try clear qi8; try clear p6; try clear p8; try clear q6; try clear q8
  obtain ⟨kq, x21_1, rfl, HA, HJ1, ⟨mc1, rfl⟩⟩ := hcut
  cases kq with
  | zero => exact absurd HA.out (by simp [kind_isName.j0])
  | succ kj1 =>
   have H := HA.out
   clear HA
   simp only [kind_isName.j0] at H
   by_cases c9 : x21_1 = true
   ·subst c9
    replace H := (itT_ _ _).symm.trans H
    obtain rfl := Option.some.inj H
    go_wp2
    go_ret
    exact ⟨sq5, sq7⟩
   replace c9 := Bool.eq_false_iff.mpr c9
   subst c9
   replace H := (itF_ _ _).symm.trans H
   have H' := Aside0.mk H
   clear H
   go_wp2
   go_loopg [24] kj1 (fun kq v24 w' => ∃ (x24_2 : Int), v24 = .int .i64 x24_2 ∧ Aside0 (kind_isName.l0 kq a0 (a0.size : Int) x24_2 = some r) ∧ Aside0 (kq ≤ kj1) ∧ Drawn0 w w')
   case atStart => exact ⟨(0), sq5, H', ⟨Nat.le_refl _⟩, sq7⟩
   case round =>
    clear H'
    try clear c1; try clear p2; try clear c3; try clear c3b0; try clear c3b1; try clear c4; try clear c4b0; try clear c4b1; try clear c5; try clear c5b0; try clear c5b1; try clear p6; try clear q6; try clear hx6; try clear qi6; try clear c7; try clear c7b0; try clear p8; try clear q8; try clear hx8; try clear qi8; try clear c9; try clear p2; try clear p6; try clear p8; try clear q6; try clear q8
    obtain ⟨x24_2, rfl, HA, HK2, ⟨m2, rfl⟩⟩ := hrel
    cases gk with
    | zero => exact absurd HA.out (by simp [kind_isName.l0])
    | succ k2 =>
     have H := HA.out
     clear HA
     simp only [kind_isName.l0] at H
     by_cases c10 : x24_2 < (a0.size : Int)
     ·rw [if_pos c10] at H
      have c10b0 : decide (x24_2 < (a0.size : Int)) = true := decide_eq_true c10; clear c10
      by_cases c11 : 0 ≤ x24_2
      ·rw [if_pos c11] at H
       have c11b0 : decide (0 ≤ x24_2) = true := decide_eq_true c11; clear c11
       by_cases c12 : x24_2 < (a0.size : Int)
       ·rw [if_pos c12] at H
        have c12b0 : decide (x24_2 < (a0.size : Int)) = true := decide_eq_true c12; clear c12
        by_cases c14 : (bt a0 x24_2) ≥ 97
        ·rw [if_pos c14] at H
         have c14b0 : decide (97 ≤ (bt a0 x24_2)) = true := decide_eq_true c14; clear c14
         by_cases c15 : (bt a0 x24_2) ≤ 122
         ·rw [if_pos c15] at H
          have c15b0 : decide ((bt a0 x24_2) ≤ 122) = true := decide_eq_true c15; clear c15
          have H' := Aside0.mk H
          clear H
          obtain ⟨p13, q13, hx13⟩ := btf_ a0 x24_2
          go_wp2
          go_roundg k2
          case measure => have := HJ1.out; have := HK2.out; omega
          case rel => exact ⟨(wrap64 (x24_2 + 1)), sq5, H', ⟨sq4⟩, sq7⟩
         rw [if_neg c15] at H
         have c15b0 : decide ((bt a0 x24_2) ≤ 122) = false := decide_eq_false c15; clear c15
         by_cases c16 : (bt a0 x24_2) ≥ 48
         ·rw [if_pos c16] at H
          have c16b0 : decide (48 ≤ (bt a0 x24_2)) = true := decide_eq_true c16; clear c16
          by_cases c17 : (bt a0 x24_2) ≤ 57
          ·rw [if_pos c17] at H
           have c17b0 : decide ((bt a0 x24_2) ≤ 57) = true := decide_eq_true c17; clear c17
           have H' := Aside0.mk H
           clear H
           obtain ⟨p13, q13, hx13⟩ := btf_ a0 x24_2
           go_wp2
           go_roundg k2
           case measure => have := HJ1.out; have := HK2.out; omega
           case rel => exact ⟨(wrap64 (x24_2 + 1)), sq5, H', ⟨sq4⟩, sq7⟩
          rw [if_neg c17] at H
          have c17b0 : decide ((bt a0 x24_2) ≤ 57) = false := decide_eq_false c17; clear c17
          by_cases c18 : ((bt a0 x24_2) = 95)
          ·rw [if_pos c18] at H
           have c18b0 : ((bt a0 x24_2) == 95) = true := beq_iff_eq.mpr c18
           have c18b1 : ((bt a0 x24_2) != 95) = false := bne_eq_false_iff_eq.mpr c18
           clear c18
           have H' := Aside0.mk H
           clear H
           obtain ⟨p13, q13, hx13⟩ := btf_ a0 x24_2
           go_wp2
           go_roundg k2
           case measure => have := HJ1.out; have := HK2.out; omega
           case rel => exact ⟨(wrap64 (x24_2 + 1)), sq5, H', ⟨sq4⟩, sq7⟩
          rw [if_neg c18] at H
          have c18b0 : ((bt a0 x24_2) == 95) = false := beq_eq_false_iff_ne.mpr c18
          have c18b1 : ((bt a0 x24_2) != 95) = true := bne_iff_ne.mpr c18
          obtain rfl := Option.some.inj H
          obtain ⟨p13, q13, hx13⟩ := btf_ a0 x24_2
          go_wp2
          go_ret
          exact ⟨sq5, sq7⟩
         rw [if_neg c16] at H
         have c16b0 : decide (48 ≤ (bt a0 x24_2)) = false := decide_eq_false c16; clear c16
         by_cases c19 : ((bt a0 x24_2) = 95)
         ·rw [if_pos c19] at H
          have c19b0 : ((bt a0 x24_2) == 95) = true := beq_iff_eq.mpr c19
          have c19b1 : ((bt a0 x24_2) != 95) = false := bne_eq_false_iff_eq.mpr c19
          clear c19
          have H' := Aside0.mk H
          clear H
          obtain ⟨p13, q13, hx13⟩ := btf_ a0 x24_2
          go_wp2
          go_roundg k2
          case measure => have := HJ1.out; have := HK2.out; omega
          case rel => exact ⟨(wrap64 (x24_2 + 1)), sq5, H', ⟨sq4⟩, sq7⟩
         rw [if_neg c19] at H
         have c19b0 : ((bt a0 x24_2) == 95) = false := beq_eq_false_iff_ne.mpr c19
         have c19b1 : ((bt a0 x24_2) != 95) = true := bne_iff_ne.mpr c19
         obtain rfl := Option.some.inj H
         obtain ⟨p13, q13, hx13⟩ := btf_ a0 x24_2
         go_wp2
         go_ret
         exact ⟨sq5, sq7⟩
        rw [if_neg c14] at H
        have c14b0 : decide (97 ≤ (bt a0 x24_2)) = false := decide_eq_false c14; clear c14
        by_cases c20 : (bt a0 x24_2) ≥ 48
        ·rw [if_pos c20] at H
         have c20b0 : decide (48 ≤ (bt a0 x24_2)) = true := decide_eq_true c20; clear c20
         by_cases c21 : (bt a0 x24_2) ≤ 57
         ·rw [if_pos c21] at H
          have c21b0 : decide ((bt a0 x24_2) ≤ 57) = true := decide_eq_true c21; clear c21
          have H' := Aside0.mk H
          clear H
          obtain ⟨p13, q13, hx13⟩ := btf_ a0 x24_2
          go_wp2
          go_roundg k2
          case measure => have := HJ1.out; have := HK2.out; omega
          case rel => exact ⟨(wrap64 (x24_2 + 1)), sq5, H', ⟨sq4⟩, sq7⟩
         rw [if_neg c21] at H
         have c21b0 : decide ((bt a0 x24_2) ≤ 57) = false := decide_eq_false c21; clear c21
         by_cases c22 : ((bt a0 x24_2) = 95)
         ·rw [if_pos c22] at H
          have c22b0 : ((bt a0 x24_2) == 95) = true := beq_iff_eq.mpr c22
          have c22b1 : ((bt a0 x24_2) != 95) = false := bne_eq_false_iff_eq.mpr c22
          clear c22
          have H' := Aside0.mk H
          clear H
          obtain ⟨p13, q13, hx13⟩ := btf_ a0 x24_2
          go_wp2
          go_roundg k2
          case measure => have := HJ1.out; have := HK2.out; omega
          case rel => exact ⟨(wrap64 (x24_2 + 1)), sq5, H', ⟨sq4⟩, sq7⟩
         rw [if_neg c22] at H
         have c22b0 : ((bt a0 x24_2) == 95) = false := beq_eq_false_iff_ne.mpr c22
         have c22b1 : ((bt a0 x24_2) != 95) = true := bne_iff_ne.mpr c22
         obtain rfl := Option.some.inj H
         obtain ⟨p13, q13, hx13⟩ := btf_ a0 x24_2
         go_wp2
         go_ret
         exact ⟨sq5, sq7⟩
        rw [if_neg c20] at H
        have c20b0 : decide (48 ≤ (bt a0 x24_2)) = false := decide_eq_false c20; clear c20
        by_cases c23 : ((bt a0 x24_2) = 95)
        ·rw [if_pos c23] at H
         have c23b0 : ((bt a0 x24_2) == 95) = true := beq_iff_eq.mpr c23
         have c23b1 : ((bt a0 x24_2) != 95) = false := bne_eq_false_iff_eq.mpr c23
         clear c23
         have H' := Aside0.mk H
         clear H
         obtain ⟨p13, q13, hx13⟩ := btf_ a0 x24_2
         go_wp2
         go_roundg k2
         case measure => have := HJ1.out; have := HK2.out; omega
         case rel => exact ⟨(wrap64 (x24_2 + 1)), sq5, H', ⟨sq4⟩, sq7⟩
        rw [if_neg c23] at H
        have c23b0 : ((bt a0 x24_2) == 95) = false := beq_eq_false_iff_ne.mpr c23
        have c23b1 : ((bt a0 x24_2) != 95) = true := bne_iff_ne.mpr c23
        obtain rfl := Option.some.inj H
        obtain ⟨p13, q13, hx13⟩ := btf_ a0 x24_2
        go_wp2
        go_ret
        exact ⟨sq5, sq7⟩
       rw [if_neg c12] at H
       exact absurd H (by simp)
      rw [if_neg c11] at H
      exact absurd H (by simp)
     rw [if_neg c10] at H
     have c10b0 : decide (x24_2 < (a0.size : Int)) = false := decide_eq_false c10; clear c10
     obtain rfl := Option.some.inj H
     go_wp2
     go_ret
     exact ⟨sq5, sq7⟩

/-! ### kind_Each: function 13: by hand -/
theorem kind_known.hp : Kd.Heap k56 := Kd.heap_iso _ (Kd.heap_pair (Kd.heap_int .i64) (Kd.heap_pair (Kd.heap_int .i64) Kd.heap_string))
theorem kind_known.far {w : World} {b : Nat} {l : List (ByteArray × Int)} (h : Ytpfnnamicbbobaa.HM.MapIs Value.string w b l) {p : Addr} (hn : b ≠ p.block) (v : Value) : Ytpfnnamicbbobaa.HM.MapIs Value.string (w.setCell p v) b l := h.same (Below.heap_setCell w p v b hn)
theorem kind_known.drn {w : World} {b : Nat} {l : List (ByteArray × Int)} (h : Ytpfnnamicbbobaa.HM.MapIs Value.string w b l) (n : Nat) : Ytpfnnamicbbobaa.HM.MapIs Value.string (w.drewN n) b l := h.same rfl
def kind_known.go (k : Nat) : List (S59) → List (ByteArray × Int) → Option (Option (List (ByteArray × Int)))
 | [], m => some (some m)
 | x :: r, m => (kind_isName.f k x.f0).bind fun b => if b = true ∧ 1 ≤ x.f1 ∧ x.f1 ≤ 3 then kind_known.go k r (Ytpfnnamicbbobaa.HM.mput m x.f0 x.f1) else some none
theorem kind_known.go_mono (k : Nat) : ∀ l m, LeO (kind_known.go k l m) (kind_known.go (k + 1) l m)
 | [], m => fun r h => h
 | x :: t, m => fun r h => by
  unfold kind_known.go at h ⊢
  obtain ⟨b, hb, h⟩ := Option.bind_eq_some_iff.mp h
  rw [kind_isName.mono x.f0 k b hb, Option.bind_some]
  split at h
  ·rename_i hc; rw [if_pos hc]; exact kind_known.go_mono k t _ r h
  rename_i hc; rw [if_neg hc]; exact h
def kind_known.f (k : Nat) (l0 : List (S56)) (l1 : List (S59)) : Option (Int × List (ByteArray × Int)) :=
 (clause_CheckFormula.f k l0).bind fun e => if e = 0 then (if l1.length > 4096 then some (3, []) else (kind_known.go k l1 []).bind fun o => some (o.elim (5, []) fun m => (0, m))) else some (e, [])
def kind_known.Out (w' : World) (c : Int) (m : List (ByteArray × Int)) (v : Value) : Prop := (c ≠ 0 ∧ v = .map none) ∨ (c = 0 ∧ ∃ b, v = .map (some b) ∧ Ytpfnnamicbbobaa.HM.MapIs Value.string w' b m)
theorem kind_known.at (k : Nat) (l : List (S59)) (j : Nat) (h : j < l.length) (m : List (ByteArray × Int)) : kind_known.go k (l.drop j) m = (kind_isName.f k (rd_T59 l j).f0).bind fun b => if b = true ∧ 1 ≤ (rd_T59 l j).f1 ∧ (rd_T59 l j).f1 ≤ 3 then kind_known.go k (l.drop (j + 1)) (Ytpfnnamicbbobaa.HM.mput m (rd_T59 l j).f0 (rd_T59 l j).f1) else some none := by
 have : rd_T59 l j = l[j] := by simp [rd_T59, List.getD_eq_getElem?_getD, h]
 rw [List.drop_eq_getElem_cons h, this]
 rfl
set_option maxHeartbeats 8000000 in
set_option maxRecDepth 100000 in
theorem kind_known.calls (k : Nat) (A0 : Option Addr) (c0 : Nat) (l0 : List (S56)) (A1 : Option Addr) (c1 : Nat) (l1 : List (S59)) (c : Int) (m : List (ByteArray × Int)) (w : World) (hG : Glob w) (hr0 : Kd.C k56 w A0 l0.length l0) (hc0 : l0.length ≤ c0) (hr1 : Kd.C k59 w A1 l1.length l1) (hc1 : l1.length ≤ c1) (h : kind_known.f k l0 l1 = some (c, m)) :
  Calls Try.prog 27 #[.slice A0 l0.length c0, .slice A1 l1.length c1] w fun e w' => ∃ v0_ : Value, e = .returned (.tuple #[v0_, .agg #[.int .i64 0, .int .i64 c]]) ∧ kind_known.Out w' c m v0_ ∧ Below w.heap.size w w' := by
 have hu28 := Try.underlying28
 have hu59 := Try.underlying59
 have hmax : l1.length ≤ 9223372036854775807 := Kd.C_max hr1
 have HR0 := Aside0.mk hr0
 have HC0 := Aside0.mk hc0
 have HR1 := Aside0.mk hr1
 clear hr0 hc0 hr1 hc1
 have HB := Aside0.mk (Below.refl w.heap.size w)
 have HG := Aside0.mk hG
 clear hG
 obtain ⟨e, he, H⟩ := Option.bind_eq_some_iff.mp h
 clear h
 have HE := Aside0.mk he
 clear he
 have HH := Aside0.mk H
 clear H
 have hmm := @run_makeMap Try.prog
 go_enter Try.func27, Try.ntmps27
 by_cases c1 : e = 0
 ·have c1b0 : (e == 0) = true := beq_iff_eq.mpr c1
  have c1b1 : (e != 0) = false := bne_eq_false_iff_eq.mpr c1
  by_cases c2 : l1.length > 4096
  ·have c2b0 : decide ((l1.length : Int) > 4096) = true := decide_eq_true sq0
   go_wp2_with (first | ((with_reducible refine gate_dst (N := 5) rfl ?_); refine box_event ?hg (N := 5) ?hd (cs := #[.int .i64 0, .int .i64 0]) (t := 28) ?hr ?_; (case hd => rfl); (case hg => rfl); (case hr => first | (go_simp; done) | (go_simp; rfl)); intro gb hg w3 hbox hb; have n0_ := Aside0.mk (below_step sq50 hb); have n1_ := Aside0.mk hbox; have n2_ := Aside0.mk (sq68 : w.heap.size ≤ gb); clear HB; have HB := n0_; have BK := n1_; have GE := n2_; clear n0_ n1_ n2_; clear hb hbox hg; have hczBK_0 : w3.cell? ⟨gb, 0, none⟩ = some (.int .i64 0) := (blk_cell BK.out 0).trans rfl; have hczBK_1 : w3.cell? ⟨gb, 1, none⟩ = some (.int .i64 0) := (blk_cell BK.out 1).trans rfl; have hfzBK_0 := blk_frozen BK.out 0; have hfzBK_1 := blk_frozen BK.out 1) | ((with_reducible refine gate_callee (f := 31) rfl ?_); refine goesL_ (some 11) rfl rfl Try.func31 sq2 rfl #[.slice A0 l0.length c0] rfl sq10 ?_; (with_reducible refine (clause_CheckFormula.calls k (fun k_ => k_ < w.heap.size) _ _ l0 e _ ?side2 ?side1 HE.out).mono ?_); (case side1 => exact Kd.V_mk HC0.out (Kd.F_below (Kd.C_F kind_known.hp HR0.out) sq50)); (case side2 => exact Glob.below HG.out sq50); rintro e_ wC ⟨rfl, hb⟩; refine ⟨_, rfl, ?_⟩; have n0_ := Aside0.mk (below_step sq50 hb); have n1_ := Aside0.mk (blk_below sq33 hb); clear HB; clear BK; have HB := n0_; have BK := n1_; clear n0_ n1_; clear hb; have hczC_0 : wC.cell? ⟨gb, 0, none⟩ = some (.int .i64 0) := (blk_cell BK.out 0).trans rfl; have hczC_1 : wC.cell? ⟨gb, 1, none⟩ = some (.int .i64 0) := (blk_cell BK.out 1).trans rfl; have hfzC_0 := blk_frozen BK.out 0; have hfzC_1 := blk_frozen BK.out 1))
   refine bodyPost_ret (results_tc rfl _ _ gb 28 #[.int .i64 0, .int .i64 3] (0, 0) _ rfl (by (with_reducible repeat (first | refine blk_drewN ?_ _ | refine blk_drew ?_ | refine blk_alloc ?_ _)); refine blk_put (cs := #[.int .i64 0, .int .i64 0]) ?_ 1 _ rfl; (with_reducible repeat (first | refine blk_drewN ?_ _ | refine blk_drew ?_ | refine blk_alloc ?_ _)); refine blk_put (cs := #[.int .i64 0, .int .i64 0]) ?_ 0 _ rfl; (with_reducible repeat (first | refine blk_drewN ?_ _ | refine blk_drew ?_ | refine blk_alloc ?_ _)); exact BK.out) Try.underlying28 rfl (by kernel_rfl)) rfl ?_
   have H := HH.out
   rw [if_pos c1, if_pos c2] at H
   obtain ⟨rfl, rfl⟩ := Prod.mk.inj (Option.some.inj H)
   exact ⟨_, rfl, .inl ⟨sq1, rfl⟩, sq57⟩
  have c2b0 : decide ((l1.length : Int) > 4096) = false := decide_eq_false sq0
  have HW := Aside0.mk (show (kind_known.go k l1 []).bind (fun o => some (o.elim (5, []) fun m => ((0 : Int), m))) = some (c, m) by have H := HH.out; rw [if_pos c1, if_neg c2] at H; exact H)
  clear HH c2
  go_wp2_with (first | ((with_reducible refine gate_dst (N := 5) rfl ?_); refine box_event ?hg (N := 5) ?hd (cs := #[.int .i64 0, .int .i64 0]) (t := 28) ?hr ?_; (case hd => rfl); (case hg => rfl); (case hr => first | (go_simp; done) | (go_simp; rfl)); intro gb hg w3 hbox hb; have n0_ := Aside0.mk (below_step sq50 hb); have n1_ := Aside0.mk hbox; have n2_ := Aside0.mk (sq68 : w.heap.size ≤ gb); clear HB; have HB := n0_; have BK := n1_; have GE := n2_; clear n0_ n1_ n2_; clear hb hbox hg; have hczBK_0 : w3.cell? ⟨gb, 0, none⟩ = some (.int .i64 0) := (blk_cell BK.out 0).trans rfl; have hczBK_1 : w3.cell? ⟨gb, 1, none⟩ = some (.int .i64 0) := (blk_cell BK.out 1).trans rfl; have hfzBK_0 := blk_frozen BK.out 0; have hfzBK_1 := blk_frozen BK.out 1) | ((with_reducible refine gate_callee (f := 31) rfl ?_); refine goesL_ (some 11) rfl rfl Try.func31 sq2 rfl #[.slice A0 l0.length c0] rfl sq10 ?_; (with_reducible refine (clause_CheckFormula.calls k (fun k_ => k_ < w.heap.size) _ _ l0 e _ ?side2 ?side1 HE.out).mono ?_); (case side1 => exact Kd.V_mk HC0.out (Kd.F_below (Kd.C_F kind_known.hp HR0.out) sq50)); (case side2 => exact Glob.below HG.out sq50); rintro e_ wC ⟨rfl, hb⟩; refine ⟨_, rfl, ?_⟩; have n0_ := Aside0.mk (below_step sq50 hb); have n1_ := Aside0.mk (blk_below sq33 hb); clear HB; clear BK; have HB := n0_; have BK := n1_; clear n0_ n1_; clear hb; have hczC_0 : wC.cell? ⟨gb, 0, none⟩ = some (.int .i64 0) := (blk_cell BK.out 0).trans rfl; have hczC_1 : wC.cell? ⟨gb, 1, none⟩ = some (.int .i64 0) := (blk_cell BK.out 1).trans rfl; have hfzC_0 := blk_frozen BK.out 0; have hfzC_1 := blk_frozen BK.out 1))
  go_loopw [23] (fun i wr => ∃ (j : Nat) (m1 : List (ByteArray × Int)), i = .int .i64 j ∧ j ≤ l1.length ∧ Aside0 ((kind_known.go k (l1.drop j) m1).bind (fun o => some (o.elim (5, []) fun m => ((0 : Int), m))) = some (c, m)) ∧ Aside0 (Ytpfnnamicbbobaa.HM.MapIs Value.string wr wC.heap.size m1) ∧ Aside0 (wr.heap[gb]? = some (.cells #[.int .i64 0, .int .i64 0] 28 (0, 0))) ∧ Aside0 (Below w.heap.size w wr) ∧ Aside0 (wC.heap.size < wr.heap.size)) (fun i _ => l1.length - (intOf i).toNat)
  case atStart => exact ⟨0, [], rfl, Nat.zero_le _, ⟨by rw [List.drop_zero]; exact HW.out⟩, ⟨Ytpfnnamicbbobaa.HM.MapIs.made _ _⟩, ⟨sq33⟩, ⟨sq57⟩, ⟨(Ytpfnnamicbbobaa.HM.MapIs.made Value.string wC).lt⟩⟩
  case round =>
   have NGM := Aside0.mk (show gb ≠ wC.heap.size from Nat.ne_of_lt (blk_lt BK.out))
   have GM := Aside0.mk (show w.heap.size ≤ wC.heap.size from below_size HB.out)
   clear HW BK HB HE
   try clear hczBK_0 hczBK_1 hfzBK_0 hfzBK_1
   try clear hczC_0 hczC_1 hfzC_0 hfzC_1
   obtain ⟨j, m1, rfl, hj, HA, MP, BK, HB, MS⟩ := hrel
   by_cases c3 : j < l1.length
   ·have c3b0 : decide ((j : Int) < (l1.length : Int)) = true := decide_eq_true sq0
    have H := HA.out
    clear HA
    rw [kind_known.at k l1 j c3 m1] at H
    obtain ⟨o, H, HQ⟩ := Option.bind_eq_some_iff.mp H
    obtain ⟨b, hb0, H⟩ := Option.bind_eq_some_iff.mp H
    have HN := Aside0.mk hb0
    have HO := Aside0.mk H
    have HQ := Aside0.mk HQ
    clear hb0 H
    obtain ⟨ad1, e1, hx1_0, hx1_1⟩ := at_T59 HR1.out (j : Int) sq0 sq0
    cases e1
    rw [Int.toNat_natCast] at hx1_0 hx1_1
    replace hx1_0 := (HB.out.cell (World.block_lt_of_cell? w _ hx1_0)).trans hx1_0
    replace hx1_1 := (HB.out.cell (World.block_lt_of_cell? w _ hx1_1)).trans hx1_1
    have c3c : (j : Int) < (l1.length : Int) := by omega
    cases b with
    | false =>
     have NC : ¬ ((false : Bool) = true ∧ 1 ≤ (rd_T59 l1 (j : Int)).f1 ∧ (rd_T59 l1 (j : Int)).f1 ≤ 3) := fun q => by cases q.1
     go_wp2_with (first | ((with_reducible refine gate_dst (N := 9) rfl ?_); refine box_event ?hg (N := 9) ?hd (cs := #[.string (⟨#[]⟩ : ByteArray), .int .i64 0]) (t := 59) ?hr ?_; (case hd => rfl); (case hg => rfl); (case hr => first | (go_simp; done) | (go_simp; rfl)); intro g9 hg w9 hbox hb; have n0_ := Aside0.mk (below_step sq57 hb); have n1_ := Aside0.mk (blk_below sq33 hb); have n2_ := Aside0.mk (Ytpfnnamicbbobaa.HM.MapIs.below MP.out hb); have n3_ := Aside0.mk hbox; have n4_ := Aside0.mk (sq74 : w.heap.size ≤ g9); have n5_ := Aside0.mk (sq55 : gb ≠ g9); have n6_ := Aside0.mk (sq56 : g9 ≠ gb); have n7_ := Aside0.mk ((by rw [hg]; exact Nat.ne_of_lt MP.out.lt) : wC.heap.size ≠ g9); have n8_ := Aside0.mk ((by rw [hg]; exact Nat.ne_of_gt MP.out.lt) : g9 ≠ wC.heap.size); clear HB; clear BK; clear MP; have HB := n0_; have BK := n1_; have MP := n2_; have B9 := n3_; have G9 := n4_; have NE_BK := n5_; have NF_BK := n6_; have NE_MP := n7_; have NF_MP := n8_; clear n0_ n1_ n2_ n3_ n4_ n5_ n6_ n7_ n8_; clear hb hbox hg; have hnb_BK := NE_BK.out; have hnc_BK := NF_BK.out; have hnb_MP := NE_MP.out; have hnc_MP := NF_MP.out; have hczB9_0 : w9.cell? ⟨g9, 0, none⟩ = some (.string (⟨#[]⟩ : ByteArray)) := (blk_cell B9.out 0).trans rfl; have hczB9_1 : w9.cell? ⟨g9, 1, none⟩ = some (.int .i64 0) := (blk_cell B9.out 1).trans rfl; have hfzB9_0 := blk_frozen B9.out 0; have hfzB9_1 := blk_frozen B9.out 1) | ((with_reducible refine gate_store (t := 59) (p := 9) rfl ?_); refine store_event (t := 59) (p := 9) (v := ?vo) (w1 := ((w9.setCell ⟨g9, 0, none⟩ (.string (rd_T59 l1 (j : Int)).f0)).setCell ⟨g9, 1, none⟩ (.int .i64 (rd_T59 l1 (j : Int)).f1))) ?hg ?ho ?hn ?hr ?_; (case ho => rfl); (case hg => rfl); (case hn => rfl); (case hr => first | (go_simp; done) | (go_simp; rfl)); intro wS hw; have q0_ : Aside0 (wS.heap[gb]? = some (.cells #[.int .i64 0, .int .i64 0] 28 (0, 0))) := ⟨sq8⟩; have q1_ : Aside0 (Ytpfnnamicbbobaa.HM.MapIs Value.string wS wC.heap.size m1) := ⟨sq9⟩; have q2_ : Aside0 (wS.heap[g9]? = some (.cells #[.string (rd_T59 l1 (j : Int)).f0, .int .i64 (rd_T59 l1 (j : Int)).f1] 59 (0, 0))) := ⟨sq70⟩; have q3_ : Aside0 (Below w.heap.size w wS) := ⟨sq81⟩; clear hw BK MP B9 HB; have BK := q0_; have MP := q1_; have B9 := q2_; have HB := q3_; clear q0_ q1_ q2_ q3_; have hczS9_0 : wS.cell? ⟨g9, 0, none⟩ = some (.string (rd_T59 l1 (j : Int)).f0) := (blk_cell B9.out 0).trans rfl; have hczS9_1 : wS.cell? ⟨g9, 1, none⟩ = some (.int .i64 (rd_T59 l1 (j : Int)).f1) := (blk_cell B9.out 1).trans rfl; have hfzS9_0 := blk_frozen B9.out 0; have hfzS9_1 := blk_frozen B9.out 1; have hczSB_0 : wS.cell? ⟨gb, 0, none⟩ = some (.int .i64 0) := (blk_cell BK.out 0).trans rfl; have hczSB_1 : wS.cell? ⟨gb, 1, none⟩ = some (.int .i64 0) := (blk_cell BK.out 1).trans rfl; have hfzSB_0 := blk_frozen BK.out 0; have hfzSB_1 := blk_frozen BK.out 1) | ((with_reducible refine gate_callee (f := 35) rfl ?_); refine goesL_ (some 29) rfl rfl Try.func35 sq2 rfl #[.string (rd_T59 l1 (j : Int)).f0] rfl sq10 ?_; (with_reducible refine (kind_isName.calls k _ _ _ HN.out).mono ?_); rintro e_ w_ ⟨rfl, ⟨nd, rfl⟩⟩; refine ⟨_, rfl, ?_⟩) | ((with_reducible refine gate_update rfl ?_); refine Ytpfnnamicbbobaa.HM.wpList_mput rfl _ _ _ 73 rfl (.inl rfl) Ytpfnnamicbbobaa.HM.string_law Try.underlying73 Try.underlying9 (kind_known.drn MP.out nd) rfl _ rfl _ rfl ?_; intro wM hm1 hg1; have q0_ := Aside0.mk hm1; have q1_ := Aside0.mk (blk_grown (blk_drewN BK.out nd) hg1 (by intro e_; exact NGM.out (Option.some.inj e_))); have q2_ := Aside0.mk (Below.grown (pw_below_drewN HB.out nd) hg1 (pw_below_drewN HB.out nd).size (fun j_ hj_ => by cases hj_; exact GM.out)); clear hm1 hg1 MP BK HB; have MP := q0_; have BK := q1_; have HB := q2_; clear q0_ q1_ q2_))
     refine bodyPost_ret (results_tc rfl _ _ gb 28 #[.int .i64 0, .int .i64 5] (0, 0) _ rfl (by (with_reducible repeat (first | refine blk_drewN ?_ _ | refine blk_drew ?_ | refine blk_alloc ?_ _)); refine blk_put (cs := #[.int .i64 0, .int .i64 0]) ?_ 1 _ rfl; (with_reducible repeat (first | refine blk_drewN ?_ _ | refine blk_drew ?_ | refine blk_alloc ?_ _)); refine blk_put (cs := #[.int .i64 0, .int .i64 0]) ?_ 0 _ rfl; (with_reducible repeat (first | refine blk_drewN ?_ _ | refine blk_drew ?_ | refine blk_alloc ?_ _)); exact BK.out) Try.underlying28 rfl (by kernel_rfl)) rfl ?_
     have H := HO.out
     rw [if_neg NC] at H
     obtain rfl := Option.some.inj H
     obtain ⟨rfl, rfl⟩ := Prod.mk.inj (Option.some.inj HQ.out)
     exact ⟨_, rfl, .inl ⟨sq1, rfl⟩, sq72⟩
    | true =>
     by_cases c4 : (rd_T59 l1 (j : Int)).f1 < 1
     ·have c4b0 : decide ((rd_T59 l1 (j : Int)).f1 < 1) = true := decide_eq_true c4
      have NC : ¬ ((true : Bool) = true ∧ 1 ≤ (rd_T59 l1 (j : Int)).f1 ∧ (rd_T59 l1 (j : Int)).f1 ≤ 3) := fun q => by omega
      clear c4
      go_wp2_with (first | ((with_reducible refine gate_dst (N := 9) rfl ?_); refine box_event ?hg (N := 9) ?hd (cs := #[.string (⟨#[]⟩ : ByteArray), .int .i64 0]) (t := 59) ?hr ?_; (case hd => rfl); (case hg => rfl); (case hr => first | (go_simp; done) | (go_simp; rfl)); intro g9 hg w9 hbox hb; have n0_ := Aside0.mk (below_step sq57 hb); have n1_ := Aside0.mk (blk_below sq33 hb); have n2_ := Aside0.mk (Ytpfnnamicbbobaa.HM.MapIs.below MP.out hb); have n3_ := Aside0.mk hbox; have n4_ := Aside0.mk (sq74 : w.heap.size ≤ g9); have n5_ := Aside0.mk (sq55 : gb ≠ g9); have n6_ := Aside0.mk (sq56 : g9 ≠ gb); have n7_ := Aside0.mk ((by rw [hg]; exact Nat.ne_of_lt MP.out.lt) : wC.heap.size ≠ g9); have n8_ := Aside0.mk ((by rw [hg]; exact Nat.ne_of_gt MP.out.lt) : g9 ≠ wC.heap.size); clear HB; clear BK; clear MP; have HB := n0_; have BK := n1_; have MP := n2_; have B9 := n3_; have G9 := n4_; have NE_BK := n5_; have NF_BK := n6_; have NE_MP := n7_; have NF_MP := n8_; clear n0_ n1_ n2_ n3_ n4_ n5_ n6_ n7_ n8_; clear hb hbox hg; have hnb_BK := NE_BK.out; have hnc_BK := NF_BK.out; have hnb_MP := NE_MP.out; have hnc_MP := NF_MP.out; have hczB9_0 : w9.cell? ⟨g9, 0, none⟩ = some (.string (⟨#[]⟩ : ByteArray)) := (blk_cell B9.out 0).trans rfl; have hczB9_1 : w9.cell? ⟨g9, 1, none⟩ = some (.int .i64 0) := (blk_cell B9.out 1).trans rfl; have hfzB9_0 := blk_frozen B9.out 0; have hfzB9_1 := blk_frozen B9.out 1) | ((with_reducible refine gate_store (t := 59) (p := 9) rfl ?_); refine store_event (t := 59) (p := 9) (v := ?vo) (w1 := ((w9.setCell ⟨g9, 0, none⟩ (.string (rd_T59 l1 (j : Int)).f0)).setCell ⟨g9, 1, none⟩ (.int .i64 (rd_T59 l1 (j : Int)).f1))) ?hg ?ho ?hn ?hr ?_; (case ho => rfl); (case hg => rfl); (case hn => rfl); (case hr => first | (go_simp; done) | (go_simp; rfl)); intro wS hw; have q0_ : Aside0 (wS.heap[gb]? = some (.cells #[.int .i64 0, .int .i64 0] 28 (0, 0))) := ⟨sq8⟩; have q1_ : Aside0 (Ytpfnnamicbbobaa.HM.MapIs Value.string wS wC.heap.size m1) := ⟨sq9⟩; have q2_ : Aside0 (wS.heap[g9]? = some (.cells #[.string (rd_T59 l1 (j : Int)).f0, .int .i64 (rd_T59 l1 (j : Int)).f1] 59 (0, 0))) := ⟨sq70⟩; have q3_ : Aside0 (Below w.heap.size w wS) := ⟨sq81⟩; clear hw BK MP B9 HB; have BK := q0_; have MP := q1_; have B9 := q2_; have HB := q3_; clear q0_ q1_ q2_ q3_; have hczS9_0 : wS.cell? ⟨g9, 0, none⟩ = some (.string (rd_T59 l1 (j : Int)).f0) := (blk_cell B9.out 0).trans rfl; have hczS9_1 : wS.cell? ⟨g9, 1, none⟩ = some (.int .i64 (rd_T59 l1 (j : Int)).f1) := (blk_cell B9.out 1).trans rfl; have hfzS9_0 := blk_frozen B9.out 0; have hfzS9_1 := blk_frozen B9.out 1; have hczSB_0 : wS.cell? ⟨gb, 0, none⟩ = some (.int .i64 0) := (blk_cell BK.out 0).trans rfl; have hczSB_1 : wS.cell? ⟨gb, 1, none⟩ = some (.int .i64 0) := (blk_cell BK.out 1).trans rfl; have hfzSB_0 := blk_frozen BK.out 0; have hfzSB_1 := blk_frozen BK.out 1) | ((with_reducible refine gate_callee (f := 35) rfl ?_); refine goesL_ (some 29) rfl rfl Try.func35 sq2 rfl #[.string (rd_T59 l1 (j : Int)).f0] rfl sq10 ?_; (with_reducible refine (kind_isName.calls k _ _ _ HN.out).mono ?_); rintro e_ w_ ⟨rfl, ⟨nd, rfl⟩⟩; refine ⟨_, rfl, ?_⟩) | ((with_reducible refine gate_update rfl ?_); refine Ytpfnnamicbbobaa.HM.wpList_mput rfl _ _ _ 73 rfl (.inl rfl) Ytpfnnamicbbobaa.HM.string_law Try.underlying73 Try.underlying9 (kind_known.drn MP.out nd) rfl _ rfl _ rfl ?_; intro wM hm1 hg1; have q0_ := Aside0.mk hm1; have q1_ := Aside0.mk (blk_grown (blk_drewN BK.out nd) hg1 (by intro e_; exact NGM.out (Option.some.inj e_))); have q2_ := Aside0.mk (Below.grown (pw_below_drewN HB.out nd) hg1 (pw_below_drewN HB.out nd).size (fun j_ hj_ => by cases hj_; exact GM.out)); clear hm1 hg1 MP BK HB; have MP := q0_; have BK := q1_; have HB := q2_; clear q0_ q1_ q2_))
      refine bodyPost_ret (results_tc rfl _ _ gb 28 #[.int .i64 0, .int .i64 5] (0, 0) _ rfl (by (with_reducible repeat (first | refine blk_drewN ?_ _ | refine blk_drew ?_ | refine blk_alloc ?_ _)); refine blk_put (cs := #[.int .i64 0, .int .i64 0]) ?_ 1 _ rfl; (with_reducible repeat (first | refine blk_drewN ?_ _ | refine blk_drew ?_ | refine blk_alloc ?_ _)); refine blk_put (cs := #[.int .i64 0, .int .i64 0]) ?_ 0 _ rfl; (with_reducible repeat (first | refine blk_drewN ?_ _ | refine blk_drew ?_ | refine blk_alloc ?_ _)); exact BK.out) Try.underlying28 rfl (by kernel_rfl)) rfl ?_
      have H := HO.out
      rw [if_neg NC] at H
      obtain rfl := Option.some.inj H
      obtain ⟨rfl, rfl⟩ := Prod.mk.inj (Option.some.inj HQ.out)
      exact ⟨_, rfl, .inl ⟨sq1, rfl⟩, sq72⟩
     have c4b0 : decide ((rd_T59 l1 (j : Int)).f1 < 1) = false := decide_eq_false c4
     by_cases c5 : (rd_T59 l1 (j : Int)).f1 > 3
     ·have c5b0 : decide ((rd_T59 l1 (j : Int)).f1 > 3) = true := decide_eq_true c5
      have NC : ¬ ((true : Bool) = true ∧ 1 ≤ (rd_T59 l1 (j : Int)).f1 ∧ (rd_T59 l1 (j : Int)).f1 ≤ 3) := fun q => by omega
      clear c4 c5
      go_wp2_with (first | ((with_reducible refine gate_dst (N := 9) rfl ?_); refine box_event ?hg (N := 9) ?hd (cs := #[.string (⟨#[]⟩ : ByteArray), .int .i64 0]) (t := 59) ?hr ?_; (case hd => rfl); (case hg => rfl); (case hr => first | (go_simp; done) | (go_simp; rfl)); intro g9 hg w9 hbox hb; have n0_ := Aside0.mk (below_step sq57 hb); have n1_ := Aside0.mk (blk_below sq33 hb); have n2_ := Aside0.mk (Ytpfnnamicbbobaa.HM.MapIs.below MP.out hb); have n3_ := Aside0.mk hbox; have n4_ := Aside0.mk (sq74 : w.heap.size ≤ g9); have n5_ := Aside0.mk (sq55 : gb ≠ g9); have n6_ := Aside0.mk (sq56 : g9 ≠ gb); have n7_ := Aside0.mk ((by rw [hg]; exact Nat.ne_of_lt MP.out.lt) : wC.heap.size ≠ g9); have n8_ := Aside0.mk ((by rw [hg]; exact Nat.ne_of_gt MP.out.lt) : g9 ≠ wC.heap.size); clear HB; clear BK; clear MP; have HB := n0_; have BK := n1_; have MP := n2_; have B9 := n3_; have G9 := n4_; have NE_BK := n5_; have NF_BK := n6_; have NE_MP := n7_; have NF_MP := n8_; clear n0_ n1_ n2_ n3_ n4_ n5_ n6_ n7_ n8_; clear hb hbox hg; have hnb_BK := NE_BK.out; have hnc_BK := NF_BK.out; have hnb_MP := NE_MP.out; have hnc_MP := NF_MP.out; have hczB9_0 : w9.cell? ⟨g9, 0, none⟩ = some (.string (⟨#[]⟩ : ByteArray)) := (blk_cell B9.out 0).trans rfl; have hczB9_1 : w9.cell? ⟨g9, 1, none⟩ = some (.int .i64 0) := (blk_cell B9.out 1).trans rfl; have hfzB9_0 := blk_frozen B9.out 0; have hfzB9_1 := blk_frozen B9.out 1) | ((with_reducible refine gate_store (t := 59) (p := 9) rfl ?_); refine store_event (t := 59) (p := 9) (v := ?vo) (w1 := ((w9.setCell ⟨g9, 0, none⟩ (.string (rd_T59 l1 (j : Int)).f0)).setCell ⟨g9, 1, none⟩ (.int .i64 (rd_T59 l1 (j : Int)).f1))) ?hg ?ho ?hn ?hr ?_; (case ho => rfl); (case hg => rfl); (case hn => rfl); (case hr => first | (go_simp; done) | (go_simp; rfl)); intro wS hw; have q0_ : Aside0 (wS.heap[gb]? = some (.cells #[.int .i64 0, .int .i64 0] 28 (0, 0))) := ⟨sq8⟩; have q1_ : Aside0 (Ytpfnnamicbbobaa.HM.MapIs Value.string wS wC.heap.size m1) := ⟨sq9⟩; have q2_ : Aside0 (wS.heap[g9]? = some (.cells #[.string (rd_T59 l1 (j : Int)).f0, .int .i64 (rd_T59 l1 (j : Int)).f1] 59 (0, 0))) := ⟨sq70⟩; have q3_ : Aside0 (Below w.heap.size w wS) := ⟨sq81⟩; clear hw BK MP B9 HB; have BK := q0_; have MP := q1_; have B9 := q2_; have HB := q3_; clear q0_ q1_ q2_ q3_; have hczS9_0 : wS.cell? ⟨g9, 0, none⟩ = some (.string (rd_T59 l1 (j : Int)).f0) := (blk_cell B9.out 0).trans rfl; have hczS9_1 : wS.cell? ⟨g9, 1, none⟩ = some (.int .i64 (rd_T59 l1 (j : Int)).f1) := (blk_cell B9.out 1).trans rfl; have hfzS9_0 := blk_frozen B9.out 0; have hfzS9_1 := blk_frozen B9.out 1; have hczSB_0 : wS.cell? ⟨gb, 0, none⟩ = some (.int .i64 0) := (blk_cell BK.out 0).trans rfl; have hczSB_1 : wS.cell? ⟨gb, 1, none⟩ = some (.int .i64 0) := (blk_cell BK.out 1).trans rfl; have hfzSB_0 := blk_frozen BK.out 0; have hfzSB_1 := blk_frozen BK.out 1) | ((with_reducible refine gate_callee (f := 35) rfl ?_); refine goesL_ (some 29) rfl rfl Try.func35 sq2 rfl #[.string (rd_T59 l1 (j : Int)).f0] rfl sq10 ?_; (with_reducible refine (kind_isName.calls k _ _ _ HN.out).mono ?_); rintro e_ w_ ⟨rfl, ⟨nd, rfl⟩⟩; refine ⟨_, rfl, ?_⟩) | ((with_reducible refine gate_update rfl ?_); refine Ytpfnnamicbbobaa.HM.wpList_mput rfl _ _ _ 73 rfl (.inl rfl) Ytpfnnamicbbobaa.HM.string_law Try.underlying73 Try.underlying9 (kind_known.drn MP.out nd) rfl _ rfl _ rfl ?_; intro wM hm1 hg1; have q0_ := Aside0.mk hm1; have q1_ := Aside0.mk (blk_grown (blk_drewN BK.out nd) hg1 (by intro e_; exact NGM.out (Option.some.inj e_))); have q2_ := Aside0.mk (Below.grown (pw_below_drewN HB.out nd) hg1 (pw_below_drewN HB.out nd).size (fun j_ hj_ => by cases hj_; exact GM.out)); clear hm1 hg1 MP BK HB; have MP := q0_; have BK := q1_; have HB := q2_; clear q0_ q1_ q2_))
      refine bodyPost_ret (results_tc rfl _ _ gb 28 #[.int .i64 0, .int .i64 5] (0, 0) _ rfl (by (with_reducible repeat (first | refine blk_drewN ?_ _ | refine blk_drew ?_ | refine blk_alloc ?_ _)); refine blk_put (cs := #[.int .i64 0, .int .i64 0]) ?_ 1 _ rfl; (with_reducible repeat (first | refine blk_drewN ?_ _ | refine blk_drew ?_ | refine blk_alloc ?_ _)); refine blk_put (cs := #[.int .i64 0, .int .i64 0]) ?_ 0 _ rfl; (with_reducible repeat (first | refine blk_drewN ?_ _ | refine blk_drew ?_ | refine blk_alloc ?_ _)); exact BK.out) Try.underlying28 rfl (by kernel_rfl)) rfl ?_
      have H := HO.out
      rw [if_neg NC] at H
      obtain rfl := Option.some.inj H
      obtain ⟨rfl, rfl⟩ := Prod.mk.inj (Option.some.inj HQ.out)
      exact ⟨_, rfl, .inl ⟨sq1, rfl⟩, sq72⟩
     have c5b0 : decide ((rd_T59 l1 (j : Int)).f1 > 3) = false := decide_eq_false c5
     have HT := Aside0.mk (show kind_known.go k (l1.drop (j + 1)) (Ytpfnnamicbbobaa.HM.mput m1 (rd_T59 l1 (j : Int)).f0 (rd_T59 l1 (j : Int)).f1) = some o by have H := HO.out; rw [if_pos ⟨rfl, sq0, sq0⟩] at H; exact H)
     clear HO c4 c5
     go_wp2_with (first | ((with_reducible refine gate_dst (N := 9) rfl ?_); refine box_event ?hg (N := 9) ?hd (cs := #[.string (⟨#[]⟩ : ByteArray), .int .i64 0]) (t := 59) ?hr ?_; (case hd => rfl); (case hg => rfl); (case hr => first | (go_simp; done) | (go_simp; rfl)); intro g9 hg w9 hbox hb; have n0_ := Aside0.mk (below_step sq57 hb); have n1_ := Aside0.mk (blk_below sq33 hb); have n2_ := Aside0.mk (Ytpfnnamicbbobaa.HM.MapIs.below MP.out hb); have n3_ := Aside0.mk hbox; have n4_ := Aside0.mk (sq74 : w.heap.size ≤ g9); have n5_ := Aside0.mk (sq55 : gb ≠ g9); have n6_ := Aside0.mk (sq56 : g9 ≠ gb); have n7_ := Aside0.mk ((by rw [hg]; exact Nat.ne_of_lt MP.out.lt) : wC.heap.size ≠ g9); have n8_ := Aside0.mk ((by rw [hg]; exact Nat.ne_of_gt MP.out.lt) : g9 ≠ wC.heap.size); clear HB; clear BK; clear MP; have HB := n0_; have BK := n1_; have MP := n2_; have B9 := n3_; have G9 := n4_; have NE_BK := n5_; have NF_BK := n6_; have NE_MP := n7_; have NF_MP := n8_; clear n0_ n1_ n2_ n3_ n4_ n5_ n6_ n7_ n8_; clear hb hbox hg; have hnb_BK := NE_BK.out; have hnc_BK := NF_BK.out; have hnb_MP := NE_MP.out; have hnc_MP := NF_MP.out; have hczB9_0 : w9.cell? ⟨g9, 0, none⟩ = some (.string (⟨#[]⟩ : ByteArray)) := (blk_cell B9.out 0).trans rfl; have hczB9_1 : w9.cell? ⟨g9, 1, none⟩ = some (.int .i64 0) := (blk_cell B9.out 1).trans rfl; have hfzB9_0 := blk_frozen B9.out 0; have hfzB9_1 := blk_frozen B9.out 1) | ((with_reducible refine gate_store (t := 59) (p := 9) rfl ?_); refine store_event (t := 59) (p := 9) (v := ?vo) (w1 := ((w9.setCell ⟨g9, 0, none⟩ (.string (rd_T59 l1 (j : Int)).f0)).setCell ⟨g9, 1, none⟩ (.int .i64 (rd_T59 l1 (j : Int)).f1))) ?hg ?ho ?hn ?hr ?_; (case ho => rfl); (case hg => rfl); (case hn => rfl); (case hr => first | (go_simp; done) | (go_simp; rfl)); intro wS hw; have q0_ : Aside0 (wS.heap[gb]? = some (.cells #[.int .i64 0, .int .i64 0] 28 (0, 0))) := ⟨sq8⟩; have q1_ : Aside0 (Ytpfnnamicbbobaa.HM.MapIs Value.string wS wC.heap.size m1) := ⟨sq9⟩; have q2_ : Aside0 (wS.heap[g9]? = some (.cells #[.string (rd_T59 l1 (j : Int)).f0, .int .i64 (rd_T59 l1 (j : Int)).f1] 59 (0, 0))) := ⟨sq70⟩; have q3_ : Aside0 (Below w.heap.size w wS) := ⟨sq81⟩; clear hw BK MP B9 HB; have BK := q0_; have MP := q1_; have B9 := q2_; have HB := q3_; clear q0_ q1_ q2_ q3_; have hczS9_0 : wS.cell? ⟨g9, 0, none⟩ = some (.string (rd_T59 l1 (j : Int)).f0) := (blk_cell B9.out 0).trans rfl; have hczS9_1 : wS.cell? ⟨g9, 1, none⟩ = some (.int .i64 (rd_T59 l1 (j : Int)).f1) := (blk_cell B9.out 1).trans rfl; have hfzS9_0 := blk_frozen B9.out 0; have hfzS9_1 := blk_frozen B9.out 1; have hczSB_0 : wS.cell? ⟨gb, 0, none⟩ = some (.int .i64 0) := (blk_cell BK.out 0).trans rfl; have hczSB_1 : wS.cell? ⟨gb, 1, none⟩ = some (.int .i64 0) := (blk_cell BK.out 1).trans rfl; have hfzSB_0 := blk_frozen BK.out 0; have hfzSB_1 := blk_frozen BK.out 1) | ((with_reducible refine gate_callee (f := 35) rfl ?_); refine goesL_ (some 29) rfl rfl Try.func35 sq2 rfl #[.string (rd_T59 l1 (j : Int)).f0] rfl sq10 ?_; (with_reducible refine (kind_isName.calls k _ _ _ HN.out).mono ?_); rintro e_ w_ ⟨rfl, ⟨nd, rfl⟩⟩; refine ⟨_, rfl, ?_⟩) | ((with_reducible refine gate_update rfl ?_); refine Ytpfnnamicbbobaa.HM.wpList_mput rfl _ _ _ 73 rfl (.inl rfl) Ytpfnnamicbbobaa.HM.string_law Try.underlying73 Try.underlying9 (kind_known.drn MP.out nd) rfl _ rfl _ rfl ?_; intro wM hm1 hg1; have q0_ := Aside0.mk hm1; have q1_ := Aside0.mk (blk_grown (blk_drewN BK.out nd) hg1 (by intro e_; exact NGM.out (Option.some.inj e_))); have q2_ := Aside0.mk (Below.grown (pw_below_drewN HB.out nd) hg1 (pw_below_drewN HB.out nd).size (fun j_ hj_ => by cases hj_; exact GM.out)); clear hm1 hg1 MP BK HB; have MP := q0_; have BK := q1_; have HB := q2_; clear q0_ q1_ q2_))
     go_roundw
     case rel => exact ⟨j + 1, _, by go_num, sq0, ⟨by rw [HT.out]; exact HQ.out⟩, MP, BK, HB, ⟨MP.out.lt⟩⟩
     case measure => simp [intOf]; omega
   have c3b0 : decide ((j : Int) < (l1.length : Int)) = false := decide_eq_false sq0
   have hczZ_0 : wr.cell? ⟨gb, 0, none⟩ = some (.int .i64 0) := (blk_cell BK.out 0).trans rfl
   have hczZ_1 : wr.cell? ⟨gb, 1, none⟩ = some (.int .i64 0) := (blk_cell BK.out 1).trans rfl
   have hfzZ_0 := blk_frozen BK.out 0
   have hfzZ_1 := blk_frozen BK.out 1
   go_wp2
   refine bodyPost_ret (results_tc rfl _ _ gb 28 #[.int .i64 0, .int .i64 0] (0, 0) _ rfl (by (with_reducible repeat (first | refine blk_drewN ?_ _ | refine blk_drew ?_ | refine blk_alloc ?_ _)); refine blk_put (cs := #[.int .i64 0, .int .i64 0]) ?_ 1 _ rfl; (with_reducible repeat (first | refine blk_drewN ?_ _ | refine blk_drew ?_ | refine blk_alloc ?_ _)); refine blk_put (cs := #[.int .i64 0, .int .i64 0]) ?_ 0 _ rfl; (with_reducible repeat (first | refine blk_drewN ?_ _ | refine blk_drew ?_ | refine blk_alloc ?_ _)); exact BK.out) Try.underlying28 rfl (by kernel_rfl)) rfl ?_
   have H := HA.out
   rw [List.drop_eq_nil_of_le sq0] at H
   obtain ⟨rfl, rfl⟩ := Prod.mk.inj (Option.some.inj H)
   exact ⟨_, rfl, .inr ⟨rfl, _, rfl, kind_known.far (kind_known.far MP.out (Ne.symm NGM.out) _) (Ne.symm NGM.out) _⟩, sq57⟩
 have c1b0 : (e == 0) = false := beq_eq_false_iff_ne.mpr c1
 have c1b1 : (e != 0) = true := bne_iff_ne.mpr c1
 have H := HH.out
 rw [if_neg c1] at H
 obtain ⟨rfl, rfl⟩ := Prod.mk.inj (Option.some.inj H)
 have HNZ := Aside0.mk c1
 clear c1 HH H
 go_wp2_with (first | ((with_reducible refine gate_dst (N := 5) rfl ?_); refine box_event ?hg (N := 5) ?hd (cs := #[.int .i64 0, .int .i64 0]) (t := 28) ?hr ?_; (case hd => rfl); (case hg => rfl); (case hr => first | (go_simp; done) | (go_simp; rfl)); intro gb hg w3 hbox hb; have n0_ := Aside0.mk (below_step sq50 hb); have n1_ := Aside0.mk hbox; have n2_ := Aside0.mk (sq68 : w.heap.size ≤ gb); clear HB; have HB := n0_; have BK := n1_; have GE := n2_; clear n0_ n1_ n2_; clear hb hbox hg; have hczBK_0 : w3.cell? ⟨gb, 0, none⟩ = some (.int .i64 0) := (blk_cell BK.out 0).trans rfl; have hczBK_1 : w3.cell? ⟨gb, 1, none⟩ = some (.int .i64 0) := (blk_cell BK.out 1).trans rfl; have hfzBK_0 := blk_frozen BK.out 0; have hfzBK_1 := blk_frozen BK.out 1) | ((with_reducible refine gate_callee (f := 31) rfl ?_); refine goesL_ (some 11) rfl rfl Try.func31 sq2 rfl #[.slice A0 l0.length c0] rfl sq10 ?_; (with_reducible refine (clause_CheckFormula.calls k (fun k_ => k_ < w.heap.size) _ _ l0 e _ ?side2 ?side1 HE.out).mono ?_); (case side1 => exact Kd.V_mk HC0.out (Kd.F_below (Kd.C_F kind_known.hp HR0.out) sq50)); (case side2 => exact Glob.below HG.out sq50); rintro e_ wC ⟨rfl, hb⟩; refine ⟨_, rfl, ?_⟩; have n0_ := Aside0.mk (below_step sq50 hb); have n1_ := Aside0.mk (blk_below sq33 hb); clear HB; clear BK; have HB := n0_; have BK := n1_; clear n0_ n1_; clear hb; have hczC_0 : wC.cell? ⟨gb, 0, none⟩ = some (.int .i64 0) := (blk_cell BK.out 0).trans rfl; have hczC_1 : wC.cell? ⟨gb, 1, none⟩ = some (.int .i64 0) := (blk_cell BK.out 1).trans rfl; have hfzC_0 := blk_frozen BK.out 0; have hfzC_1 := blk_frozen BK.out 1))
 refine bodyPost_ret (results_tc rfl _ _ gb 28 #[.int .i64 0, .int .i64 e] (0, 0) _ rfl (by (with_reducible repeat (first | refine blk_drewN ?_ _ | refine blk_drew ?_ | refine blk_alloc ?_ _)); refine blk_put (cs := #[.int .i64 0, .int .i64 0]) ?_ 1 _ rfl; (with_reducible repeat (first | refine blk_drewN ?_ _ | refine blk_drew ?_ | refine blk_alloc ?_ _)); refine blk_put (cs := #[.int .i64 0, .int .i64 0]) ?_ 0 _ rfl; (with_reducible repeat (first | refine blk_drewN ?_ _ | refine blk_drew ?_ | refine blk_alloc ?_ _)); exact BK.out) Try.underlying28 rfl (by kernel_rfl)) rfl ?_
 exact ⟨_, rfl, .inl ⟨HNZ.out, rfl⟩, sq57⟩
/-! kind.Each -/
theorem kind_Each.eqF (d : Nat) (w : World) (x0 x1 y0 y1 : Int) : (Op.equalIn (d + 2) 28 (.agg #[.int .i64 x0, .int .i64 x1]) (.agg #[.int .i64 y0, .int .i64 y1])).run Try.prog w = .ok (x0 == y0 && (x1 == y1)) w := by
 refine eqA_of Try.underlying28 sq2 ?_
 refine eqf_cons (by rfl) (by go_simp; rfl) (by go_simp; rfl) (by go_simp) ?_
 exact eqf_last (by rfl) (by go_simp; rfl) (by go_simp; rfl) (by go_simp)
theorem kind_Each.any (b : Nat) (l : List (ByteArray × Int)) : ∀ (k : Nat) x6 x7 x13 x14 x15, kind_each.l0 k ⟨b, l⟩ x6 x7 x13 x14 x15 = kind_each.l0 k ⟨0, l⟩ x6 x7 x13 x14 x15
 | 0, _, _, _, _, _ => rfl
 | k + 1, x6, x7, x13, x14, x15 => by
  have ih := kind_Each.any b l k
  simp only [kind_each.l0, ih]
  rfl
def kind_Each.f (k : Nat) (l0 : List (S56)) (l1 : List (S59)) : Option (List Int × Int × Int) := (kind_known.f k l0 l1).bind fun t => if t.1 = 0 then kind_each.f k l0 ⟨0, t.2⟩ else some ([], 0, t.1)
theorem kind_known.mono (l0 : List (S56)) (l1 : List (S59)) (k : Nat) : LeO (kind_known.f k l0 l1) (kind_known.f (k + 1) l0 l1) := fun r h => by
 unfold kind_known.f at h ⊢
 obtain ⟨e, he, h⟩ := Option.bind_eq_some_iff.mp h
 rw [clause_CheckFormula.mono l0 k e he, Option.bind_some]
 by_cases h1 : e = 0
 ·rw [if_pos h1] at h ⊢
  by_cases h2 : l1.length > 4096
  ·rw [if_pos h2] at h ⊢; exact h
  rw [if_neg h2] at h ⊢
  obtain ⟨o, ho, h⟩ := Option.bind_eq_some_iff.mp h
  rw [kind_known.go_mono k l1 [] o ho, Option.bind_some]; exact h
 rw [if_neg h1] at h ⊢; exact h
theorem kind_Each.mono : ∀ (a0 : List (S56)) (a1 : List (S59)) k, LeO (kind_Each.f k a0 a1) (kind_Each.f (k + 1) a0 a1) := fun l0 l1 k r h => by
 unfold kind_Each.f at h ⊢
 obtain ⟨t, ht, h⟩ := Option.bind_eq_some_iff.mp h
 rw [kind_known.mono l0 l1 k t ht, Option.bind_some]
 by_cases h1 : t.1 = 0
 ·rw [if_pos h1] at h ⊢; exact kind_each.mono l0 _ k r h
 rw [if_neg h1] at h ⊢; exact h
section
attribute [local go_sem high] kind_Each.eqF
set_option maxHeartbeats 8000000 in
set_option maxRecDepth 100000 in
theorem kind_Each.calls (k : Nat) (A0 : Option Addr) (c0 : Nat) (l0 : List (S56)) (A1 : Option Addr) (c1 : Nat) (l1 : List (S59)) (r1 : List Int) (r2 : Int) (r3 : Int) (w : World) (hG : Glob w) (hr0 : Kd.C k56 w A0 l0.length l0) (hc0 : l0.length ≤ c0) (hr1 : Kd.C k59 w A1 l1.length l1) (hc1 : l1.length ≤ c1) (h : kind_Each.f k l0 l1 = some (r1, r2, r3)) :
  Calls Try.prog 13 #[.slice A0 l0.length c0, .slice A1 l1.length c1] w fun e w' => ∃ v0_ : Value, e = .returned (.tuple #[v0_, .agg #[.int .i64 r2, .int .i64 r3]]) ∧ Kd.R (Kd.int .i64) 3 w' w.heap.size (fun _ => True) v0_ r1 ∧ Below w.heap.size w w' := by
 have hu28 := Try.underlying28
 have HR0 := Aside0.mk hr0
 have HC0 := Aside0.mk hc0
 have HR1 := Aside0.mk hr1
 have HC1 := Aside0.mk hc1
 clear hr0 hc0 hr1 hc1
 have HB := Aside0.mk (Below.refl w.heap.size w)
 have HG := Aside0.mk hG
 clear hG
 obtain ⟨⟨c, m⟩, he, H⟩ := Option.bind_eq_some_iff.mp h
 clear h
 have HE := Aside0.mk he
 clear he
 have HH := Aside0.mk H
 clear H
 go_enter Try.func13, Try.ntmps13
 by_cases z1 : c = 0
 ·have c1b0 : (c == 0) = true := beq_iff_eq.mpr z1
  have c1b1 : (c != 0) = false := bne_eq_false_iff_eq.mpr z1
  have HX := Aside0.mk (show kind_each.f k l0 ⟨0, m⟩ = some (r1, r2, r3) by have H := HH.out; rw [if_pos z1] at H; exact H)
  clear HH
  go_wp2_with (first | ((with_reducible refine gate_dst (N := 5) rfl ?_); refine box_event ?hg (N := 5) ?hd (cs := #[.int .i64 0, .int .i64 0]) (t := 28) ?hr ?_; (case hd => rfl); (case hg => rfl); (case hr => first | (go_simp; done) | (go_simp; rfl)); intro gb hg w3 hbox hb; have n0_ := Aside0.mk (below_step sq50 hb); have n1_ := Aside0.mk hbox; have n2_ := Aside0.mk (sq68 : w.heap.size ≤ gb); clear HB; have HB := n0_; have BK := n1_; have GE := n2_; clear n0_ n1_ n2_; clear hb hbox hg; have hczBK_0 : w3.cell? ⟨gb, 0, none⟩ = some (.int .i64 0) := (blk_cell BK.out 0).trans rfl; have hczBK_1 : w3.cell? ⟨gb, 1, none⟩ = some (.int .i64 0) := (blk_cell BK.out 1).trans rfl; have hfzBK_0 := blk_frozen BK.out 0; have hfzBK_1 := blk_frozen BK.out 1) | ((with_reducible refine gate_callee (f := 27) rfl ?_); refine goesL_ (some 11) rfl rfl Try.func27 sq2 rfl #[.slice A0 l0.length c0, .slice A1 l1.length c1] rfl sq10 ?_; (with_reducible refine (kind_known.calls k _ _ l0 _ _ l1 _ _ _ ?s1 ?s2 ?s3 ?s4 ?s5 HE.out).mono ?_); (case s1 => exact Glob.below HG.out sq57); (case s2 => exact Kd.C_below HR0.out sq57); (case s3 => exact HC0.out); (case s4 => exact Kd.C_below HR1.out sq57); (case s5 => exact HC1.out); rintro e_ wC ⟨v_, rfl, ho, hb⟩; obtain ⟨hc_, _⟩ | ⟨_, mb, rfl, hmp⟩ := ho; exact absurd z1 hc_; have MP := Aside0.mk hmp; clear hmp; refine ⟨_, rfl, ?_⟩; have q0_ := Aside0.mk (below_step sq57 hb); have q1_ := Aside0.mk (blk_below sq33 hb); clear hb HB BK; have HB := q0_; have BK := q1_; clear q0_ q1_) | ((with_reducible refine gate_dst (N := 7) rfl ?_); refine box_event ?hg (N := 7) ?hd (cs := #[.int .i64 0, .int .i64 0]) (t := 28) ?hr ?_; (case hd => rfl); (case hg => rfl); (case hr => first | (go_simp; done) | (go_simp; rfl)); intro g7 hg w7 hbox hb; have n0_ := Aside0.mk (below_step sq57 hb); have n1_ := Aside0.mk (blk_below sq33 hb); have n2_ := Aside0.mk (Ytpfnnamicbbobaa.HM.MapIs.below MP.out hb); have n3_ := Aside0.mk hbox; have n4_ := Aside0.mk (sq74 : w.heap.size ≤ g7); have n5_ := Aside0.mk (sq55 : gb ≠ g7); have n6_ := Aside0.mk (sq56 : g7 ≠ gb); have n7_ := Aside0.mk ((by rw [hg]; exact Nat.ne_of_lt MP.out.lt) : mb ≠ g7); have n8_ := Aside0.mk ((by rw [hg]; exact Nat.ne_of_gt MP.out.lt) : g7 ≠ mb); clear HB; clear BK; clear MP; have HB := n0_; have BK := n1_; have MP := n2_; have B7 := n3_; have G7 := n4_; have NE_BK := n5_; have NF_BK := n6_; have NE_MP := n7_; have NF_MP := n8_; clear n0_ n1_ n2_ n3_ n4_ n5_ n6_ n7_ n8_; clear hb hbox hg; have hnb_BK := NE_BK.out; have hnc_BK := NF_BK.out; have hnb_MP := NE_MP.out; have hnc_MP := NF_MP.out; have hczB7_0 : w7.cell? ⟨g7, 0, none⟩ = some (.int .i64 0) := (blk_cell B7.out 0).trans rfl; have hczB7_1 : w7.cell? ⟨g7, 1, none⟩ = some (.int .i64 0) := (blk_cell B7.out 1).trans rfl; have hfzB7_0 := blk_frozen B7.out 0; have hfzB7_1 := blk_frozen B7.out 1) | ((with_reducible refine gate_store (t := 28) (p := 7) rfl ?_); refine store_event (t := 28) (p := 7) (v := ?vo) (w1 := ((w7.setCell ⟨g7, 0, none⟩ (.int .i64 0)).setCell ⟨g7, 1, none⟩ (.int .i64 c))) ?hg ?ho ?hn ?hr ?_; (case ho => rfl); (case hg => rfl); (case hn => rfl); (case hr => first | (go_simp; done) | (go_simp; rfl)); intro wS hw; have q0_ : Aside0 (wS.heap[gb]? = some (.cells #[.int .i64 0, .int .i64 0] 28 (0, 0))) := ⟨sq8⟩; have q1_ : Aside0 (Ytpfnnamicbbobaa.HM.MapIs Value.string wS mb m) := ⟨sq9⟩; have q2_ : Aside0 (wS.heap[g7]? = some (.cells #[.int .i64 0, .int .i64 c] 28 (0, 0))) := ⟨by rw [hw]; refine blk_put (cs := #[.int .i64 0, .int .i64 0]) ?_ 1 _ rfl; refine blk_put (cs := #[.int .i64 0, .int .i64 0]) ?_ 0 _ rfl; exact B7.out⟩; have q3_ : Aside0 (Below w.heap.size w wS) := ⟨sq82⟩; clear hw BK B7 HB MP; have BK := q0_; have MP := q1_; have B7 := q2_; have HB := q3_; clear q0_ q2_ q3_ q1_; have hczS7_0 : wS.cell? ⟨g7, 0, none⟩ = some (.int .i64 0) := (blk_cell B7.out 0).trans rfl; have hczS7_1 : wS.cell? ⟨g7, 1, none⟩ = some (.int .i64 c) := (blk_cell B7.out 1).trans rfl; have hfzS7_0 := blk_frozen B7.out 0; have hfzS7_1 := blk_frozen B7.out 1; have hczSB_0 : wS.cell? ⟨gb, 0, none⟩ = some (.int .i64 0) := (blk_cell BK.out 0).trans rfl; have hczSB_1 : wS.cell? ⟨gb, 1, none⟩ = some (.int .i64 0) := (blk_cell BK.out 1).trans rfl; have hfzSB_0 := blk_frozen BK.out 0; have hfzSB_1 := blk_frozen BK.out 1) | ((with_reducible refine gate_callee (f := 28) rfl ?_); refine goesL_ (some 20) rfl rfl Try.func28 sq2 rfl #[.slice A0 l0.length c0, .map (some mb)] rfl sq10 ?_; (with_reducible refine (kind_each.calls k _ _ l0 ⟨mb, m⟩ r1 r2 r3 _ ?s1 ?s2 ?s3 ?s4).mono ?_); (case s1 => exact ⟨MP.out⟩); (case s2 => exact Kd.C_below HR0.out sq73); (case s3 => exact HC0.out); (case s4 => exact (kind_Each.any mb m k _ _ _ _ _).trans HX.out); rintro e_ wD ⟨v0, rfl, ho, hb⟩; refine ⟨_, rfl, ?_⟩; have q0_ := Aside0.mk (below_step sq73 hb); have q1_ := Aside0.mk (blk_below sq33 hb); have q2_ := Aside0.mk (Kd.R_lower ho (below_size sq73)); have q4_ := Aside0.mk ho; have q5_ := Aside0.mk (blk_lt BK.out); clear ho hb HB BK; have HB := q0_; have BK := q1_; have HO := q2_; have HO2 := q4_; have BL := q5_; clear q0_ q1_ q2_ q4_ q5_; have hczD_0 : wD.cell? ⟨gb, 0, none⟩ = some (.int .i64 0) := (blk_cell BK.out 0).trans rfl; have hczD_1 : wD.cell? ⟨gb, 1, none⟩ = some (.int .i64 0) := (blk_cell BK.out 1).trans rfl; have hfzD_0 := blk_frozen BK.out 0; have hfzD_1 := blk_frozen BK.out 1))
  refine bodyPost_ret (results_tc rfl _ _ gb 28 #[.int .i64 r2, .int .i64 r3] (0, 0) _ rfl (by (with_reducible repeat (first | refine blk_drewN ?_ _ | refine blk_drew ?_ | refine blk_alloc ?_ _)); refine blk_put (cs := #[.int .i64 r2, .int .i64 0]) ?_ 1 _ rfl; (with_reducible repeat (first | refine blk_drewN ?_ _ | refine blk_drew ?_ | refine blk_alloc ?_ _)); refine blk_put (cs := #[.int .i64 0, .int .i64 0]) ?_ 0 _ rfl; (with_reducible repeat (first | refine blk_drewN ?_ _ | refine blk_drew ?_ | refine blk_alloc ?_ _)); exact BK.out) Try.underlying28 rfl (by kernel_rfl)) rfl ?_
  exact ⟨_, rfl, Kd.R_mono (Kd.R_far (p := ⟨gb, 1, none⟩) (Kd.R_far (p := ⟨gb, 0, none⟩) (Kd.R_types HO.out BK.out sq1) (fun _ hk => hk.2) (.int .i64 r2)) (fun _ hk => hk.2) (.int .i64 r3)) (fun _ hk => trivial), sq73⟩
 have c1b0 : (c == 0) = false := beq_eq_false_iff_ne.mpr z1
 have c1b1 : (c != 0) = true := bne_iff_ne.mpr z1
 have H := HH.out
 rw [if_neg z1] at H
 simp only [Option.some.injEq, Prod.mk.injEq] at H
 obtain ⟨rfl, rfl, rfl⟩ := H
 clear HH
 go_wp2_with (first | ((with_reducible refine gate_dst (N := 5) rfl ?_); refine box_event ?hg (N := 5) ?hd (cs := #[.int .i64 0, .int .i64 0]) (t := 28) ?hr ?_; (case hd => rfl); (case hg => rfl); (case hr => first | (go_simp; done) | (go_simp; rfl)); intro gb hg w3 hbox hb; have n0_ := Aside0.mk (below_step sq50 hb); have n1_ := Aside0.mk hbox; have n2_ := Aside0.mk (sq68 : w.heap.size ≤ gb); clear HB; have HB := n0_; have BK := n1_; have GE := n2_; clear n0_ n1_ n2_; clear hb hbox hg; have hczBK_0 : w3.cell? ⟨gb, 0, none⟩ = some (.int .i64 0) := (blk_cell BK.out 0).trans rfl; have hczBK_1 : w3.cell? ⟨gb, 1, none⟩ = some (.int .i64 0) := (blk_cell BK.out 1).trans rfl; have hfzBK_0 := blk_frozen BK.out 0; have hfzBK_1 := blk_frozen BK.out 1) | ((with_reducible refine gate_callee (f := 27) rfl ?_); refine goesL_ (some 11) rfl rfl Try.func27 sq2 rfl #[.slice A0 l0.length c0, .slice A1 l1.length c1] rfl sq10 ?_; (with_reducible refine (kind_known.calls k _ _ l0 _ _ l1 _ _ _ ?s1 ?s2 ?s3 ?s4 ?s5 HE.out).mono ?_); (case s1 => exact Glob.below HG.out sq57); (case s2 => exact Kd.C_below HR0.out sq57); (case s3 => exact HC0.out); (case s4 => exact Kd.C_below HR1.out sq57); (case s5 => exact HC1.out); rintro e_ wC ⟨v_, rfl, ho, hb⟩; obtain ⟨_, rfl⟩ | ⟨hc_, _⟩ := ho; rotate_left; exact absurd hc_ z1; refine ⟨_, rfl, ?_⟩; have q0_ := Aside0.mk (below_step sq57 hb); have q1_ := Aside0.mk (blk_below sq33 hb); clear hb HB BK; have HB := q0_; have BK := q1_; clear q0_ q1_) | ((with_reducible refine gate_dst (N := 7) rfl ?_); refine box_event ?hg (N := 7) ?hd (cs := #[.int .i64 0, .int .i64 0]) (t := 28) ?hr ?_; (case hd => rfl); (case hg => rfl); (case hr => first | (go_simp; done) | (go_simp; rfl)); intro g7 hg w7 hbox hb; have n0_ := Aside0.mk (below_step sq57 hb); have n1_ := Aside0.mk (blk_below sq33 hb); have n2_ := Aside0.mk hbox; have n3_ := Aside0.mk (sq74 : w.heap.size ≤ g7); have n4_ := Aside0.mk (sq55 : gb ≠ g7); have n5_ := Aside0.mk (sq56 : g7 ≠ gb); clear HB; clear BK; have HB := n0_; have BK := n1_; have B7 := n2_; have G7 := n3_; have NE_BK := n4_; have NF_BK := n5_; clear n0_ n1_ n2_ n3_ n4_ n5_; clear hb hbox hg; have hnb_BK := NE_BK.out; have hnc_BK := NF_BK.out; have hczB7_0 : w7.cell? ⟨g7, 0, none⟩ = some (.int .i64 0) := (blk_cell B7.out 0).trans rfl; have hczB7_1 : w7.cell? ⟨g7, 1, none⟩ = some (.int .i64 0) := (blk_cell B7.out 1).trans rfl; have hfzB7_0 := blk_frozen B7.out 0; have hfzB7_1 := blk_frozen B7.out 1) | ((with_reducible refine gate_store (t := 28) (p := 7) rfl ?_); refine store_event (t := 28) (p := 7) (v := ?vo) (w1 := ((w7.setCell ⟨g7, 0, none⟩ (.int .i64 0)).setCell ⟨g7, 1, none⟩ (.int .i64 c))) ?hg ?ho ?hn ?hr ?_; (case ho => rfl); (case hg => rfl); (case hn => rfl); (case hr => first | (go_simp; done) | (go_simp; rfl)); intro wS hw; have q0_ : Aside0 (wS.heap[gb]? = some (.cells #[.int .i64 0, .int .i64 0] 28 (0, 0))) := ⟨sq8⟩; have q2_ : Aside0 (wS.heap[g7]? = some (.cells #[.int .i64 0, .int .i64 c] 28 (0, 0))) := ⟨by rw [hw]; refine blk_put (cs := #[.int .i64 0, .int .i64 0]) ?_ 1 _ rfl; refine blk_put (cs := #[.int .i64 0, .int .i64 0]) ?_ 0 _ rfl; exact B7.out⟩; have q3_ : Aside0 (Below w.heap.size w wS) := ⟨sq82⟩; clear hw BK B7 HB; have BK := q0_; have B7 := q2_; have HB := q3_; clear q0_ q2_ q3_; have hczS7_0 : wS.cell? ⟨g7, 0, none⟩ = some (.int .i64 0) := (blk_cell B7.out 0).trans rfl; have hczS7_1 : wS.cell? ⟨g7, 1, none⟩ = some (.int .i64 c) := (blk_cell B7.out 1).trans rfl; have hfzS7_0 := blk_frozen B7.out 0; have hfzS7_1 := blk_frozen B7.out 1; have hczSB_0 : wS.cell? ⟨gb, 0, none⟩ = some (.int .i64 0) := (blk_cell BK.out 0).trans rfl; have hczSB_1 : wS.cell? ⟨gb, 1, none⟩ = some (.int .i64 0) := (blk_cell BK.out 1).trans rfl; have hfzSB_0 := blk_frozen BK.out 0; have hfzSB_1 := blk_frozen BK.out 1))
 have n0_ := Aside0.mk (blk_drew BK.out)
 have n1_ := Aside0.mk (blk_drew B7.out)
 have n2_ := Aside0.mk (below_drew1 HB.out)
 clear BK B7 HB
 have BK := n0_
 have B7 := n1_
 have HB := n2_
 clear n0_ n1_ n2_
 refine start_ (n := 3) (S := fun w' => w'.cell? ⟨g7, 0, none⟩ = some (.int .i64 0) ∧ w'.cell? ⟨g7, 1, none⟩ = some (.int .i64 c)) (ds := []) #[false, false, false] sq2 rfl rfl ⟨(blk_cell B7.out 0).trans rfl, (blk_cell B7.out 1).trans rfl⟩ (fun hHeld => ?_)
 generalize wS.drew = w11 at BK B7 HB hHeld ⊢
 refine pure_ (i := 1) (N := some 4) (v := ?_) (a' := ?_) #[false, true, false] rfl rfl sq2 (fun _ _ _ h => h) (Or.inl ⟨by rfl, ?_⟩) ?_ ?_
 rotate_left
 ·intro w'
  go_simp
  with_reducible rfl
 rotate_left
 ·simp only [Act.put, List.setIfInBounds_toArray, List.set_cons_zero, List.set_cons_succ, i64_w, i32_w]
  rfl
 refine take_ (i := 0) (N := some 17) (v := ?_) (a' := ?_) #[true, true, false] rfl rfl sq2 (fun _ _ _ h => h) (Or.inl ⟨by rfl, ?_⟩) hHeld ?_ ?_
 rotate_left
 ·rintro w' ⟨s0, s1⟩
  go_simp
  with_reducible rfl
 rotate_left
 ·simp only [Act.put, List.setIfInBounds_toArray, List.set_cons_zero, List.set_cons_succ, i64_w, i32_w]
  rfl
 refine one_ (i := 2) (N := none) #[true, true, true] rfl rfl sq2 sq1 (fun K hK => ?_)
 have hs12 : w11.cell? ⟨gb, 0, none⟩ = some (.int .i64 0) := (blk_cell BK.out 0).trans rfl
 have hfs12 := blk_frozen BK.out 0
 have hs13 : w11.cell? ⟨gb, 1, none⟩ = some (.int .i64 0) := (blk_cell BK.out 1).trans rfl
 have hfs13 := blk_frozen BK.out 1
 refine skip_ (w1 := ?_) (by rfl) rfl ?_ ?_
 rotate_left
 ·go_simp
  rfl
 refine hK.out _ _ ⟨((cell_far (p := ⟨gb, _, none⟩) NF_BK.out _).trans (((cell_far (p := ⟨gb, _, none⟩) NF_BK.out _).trans (hHeld.1)))), ((cell_far (p := ⟨gb, _, none⟩) NF_BK.out _).trans (((cell_far (p := ⟨gb, _, none⟩) NF_BK.out _).trans (hHeld.2))))⟩ (fun hHeld => ?_)
 clear hK K
 refine done_ sq2 ?_
 try go_wp2
 refine bodyPost_ret (results_tc rfl _ _ gb 28 #[.int .i64 0, .int .i64 c] (0, 0) _ rfl (by (with_reducible repeat (first | refine blk_drewN ?_ _ | refine blk_drew ?_ | refine blk_alloc ?_ _)); refine blk_put (cs := #[.int .i64 0, .int .i64 0]) ?_ 1 _ rfl; (with_reducible repeat (first | refine blk_drewN ?_ _ | refine blk_drew ?_ | refine blk_alloc ?_ _)); refine blk_put (cs := #[.int .i64 0, .int .i64 0]) ?_ 0 _ rfl; (with_reducible repeat (first | refine blk_drewN ?_ _ | refine blk_drew ?_ | refine blk_alloc ?_ _)); exact BK.out) Try.underlying28 rfl (by kernel_rfl)) rfl ?_
 exact ⟨_, rfl, Kd.R_nil _ _ _ _ _, sq73⟩
end

/-! ### kind_Of: function 10 -/
def kind_Of.f (k : Nat) (l0 : List (S56)) (l1 : List (S59)) : Option (Int × Int × Int) := (kind_Each.f k l0 l1).bind fun bt215 => (if (!(bt215.2.1 == 0) || (!(bt215.2.2 == 0))) = true then (some (0, bt215.2.1, bt215.2.2)) else (if 0 ≤ (wrap64 ((bt215.1.length : Int) - 1)) then (if (wrap64 ((bt215.1.length : Int) - 1)) < (bt215.1.length : Int) then (some (rd bt215.1 (wrap64 ((bt215.1.length : Int) - 1)), 0, 0)) else (none)) else (none)))
theorem kind_Of.mono : ∀ a0 a1 k, LeO (kind_Of.f k a0 a1) (kind_Of.f (k + 1) a0 a1) := by
 intro a0 a1 k
 unfold kind_Of.f
 exact (by repeat' first | (with_reducible exact kind_Each.mono _ _ _) | (with_reducible exact LeO.refl _) | (with_reducible exact LeO.none _) | (with_reducible refine LeO.ite ?_ ?_) | (with_reducible refine LeO.bind ?_ (fun _ => ?_)) | exact kind_Each.mono _ _ _ | exact LeO.none _ | refine LeO.ite ?_ ?_ | refine LeO.bind ?_ (fun _ => ?_))
set_option maxHeartbeats 8000000 in
set_option maxRecDepth 100000 in
theorem kind_Of.calls (k : Nat) (A0 : Option Addr) (c0 : Nat) (l0 : List (S56)) (A1 : Option Addr) (c1 : Nat) (l1 : List (S59)) (r1 : Int) (r2 : Int) (r3 : Int) (w : World) (hG : Glob w) (hr0 : Kd.C k56 w A0 l0.length l0) (hc0 : l0.length ≤ c0) (hr1 : Kd.C k59 w A1 l1.length l1) (hc1 : l1.length ≤ c1) (h : kind_Of.f k l0 l1 = some (r1, r2, r3)) :
  Calls Try.prog 10 #[.slice A0 l0.length c0, .slice A1 l1.length c1] w fun e w' => e = .returned (.tuple #[.int .i64 r1, .agg #[.int .i64 r2, .int .i64 r3]]) ∧ Below w.heap.size w w' := by
 have hu28 := Try.underlying28
 have HR0 := Aside0.mk hr0
 have HC0 := Aside0.mk hc0
 clear hr0 hc0
 have HR1 := Aside0.mk hr1
 have HC1 := Aside0.mk hc1
 clear hr1 hc1
 have HB := Aside0.mk (Below.refl w.heap.size w)
 have HG := Aside0.mk hG
 clear hG
 have H : ((kind_Each.f k l0 l1).bind fun bt215 => (if (!(bt215.2.1 == 0) || (!(bt215.2.2 == 0))) = true then (some (0, bt215.2.1, bt215.2.2)) else (if 0 ≤ (wrap64 ((bt215.1.length : Int) - 1)) then (if (wrap64 ((bt215.1.length : Int) - 1)) < (bt215.1.length : Int) then (some (rd bt215.1 (wrap64 ((bt215.1.length : Int) - 1)), 0, 0)) else (none)) else (none)))) = some (r1, r2, r3) := h
 clear h
 replace H := Option.bind_eq_some_iff.mp H
 obtain ⟨⟨t215, t218, t219⟩, A30, H⟩ := H
 replace H : (if (!(t218 == 0) || (!(t219 == 0))) = true then (some (0, t218, t219)) else (if 0 ≤ (wrap64 ((t215.length : Int) - 1)) then (if (wrap64 ((t215.length : Int) - 1)) < (t215.length : Int) then (some (rd t215 (wrap64 ((t215.length : Int) - 1)), 0, 0)) else (none)) else (none))) = some (r1, r2, r3) := H
 have A3 := Aside0.mk A30
 clear A30
 by_cases c4 : (!(t218 == 0) || (!(t219 == 0))) = true
 ·rw [if_pos c4] at H
  have c4b0 : (!(t218 == 0) || (!(t219 == 0))) = true := c4
  clear c4
  simp only [Option.some.injEq, Prod.mk.injEq] at H
  obtain ⟨rfl, rfl, rfl⟩ := H
  go_enter Try.func10, Try.ntmps10
  try go_wp2_with (first | ((with_reducible refine gate_dst (N := 5) rfl ?_); refine box_event ?hg (N := 5) ?hd (cs := #[.int .i64 0, .int .i64 0]) (t := 28) ?hr ?_; (case hd => rfl); (case hg => rfl); (case hr => first | (go_simp; done) | (go_simp; rfl)); intro gb214 hg w5 hbox hb; have n0_ := Aside0.mk (below_step sq50 hb); have n1_ := Aside0.mk (hbox); have n2_ := Aside0.mk ((by rw [hg]; exact (below_size sq50) : w.heap.size ≤ gb214)); have n3_ := Aside0.mk ((by rw [hg]; exact (below_size sq50) : w.heap.size ≤ gb214)); clear HB; have HB := n0_; have BK214 := n1_; have GW214 := n2_; have GE214 := n3_; clear n0_ n1_ n2_ n3_; clear hb hbox hg) | ((with_reducible refine gate_callee (f := 13) rfl ?_); refine goesL_ (some 11) rfl rfl Try.func13 sq2 rfl #[.slice A0 l0.length c0, .slice A1 l1.length c1] rfl sq51 ?_; (with_reducible refine (kind_Each.calls k _ _ l0 _ _ l1 t215 t218 t219 _ ?side5 ?side1 ?side2 ?side3 ?side4 A3.out).mono ?_); (case side1 => repeat (first | exact (Kd.C_below HR0.out HB.out) | (with_reducible refine Kd.C_alloc ?_ _) | (with_reducible refine Kd.C_drewN ?_ _) | (with_reducible refine Kd.C_drew ?_))); (case side2 => exact HC0.out); (case side3 => repeat (first | exact (Kd.C_below HR1.out HB.out) | (with_reducible refine Kd.C_alloc ?_ _) | (with_reducible refine Kd.C_drewN ?_ _) | (with_reducible refine Kd.C_drew ?_))); (case side4 => exact HC1.out); (case side5 => exact Glob.below HG.out sq62); rintro e w6 ⟨v216, rfl, ho0, hb⟩; refine ⟨_, rfl, ?_⟩; have n0_ := Aside0.mk (Kd.R_lower ho0 (below_size sq62)); have n1_ := Aside0.mk (blk_below (g := gb214) (o := .cells #[.int .i64 0, .int .i64 0] 28 (0, 0)) sq38 hb); have n2_ := Aside0.mk (below_step sq62 hb); clear BK214; clear HB; have HO217 := n0_; have BK214 := n1_; have HB := n2_; clear n0_ n1_ n2_; (try clear hb); (try clear hb2); (try clear hk); (try clear hi); (try clear ho0)) | ((with_reducible refine gate_dst (N := 7) rfl ?_); refine box_event ?hg (N := 7) ?hd (cs := #[.int .i64 0, .int .i64 0]) (t := 28) ?hr ?_; (case hd => rfl); (case hg => rfl); (case hr => first | (go_simp; done) | (go_simp; rfl)); intro gb220 hg w7 hbox hb; have n0_ := Aside0.mk (Kd.R_below (by (with_reducible repeat (first | apply Kd.R_alloc | apply Kd.R_drewN | apply Kd.R_drew)); exact HO217.out) hb); have n1_ := Aside0.mk (blk_below (g := gb214) (o := .cells #[.int .i64 0, .int .i64 0] 28 (0, 0)) sq38 hb); have n2_ := Aside0.mk (below_step sq62 hb); have n3_ := Aside0.mk (hbox); have n4_ := Aside0.mk ((by rw [hg]; exact (below_size sq62) : w.heap.size ≤ gb220)); have n5_ := Aside0.mk ((by rw [hg]; exact (below_size sq62) : w.heap.size ≤ gb220)); have n6_ := Aside0.mk ((by rw [hg]; exact Nat.ne_of_lt (blk_lt (g := gb214) (o := .cells #[.int .i64 0, .int .i64 0] 28 (0, 0)) sq38) : gb214 ≠ gb220)); have n7_ := Aside0.mk ((by rw [hg]; exact Nat.ne_of_gt (blk_lt (g := gb214) (o := .cells #[.int .i64 0, .int .i64 0] 28 (0, 0)) sq38) : gb220 ≠ gb214)); clear HO217; clear BK214; clear HB; have HO217 := n0_; have BK214 := n1_; have HB := n2_; have BK220 := n3_; have GW220 := n4_; have GE220 := n5_; have NB214_220 := n6_; have NB220_214 := n7_; clear n0_ n1_ n2_ n3_ n4_ n5_ n6_ n7_; clear hb hbox hg; have hnb8 := NB220_214.out; have hnc8 := NB214_220.out; have hcz9_0 : w7.cell? ⟨gb220, 0, none⟩ = some (.int .i64 0) := (blk_cell BK220.out 0).trans rfl; have hcz9_1 : w7.cell? ⟨gb220, 1, none⟩ = some (.int .i64 0) := (blk_cell BK220.out 1).trans rfl; have hfz9_0 := blk_frozen BK220.out 0; have hfz9_1 := blk_frozen BK220.out 1))
  have n0_ : Aside0 (Kd.R (Kd.int .i64) 3 ((w7.setCell ⟨gb220, 0, none⟩ (.int .i64 t218)).setCell ⟨gb220, 1, none⟩ (.int .i64 t219)) w.heap.size (fun _ => True) v216 t215) := ⟨by (with_reducible repeat (first | apply Kd.R_alloc | apply Kd.R_drewN | apply Kd.R_drew)); exact Kd.R_mono (Kd.R_far (p := ⟨gb220, 1, none⟩) (Kd.R_far (p := ⟨gb220, 0, none⟩) (Kd.R_types HO217.out BK220.out sq1) (fun _ hk => hk.2) (.int .i64 t218)) (fun _ hk => hk.2) (.int .i64 t219)) (fun _ hk => trivial)⟩
  have n1_ : Aside0 (((w7.setCell ⟨gb220, 0, none⟩ (.int .i64 t218)).setCell ⟨gb220, 1, none⟩ (.int .i64 t219)).heap[gb214]? = some (.cells #[.int .i64 0, .int .i64 0] 28 (0, 0))) := ⟨by (with_reducible repeat (first | refine blk_drewN ?_ _ | refine blk_drew ?_ | refine blk_alloc ?_ _)); refine blk_far ?_ NB214_220.out _; (with_reducible repeat (first | refine blk_drewN ?_ _ | refine blk_drew ?_ | refine blk_alloc ?_ _)); refine blk_far ?_ NB214_220.out _; (with_reducible repeat (first | refine blk_drewN ?_ _ | refine blk_drew ?_ | refine blk_alloc ?_ _)); exact BK214.out⟩
  have n2_ : Aside0 (((w7.setCell ⟨gb220, 0, none⟩ (.int .i64 t218)).setCell ⟨gb220, 1, none⟩ (.int .i64 t219)).heap[gb220]? = some (.cells #[.int .i64 t218, .int .i64 t219] 28 (0, 0))) := ⟨by (with_reducible repeat (first | refine blk_drewN ?_ _ | refine blk_drew ?_ | refine blk_alloc ?_ _)); refine blk_put (cs := #[.int .i64 t218, .int .i64 0]) ?_ 1 _ rfl; (with_reducible repeat (first | refine blk_drewN ?_ _ | refine blk_drew ?_ | refine blk_alloc ?_ _)); refine blk_put (cs := #[.int .i64 0, .int .i64 0]) ?_ 0 _ rfl; (with_reducible repeat (first | refine blk_drewN ?_ _ | refine blk_drew ?_ | refine blk_alloc ?_ _)); exact BK220.out⟩
  have n3_ : Aside0 (Below w.heap.size w ((w7.setCell ⟨gb220, 0, none⟩ (.int .i64 t218)).setCell ⟨gb220, 1, none⟩ (.int .i64 t219))) := ⟨sq76⟩
  (try clear HO217)
  (try clear BK214)
  (try clear BK220)
  (try clear HB)
  generalize ((w7.setCell ⟨gb220, 0, none⟩ (.int .i64 t218)).setCell ⟨gb220, 1, none⟩ (.int .i64 t219)) = w10 at n0_ n1_ n2_ n3_ ⊢
  have HO217 := n0_
  have BK214 := n1_
  have BK220 := n2_
  have HB := n3_
  clear n0_ n1_ n2_ n3_
  have n0_ := Aside0.mk (Kd.R_drew HO217.out)
  have n1_ := Aside0.mk (blk_drew BK214.out)
  have n2_ := Aside0.mk (blk_drew BK220.out)
  have n3_ := Aside0.mk (below_drew1 HB.out)
  clear HO217; clear BK214; clear BK220; clear HB
  have HO217 := n0_
  have BK214 := n1_
  have BK220 := n2_
  have HB := n3_
  clear n0_ n1_ n2_ n3_
  refine start_ (n := 3) (S := fun w' => w'.cell? ⟨gb220, 0, none⟩ = some (.int .i64 t218) ∧ w'.cell? ⟨gb220, 1, none⟩ = some (.int .i64 t219)) (ds := []) #[false, false, false] sq2 rfl rfl ⟨(blk_cell BK220.out 0).trans rfl, (blk_cell BK220.out 1).trans rfl⟩ (fun hHeld => ?_)
  generalize w10.drew = w11 at HO217 BK214 BK220 HB hHeld ⊢
  refine pure_ (i := 1) (N := some 4) (v := ?_) (a' := ?_) #[false, true, false] rfl rfl sq2 (fun _ _ _ h => h) (Or.inl ⟨by rfl, ?_⟩) ?_ ?_
  rotate_left
  ·intro w'
   go_simp
   with_reducible rfl
  rotate_left
  ·simp only [Act.put, List.setIfInBounds_toArray, List.set_cons_zero, List.set_cons_succ, i64_w, i32_w]
   rfl
  refine take_ (i := 0) (N := some 17) (v := ?_) (a' := ?_) #[true, true, false] rfl rfl sq2 (fun _ _ _ h => h) (Or.inl ⟨by rfl, ?_⟩) hHeld ?_ ?_
  rotate_left
  ·rintro w' ⟨s0, s1⟩
   go_simp
   with_reducible rfl
  rotate_left
  ·simp only [Act.put, List.setIfInBounds_toArray, List.set_cons_zero, List.set_cons_succ, i64_w, i32_w]
   rfl
  refine one_ (i := 2) (N := none) #[true, true, true] rfl rfl sq2 sq1 (fun K hK => ?_)
  have hs12 : w11.cell? ⟨gb214, 0, none⟩ = some (.int .i64 0) := (blk_cell BK214.out 0).trans rfl
  have hfs12 := blk_frozen BK214.out 0
  have hns12_1 := NB220_214.out
  have hms12_1 := NB214_220.out
  have hs13 : w11.cell? ⟨gb214, 1, none⟩ = some (.int .i64 0) := (blk_cell BK214.out 1).trans rfl
  have hfs13 := blk_frozen BK214.out 1
  have hns13_1 := NB220_214.out
  have hms13_1 := NB214_220.out
  refine skip_ (w1 := ?_) (by rfl) rfl ?_ ?_
  rotate_left
  ·go_simp
   rfl
  refine hK.out _ _ ⟨((cell_far (p := ⟨gb214, _, none⟩) NB220_214.out _).trans (((cell_far (p := ⟨gb214, _, none⟩) NB220_214.out _).trans (hHeld.1)))), ((cell_far (p := ⟨gb214, _, none⟩) NB220_214.out _).trans (((cell_far (p := ⟨gb214, _, none⟩) NB220_214.out _).trans (hHeld.2))))⟩ (fun hHeld => ?_)
  clear hK K
  refine done_ sq2 ?_
  try go_wp2
  refine bodyPost_ret (results_tc rfl _ _ gb214 28 #[.int .i64 t218, .int .i64 t219] (0, 0) _ rfl (by (with_reducible repeat (first | refine blk_drewN ?_ _ | refine blk_drew ?_ | refine blk_alloc ?_ _)); refine blk_put (cs := #[.int .i64 t218, .int .i64 0]) ?_ 1 _ rfl; (with_reducible repeat (first | refine blk_drewN ?_ _ | refine blk_drew ?_ | refine blk_alloc ?_ _)); refine blk_put (cs := #[.int .i64 0, .int .i64 0]) ?_ 0 _ rfl; (with_reducible repeat (first | refine blk_drewN ?_ _ | refine blk_drew ?_ | refine blk_alloc ?_ _)); exact BK214.out) Try.underlying28 rfl (by kernel_rfl)) rfl ?_
  exact ⟨sq11, sq76⟩
 rw [if_neg c4] at H
 have c4b0 : (!(t218 == 0) || (!(t219 == 0))) = false := by simpa using c4
 clear c4
 obtain ⟨ji14, hji14⟩ : ∃ j_ : Int, (wrap64 ((t215.length : Int) - 1)) = j_ := ⟨_, rfl⟩
 replace H : (if 0 ≤ (ji14) then (if (ji14) < (t215.length : Int) then (some (rd t215 (ji14), 0, 0)) else (none)) else (none)) = some (r1, r2, r3) := by first | (rw [hji14] at H; exact H) | (simp only [hji14] at H ⊢; exact H)
 (try rw [hji14] at A3)
 have hji14w : (IntKind.i64.wrap ((t215.length : Int) - 1)) = ji14 := (i64_w _).trans hji14
 by_cases c15 : 0 ≤ (ji14)
 ·rw [if_pos c15] at H
  have c15b0 : decide (0 ≤ (ji14)) = true := decide_eq_true c15; clear c15
  by_cases c16 : (ji14) < (t215.length : Int)
  ·rw [if_pos c16] at H
   have c16b0 : decide ((ji14) < (t215.length : Int)) = true := decide_eq_true c16; clear c16
   simp only [Option.some.injEq, Prod.mk.injEq] at H
   obtain ⟨rfl, rfl, rfl⟩ := H
   go_enter Try.func10, Try.ntmps10
   go_wp2_with (first | ((with_reducible refine gate_dst (N := 5) rfl ?_); refine box_event ?hg (N := 5) ?hd (cs := #[.int .i64 0, .int .i64 0]) (t := 28) ?hr ?_; (case hd => rfl); (case hg => rfl); (case hr => first | (go_simp; done) | (go_simp; rfl)); intro gb214 hg w17 hbox hb; have n0_ := Aside0.mk (below_step sq50 hb); have n1_ := Aside0.mk (hbox); have n2_ := Aside0.mk ((by rw [hg]; exact (below_size sq50) : w.heap.size ≤ gb214)); have n3_ := Aside0.mk ((by rw [hg]; exact (below_size sq50) : w.heap.size ≤ gb214)); clear HB; have HB := n0_; have BK214 := n1_; have GW214 := n2_; have GE214 := n3_; clear n0_ n1_ n2_ n3_; clear hb hbox hg) | ((with_reducible refine gate_callee (f := 13) rfl ?_); refine goesL_ (some 11) rfl rfl Try.func13 sq2 rfl #[.slice A0 l0.length c0, .slice A1 l1.length c1] rfl sq51 ?_; (with_reducible refine (kind_Each.calls k _ _ l0 _ _ l1 t215 t218 t219 _ ?side5 ?side1 ?side2 ?side3 ?side4 A3.out).mono ?_); (case side1 => repeat (first | exact (Kd.C_below HR0.out HB.out) | (with_reducible refine Kd.C_alloc ?_ _) | (with_reducible refine Kd.C_drewN ?_ _) | (with_reducible refine Kd.C_drew ?_))); (case side2 => exact HC0.out); (case side3 => repeat (first | exact (Kd.C_below HR1.out HB.out) | (with_reducible refine Kd.C_alloc ?_ _) | (with_reducible refine Kd.C_drewN ?_ _) | (with_reducible refine Kd.C_drew ?_))); (case side4 => exact HC1.out); (case side5 => exact Glob.below HG.out sq62); rintro e w18 ⟨v216, rfl, ho0, hb⟩; refine ⟨_, rfl, ?_⟩; have n0_ := Aside0.mk (Kd.R_lower ho0 (below_size sq62)); have n1_ := Aside0.mk (blk_below (g := gb214) (o := .cells #[.int .i64 0, .int .i64 0] 28 (0, 0)) sq38 hb); have n2_ := Aside0.mk (below_step sq62 hb); clear BK214; clear HB; have HO217 := n0_; have BK214 := n1_; have HB := n2_; clear n0_ n1_ n2_; (try clear hb); (try clear hb2); (try clear hk); (try clear hi); (try clear ho0)) | ((with_reducible refine gate_dst (N := 7) rfl ?_); refine box_event ?hg (N := 7) ?hd (cs := #[.int .i64 0, .int .i64 0]) (t := 28) ?hr ?_; (case hd => rfl); (case hg => rfl); (case hr => first | (go_simp; done) | (go_simp; rfl)); intro gb220 hg w19 hbox hb; have n0_ := Aside0.mk (Kd.R_below (by (with_reducible repeat (first | apply Kd.R_alloc | apply Kd.R_drewN | apply Kd.R_drew)); exact HO217.out) hb); have n1_ := Aside0.mk (blk_below (g := gb214) (o := .cells #[.int .i64 0, .int .i64 0] 28 (0, 0)) sq38 hb); have n2_ := Aside0.mk (below_step sq62 hb); have n3_ := Aside0.mk (hbox); have n4_ := Aside0.mk ((by rw [hg]; exact (below_size sq62) : w.heap.size ≤ gb220)); have n5_ := Aside0.mk ((by rw [hg]; exact (below_size sq62) : w.heap.size ≤ gb220)); have n6_ := Aside0.mk ((by rw [hg]; exact Nat.ne_of_lt (blk_lt (g := gb214) (o := .cells #[.int .i64 0, .int .i64 0] 28 (0, 0)) sq38) : gb214 ≠ gb220)); have n7_ := Aside0.mk ((by rw [hg]; exact Nat.ne_of_gt (blk_lt (g := gb214) (o := .cells #[.int .i64 0, .int .i64 0] 28 (0, 0)) sq38) : gb220 ≠ gb214)); clear HO217; clear BK214; clear HB; have HO217 := n0_; have BK214 := n1_; have HB := n2_; have BK220 := n3_; have GW220 := n4_; have GE220 := n5_; have NB214_220 := n6_; have NB220_214 := n7_; clear n0_ n1_ n2_ n3_ n4_ n5_ n6_ n7_; clear hb hbox hg; have hnb20 := NB220_214.out; have hnc20 := NB214_220.out; have hcz21_0 : w19.cell? ⟨gb220, 0, none⟩ = some (.int .i64 0) := (blk_cell BK220.out 0).trans rfl; have hcz21_1 : w19.cell? ⟨gb220, 1, none⟩ = some (.int .i64 0) := (blk_cell BK220.out 1).trans rfl; have hfz21_0 := blk_frozen BK220.out 0; have hfz21_1 := blk_frozen BK220.out 1; obtain ⟨Ao22, co22, eo22⟩ := Kd.R_slice HO217.out; subst eo22; have p221 : 0 ≤ ((ji14) : Int) := of_decide_eq_true sq6; have q221 : (ji14) < (t215.length : Int) := of_decide_eq_true sq6; obtain ⟨ad221, e221, hx221_0⟩ := Kd.at_int (Kd.R_reads' HO217.out).2.2 (ji14) p221 q221; cases e221; have hn221_0 : ad221.block ≠ gb220 := Kd.own_blk (Kd.R_ne HO217.out BK220.out sq1); have hn221_1 : ad221.block ≠ gb220 := Kd.own_blk (Kd.R_ne HO217.out BK220.out sq1); replace hx221_0 := (cell_far (p := ⟨gb220, 0, none⟩) (by first | (rw [add_block]; exact hn221_0) | (show (Addr.add _ _).block ≠ _; rw [add_block]; exact hn221_0) | exact hn221_0) (.int .i64 t218)).trans hx221_0; replace hx221_0 := (cell_far (p := ⟨gb220, 1, none⟩) (by first | (rw [add_block]; exact hn221_1) | (show (Addr.add _ _).block ≠ _; rw [add_block]; exact hn221_1) | exact hn221_1) (.int .i64 t219)).trans hx221_0; clear hn221_0; clear hn221_1; replace p221 := eq_true p221; replace q221 := eq_true q221; have hcz23_0 : w19.cell? ⟨gb214, 0, none⟩ = some (.int .i64 0) := (blk_cell BK214.out 0).trans rfl; have hcz23_1 : w19.cell? ⟨gb214, 1, none⟩ = some (.int .i64 0) := (blk_cell BK214.out 1).trans rfl; have hfz23_0 := blk_frozen BK214.out 0; have hfz23_1 := blk_frozen BK214.out 1))
   refine bodyPost_ret (results_tc rfl _ _ gb214 28 #[.int .i64 0, .int .i64 0] (0, 0) _ rfl (by (with_reducible repeat (first | refine blk_drewN ?_ _ | refine blk_drew ?_ | refine blk_alloc ?_ _)); refine blk_put (cs := #[.int .i64 0, .int .i64 0]) ?_ 1 _ rfl; (with_reducible repeat (first | refine blk_drewN ?_ _ | refine blk_drew ?_ | refine blk_alloc ?_ _)); refine blk_put (cs := #[.int .i64 0, .int .i64 0]) ?_ 0 _ rfl; (with_reducible repeat (first | refine blk_drewN ?_ _ | refine blk_drew ?_ | refine blk_alloc ?_ _)); refine blk_far ?_ NB214_220.out _; (with_reducible repeat (first | refine blk_drewN ?_ _ | refine blk_drew ?_ | refine blk_alloc ?_ _)); refine blk_far ?_ NB214_220.out _; (with_reducible repeat (first | refine blk_drewN ?_ _ | refine blk_drew ?_ | refine blk_alloc ?_ _)); exact BK214.out) Try.underlying28 rfl (by kernel_rfl)) rfl ?_
   exact ⟨by first | rfl | (simp [errW_none, errW_some] <;> rfl) | (simp only [← hji14]; first | rfl | (simp [errW_none, errW_some] <;> rfl)) | (simp [*, errW_none, errW_some] <;> rfl), sq76⟩
  rw [if_neg c16] at H
  exact absurd H (by simp)
 rw [if_neg c15] at H
 exact absurd H (by simp)

end Go.Proofs.Ytpfnnamicbbobaa.PAll
