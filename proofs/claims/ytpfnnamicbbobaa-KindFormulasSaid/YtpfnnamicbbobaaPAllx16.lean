-- Written by a program of this session (wip/tools/print2.sh): functions as plain Lean, and that the machine's calls do what they say.
import Derived.Test.YtpfnnamicbbobaaPAllx0
import Derived.Test.YtpfnnamicbbobaaPAllx8
namespace Go.Proofs.Ytpfnnamicbbobaa.PAll
open Go.RowKit Go.Proofs.YtpfnnamicbbobaaW.PrintWords Go.Proofs.YtpfnnamicbbobaaW.PrintLast Go.Proofs.YtpfnnamicbbobaaW.PrintMore
attribute [local go_sem] max2_int min2_int max_two min_two max_three min_three max_four min_four   -- for this text's walks alone
set_option linter.unusedVariables false
set_option linter.unusedSimpArgs false

/-! ### tontinelaw18_ints: function 15 -/
def tontinelaw18_ints.l0 : Nat → List Int → List Int → Int → Int → Option (Bool)
 | 0, _, _, _, _ => none
 | k + 1, x0, x1, x12, x13 => if x13 < x12 then (if 0 ≤ x13 then (if x13 < (x0.length : Int) then (if x13 < (x1.length : Int) then (if (rd x0 x13) = (rd x1 x13) then (tontinelaw18_ints.l0 k x0 x1 x12 (wrap64 (x13 + 1))) else (some false)) else (none)) else (none)) else (none)) else (some true)
def tontinelaw18_ints.f (k : Nat) (l0 : List Int) (l1 : List Int) : Option (Bool) := if (l0.length : Int) = (l1.length : Int) then (tontinelaw18_ints.l0 k l0 l1 (l0.length : Int) 0) else (some false)
theorem tontinelaw18_ints.mono_l : ∀ k, (∀ y0 y1 y2 y3, LeO (tontinelaw18_ints.l0 k y0 y1 y2 y3) (tontinelaw18_ints.l0 (k + 1) y0 y1 y2 y3))
 | 0 => fun _ _ _ _ r h => by simp [tontinelaw18_ints.l0] at h
 | k + 1 => by
  have ih0 := tontinelaw18_ints.mono_l k
  ·intro y0 y1 y2 y3
   unfold tontinelaw18_ints.l0
   exact sq96
theorem tontinelaw18_ints.mono : ∀ a0 a1 k, LeO (tontinelaw18_ints.f k a0 a1) (tontinelaw18_ints.f (k + 1) a0 a1) := by
 intro a0 a1 k
 have ih0 := tontinelaw18_ints.mono_l k
 unfold tontinelaw18_ints.f
 exact sq96
set_option maxHeartbeats 8000000 in
set_option maxRecDepth 100000 in
theorem tontinelaw18_ints.calls (k : Nat) (A0 : Option Addr) (c0 : Nat) (l0 : List Int) (A1 : Option Addr) (c1 : Nat) (l1 : List Int) (r : Bool) (w : World) (hr0 : Kd.C (Kd.int .i64) w A0 l0.length l0) (hc0 : l0.length ≤ c0) (hr1 : Kd.C (Kd.int .i64) w A1 l1.length l1) (hc1 : l1.length ≤ c1) (h : tontinelaw18_ints.f k l0 l1 = some r) :
  Calls Try.prog 15 #[.slice A0 l0.length c0, .slice A1 l1.length c1] w fun e w' => e = .returned (.bool r) ∧ Drawn0 w w' := by
 have HR0 := Aside0.mk hr0
 have HC0 := Aside0.mk hc0
 clear hr0 hc0
 have HR1 := Aside0.mk hr1
 have HC1 := Aside0.mk hc1
 clear hr1 hc1
 have H : (if (l0.length : Int) = (l1.length : Int) then (tontinelaw18_ints.l0 k l0 l1 (l0.length : Int) 0) else (some false)) = some r := h
 clear h
 by_cases c3 : (l0.length : Int) = (l1.length : Int)
 ·rw [if_pos c3] at H
  have c3b0 : ((l0.length : Int) == (l1.length : Int)) = true := beq_iff_eq.mpr c3
  have c3b1 : ((l0.length : Int) != (l1.length : Int)) = false := bne_eq_false_iff_eq.mpr c3
  have c3b2 : (l0.length == l1.length) = true := by first | simpa using c3 | (simp at c3 ⊢; omega)
  clear c3
  have H' := Aside0.mk H
  clear H
  go_enter Try.func15, Try.ntmps15
  go_wp2
  repeat (go_quiet (fail); try go_wp2)
  go_loopg [13] k (fun kq v13 w' => ∃ (x13_1 : Int), v13 = .int .i64 x13_1 ∧ Aside0 (tontinelaw18_ints.l0 kq l0 l1 (l0.length : Int) x13_1 = some r) ∧ Aside0 (kq ≤ k) ∧ Drawn0 w w')
  case atStart => exact ⟨(0), sq6, H', ⟨Nat.le_refl _⟩, sq9⟩
  case round =>
   clear H'
   try clear c1; try clear p2; try clear c3; try clear c3b0; try clear c3b1; try clear c3b2
   obtain ⟨x13_1, rfl, HA, HK1, ⟨m1, rfl⟩⟩ := hrel
   cases gk with
   | zero => exact absurd HA.out (by simp [tontinelaw18_ints.l0])
   | succ k1 =>
    have H := HA.out
    clear HA
    simp only [tontinelaw18_ints.l0] at H
    by_cases c4 : x13_1 < (l0.length : Int)
    ·rw [if_pos c4] at H
     have c4b0 : decide (x13_1 < (l0.length : Int)) = true := decide_eq_true c4; clear c4
     by_cases c5 : 0 ≤ x13_1
     ·rw [if_pos c5] at H
      have c5b0 : decide (0 ≤ x13_1) = true := decide_eq_true c5; clear c5
      by_cases c6 : x13_1 < (l0.length : Int)
      ·rw [if_pos c6] at H
       have c6b0 : decide (x13_1 < (l0.length : Int)) = true := decide_eq_true c6; clear c6
       by_cases c7 : x13_1 < (l1.length : Int)
       ·rw [if_pos c7] at H
        have c7b0 : decide (x13_1 < (l1.length : Int)) = true := decide_eq_true c7; clear c7
        by_cases c8 : (rd l0 x13_1) = (rd l1 x13_1)
        ·rw [if_pos c8] at H
         have c8b0 : ((rd l0 x13_1) == (rd l1 x13_1)) = true := beq_iff_eq.mpr c8
         have c8b1 : ((rd l0 x13_1) != (rd l1 x13_1)) = false := bne_eq_false_iff_eq.mpr c8
         clear c8
         have H' := Aside0.mk H
         clear H
         have p326 : 0 ≤ (x13_1 : Int) := of_decide_eq_true sq7
         have q326 : x13_1 < (l0.length : Int) := of_decide_eq_true sq7
         obtain ⟨ad326, e326, hx326_0⟩ := Kd.at_int HR0.out x13_1 p326 q326
         cases e326
         replace p326 := eq_true p326
         replace q326 := eq_true q326
         have p327 : 0 ≤ (x13_1 : Int) := of_decide_eq_true sq7
         have q327 : x13_1 < (l1.length : Int) := of_decide_eq_true sq7
         obtain ⟨ad327, e327, hx327_0⟩ := Kd.at_int HR1.out x13_1 p327 q327
         cases e327
         replace p327 := eq_true p327
         replace q327 := eq_true q327
         go_wp2
         repeat (go_quiet (fail); try go_wp2)
         go_roundg k1
         case measure => have := HK1.out; omega
         case rel => exact ⟨(wrap64 (x13_1 + 1)), sq6, H', ⟨sq3⟩, sq9⟩
        rw [if_neg c8] at H
        have c8b0 : ((rd l0 x13_1) == (rd l1 x13_1)) = false := beq_eq_false_iff_ne.mpr c8
        have c8b1 : ((rd l0 x13_1) != (rd l1 x13_1)) = true := bne_iff_ne.mpr c8
        obtain rfl := Option.some.inj H
        have p326 : 0 ≤ (x13_1 : Int) := of_decide_eq_true sq7
        have q326 : x13_1 < (l0.length : Int) := of_decide_eq_true sq7
        obtain ⟨ad326, e326, hx326_0⟩ := Kd.at_int HR0.out x13_1 p326 q326
        cases e326
        replace p326 := eq_true p326
        replace q326 := eq_true q326
        have p327 : 0 ≤ (x13_1 : Int) := of_decide_eq_true sq7
        have q327 : x13_1 < (l1.length : Int) := of_decide_eq_true sq7
        obtain ⟨ad327, e327, hx327_0⟩ := Kd.at_int HR1.out x13_1 p327 q327
        cases e327
        replace p327 := eq_true p327
        replace q327 := eq_true q327
        go_wp2
        repeat (go_quiet (fail); try go_wp2)
        go_ret
        exact ⟨sq6, sq9⟩
       rw [if_neg c7] at H
       exact absurd H (by simp)
      rw [if_neg c6] at H
      exact absurd H (by simp)
     rw [if_neg c5] at H
     exact absurd H (by simp)
    rw [if_neg c4] at H
    have c4b0 : decide (x13_1 < (l0.length : Int)) = false := decide_eq_false c4; clear c4
    obtain rfl := Option.some.inj H
    go_wp2
    repeat (go_quiet (fail); try go_wp2)
    go_ret
    exact ⟨sq6, sq9⟩
 rw [if_neg c3] at H
 have c3b0 : ((l0.length : Int) == (l1.length : Int)) = false := beq_eq_false_iff_ne.mpr c3
 have c3b1 : ((l0.length : Int) != (l1.length : Int)) = true := bne_iff_ne.mpr c3
 have c3b2 : (l0.length == l1.length) = false := by first | simpa using c3 | (simp at c3 ⊢; omega)
 obtain rfl := Option.some.inj H
 go_enter Try.func15, Try.ntmps15
 go_wp2
 repeat (go_quiet (fail); try go_wp2)
 go_ret
 exact ⟨sq6, sq9⟩

/-! ### slices_Index_string_string: function 58 -/
def slices_Index_string_string.l0 : Nat → List ByteArray → ByteArray → Int → Int → Option (Int)
 | 0, _, _, _, _ => none
 | k + 1, x0, x1, x7, x8 => if x8 < x7 then (if 0 ≤ x8 then (if x8 < (x0.length : Int) then (if x1.toList = (rdOf ByteArray.empty x0 x8).toList then (some x8) else (slices_Index_string_string.l0 k x0 x1 x7 (wrap64 (x8 + 1)))) else (none)) else (none)) else (some (-1))
def slices_Index_string_string.f (k : Nat) (l0 : List ByteArray) (a1 : ByteArray) : Option (Int) := slices_Index_string_string.l0 k l0 a1 (l0.length : Int) 0
theorem slices_Index_string_string.mono_l : ∀ k, (∀ y0 y1 y2 y3, LeO (slices_Index_string_string.l0 k y0 y1 y2 y3) (slices_Index_string_string.l0 (k + 1) y0 y1 y2 y3))
 | 0 => fun _ _ _ _ r h => by simp [slices_Index_string_string.l0] at h
 | k + 1 => by
  have ih0 := slices_Index_string_string.mono_l k
  ·intro y0 y1 y2 y3
   unfold slices_Index_string_string.l0
   exact sq96
theorem slices_Index_string_string.mono : ∀ a0 a1 k, LeO (slices_Index_string_string.f k a0 a1) (slices_Index_string_string.f (k + 1) a0 a1) := by
 intro a0 a1 k
 have ih0 := slices_Index_string_string.mono_l k
 unfold slices_Index_string_string.f
 exact sq96
set_option maxHeartbeats 8000000 in
set_option maxRecDepth 100000 in
theorem slices_Index_string_string.calls (k : Nat) (A0 : Option Addr) (c0 : Nat) (l0 : List ByteArray) (a1 : ByteArray) (r : Int) (w : World) (hr0 : Kd.C Kd.string w A0 l0.length l0) (hc0 : l0.length ≤ c0) (h : slices_Index_string_string.f k l0 a1 = some r) :
  Calls Try.prog 58 #[.slice A0 l0.length c0, .string a1] w fun e w' => e = .returned (.int .i64 r) ∧ Drawn0 w w' := by
 have HR0 := Aside0.mk hr0
 have HC0 := Aside0.mk hc0
 clear hr0 hc0
 have H : (slices_Index_string_string.l0 k l0 a1 (l0.length : Int) 0) = some r := h
 clear h
 have H' := Aside0.mk H
 clear H
 go_enter Try.func58, Try.ntmps58
 go_wp2
 go_loopg [8] k (fun kq v8 w' => ∃ (x8_1 : Int), v8 = .int .i64 x8_1 ∧ Aside0 (slices_Index_string_string.l0 kq l0 a1 (l0.length : Int) x8_1 = some r) ∧ Aside0 (kq ≤ k) ∧ Drawn0 w w')
 case atStart => exact ⟨(0), sq6, H', ⟨Nat.le_refl _⟩, sq9⟩
 case round =>
  clear H'
  try clear p2
  obtain ⟨x8_1, rfl, HA, HK1, ⟨m1, rfl⟩⟩ := hrel
  cases gk with
  | zero => exact absurd HA.out (by simp [slices_Index_string_string.l0])
  | succ k1 =>
   have H := HA.out
   clear HA
   simp only [slices_Index_string_string.l0] at H
   by_cases c3 : x8_1 < (l0.length : Int)
   ·rw [if_pos c3] at H
    have c3b0 : decide (x8_1 < (l0.length : Int)) = true := decide_eq_true c3; clear c3
    by_cases c4 : 0 ≤ x8_1
    ·rw [if_pos c4] at H
     have c4b0 : decide (0 ≤ x8_1) = true := decide_eq_true c4; clear c4
     by_cases c5 : x8_1 < (l0.length : Int)
     ·rw [if_pos c5] at H
      have c5b0 : decide (x8_1 < (l0.length : Int)) = true := decide_eq_true c5; clear c5
      by_cases c6 : a1.toList = (rdOf ByteArray.empty l0 x8_1).toList
      ·rw [if_pos c6] at H
       have c6b0 : (a1.toList == (rdOf ByteArray.empty l0 x8_1).toList) = true := beq_iff_eq.mpr c6
       have c6b1 : (a1.toList != (rdOf ByteArray.empty l0 x8_1).toList) = false := bne_eq_false_iff_eq.mpr c6
       clear c6
       obtain rfl := Option.some.inj H
       have p328 : 0 ≤ (x8_1 : Int) := of_decide_eq_true sq7
       have q328 : x8_1 < (l0.length : Int) := of_decide_eq_true sq7
       obtain ⟨ad328, e328, hx328_0⟩ := Kd.at_string HR0.out x8_1 p328 q328
       cases e328
       replace p328 := eq_true p328
       replace q328 := eq_true q328
       go_wp2
       go_ret
       exact ⟨sq6, sq9⟩
      rw [if_neg c6] at H
      have c6b0 : (a1.toList == (rdOf ByteArray.empty l0 x8_1).toList) = false := beq_eq_false_iff_ne.mpr c6
      have c6b1 : (a1.toList != (rdOf ByteArray.empty l0 x8_1).toList) = true := bne_iff_ne.mpr c6
      have H' := Aside0.mk H
      clear H
      have p328 : 0 ≤ (x8_1 : Int) := of_decide_eq_true sq7
      have q328 : x8_1 < (l0.length : Int) := of_decide_eq_true sq7
      obtain ⟨ad328, e328, hx328_0⟩ := Kd.at_string HR0.out x8_1 p328 q328
      cases e328
      replace p328 := eq_true p328
      replace q328 := eq_true q328
      go_wp2
      go_roundg k1
      case measure => have := HK1.out; omega
      case rel => exact ⟨(wrap64 (x8_1 + 1)), sq6, H', ⟨sq3⟩, sq9⟩
     rw [if_neg c5] at H
     exact absurd H (by simp)
    rw [if_neg c4] at H
    exact absurd H (by simp)
   rw [if_neg c3] at H
   have c3b0 : decide (x8_1 < (l0.length : Int)) = false := decide_eq_false c3; clear c3
   obtain rfl := Option.some.inj H
   go_wp2
   go_ret
   exact ⟨sq6, sq9⟩

/-! ### slices_Contains_string_string: function 47 -/
def slices_Contains_string_string.f (k : Nat) (l0 : List ByteArray) (a1 : ByteArray) : Option (Bool) := (slices_Index_string_string.f k l0 a1).bind fun t329 => (some (decide (t329 ≥ 0)))
theorem slices_Contains_string_string.mono : ∀ a0 a1 k, LeO (slices_Contains_string_string.f k a0 a1) (slices_Contains_string_string.f (k + 1) a0 a1) := by
 intro a0 a1 k
 unfold slices_Contains_string_string.f
 exact (by repeat' first | (with_reducible exact slices_Index_string_string.mono _ _ _) | (with_reducible exact LeO.refl _) | (with_reducible exact LeO.none _) | (with_reducible refine LeO.ite ?_ ?_) | (with_reducible refine LeO.bind ?_ (fun _ => ?_)) | exact slices_Index_string_string.mono _ _ _ | exact LeO.none _ | refine LeO.ite ?_ ?_ | refine LeO.bind ?_ (fun _ => ?_))
set_option maxHeartbeats 8000000 in
set_option maxRecDepth 100000 in
theorem slices_Contains_string_string.calls (k : Nat) (A0 : Option Addr) (c0 : Nat) (l0 : List ByteArray) (a1 : ByteArray) (r : Bool) (w : World) (hr0 : Kd.C Kd.string w A0 l0.length l0) (hc0 : l0.length ≤ c0) (h : slices_Contains_string_string.f k l0 a1 = some r) :
  Calls Try.prog 47 #[.slice A0 l0.length c0, .string a1] w fun e w' => e = .returned (.bool r) ∧ Drawn0 w w' := by
 have HR0 := Aside0.mk hr0
 have HC0 := Aside0.mk hc0
 clear hr0 hc0
 have H : ((slices_Index_string_string.f k l0 a1).bind fun t329 => (some (decide (t329 ≥ 0)))) = some r := h
 clear h
 replace H := Option.bind_eq_some_iff.mp H
 obtain ⟨t329, A30, H⟩ := H
 replace H : (some (decide (t329 ≥ 0))) = some r := H
 have A3 := Aside0.mk A30
 clear A30
 obtain rfl := Option.some.inj H
 go_enter Try.func47, Try.ntmps47
 go_wp2_with (first | ((with_reducible refine gate_callee (f := 58) rfl ?_); refine goesL_ (some 7) rfl rfl Try.func58 sq2 rfl #[.slice A0 l0.length c0, .string a1] rfl sq50 ?_; (with_reducible refine (slices_Index_string_string.calls k _ _ l0 a1 t329 _ ?side1 ?side2 A3.out).mono ?_); (case side1 => repeat (first | exact HR0.out | (with_reducible refine Kd.C_alloc ?_ _) | (with_reducible refine Kd.C_drewN ?_ _) | (with_reducible refine Kd.C_drew ?_))); (case side2 => exact HC0.out); rintro e w' ⟨rfl, ⟨nd, rfl⟩⟩; refine ⟨_, rfl, ?_⟩))
 go_ret
 exact ⟨sq6, sq9⟩

/-! ### kind_uses: function 32 -/
def kind_uses.l0 : Nat → List ByteArray → List (S56) → Int → Int → Option (List ByteArray)
 | 0, _, _, _, _ => none
 | k + 1, x3, x6, x7, x8 => if x8 < x7 then (if 0 ≤ x8 then (if x8 < (x6.length : Int) then (if ((rd_T56 x6 x8).f0) = 5 then ((slices_Contains_string_string.f k x3 ((rd_T56 x6 x8).f2)).bind fun t332 => (if t332 = true then (kind_uses.l0 k x3 x6 x7 (wrap64 (x8 + 1))) else (if x3.length < 8796093022208 then (kind_uses.l0 k (x3 ++ [(rd_T56 x6 x8).f2]) x6 x7 (wrap64 (x8 + 1))) else (none)))) else (kind_uses.l0 k x3 x6 x7 (wrap64 (x8 + 1)))) else (none)) else (none)) else (some x3)
def kind_uses.f (k : Nat) (l0 : List (S56)) : Option (List ByteArray) := kind_uses.l0 k ([] : List ByteArray) l0 (l0.length : Int) 0
theorem kind_uses.mono_l : ∀ k, (∀ y0 y1 y2 y3, LeO (kind_uses.l0 k y0 y1 y2 y3) (kind_uses.l0 (k + 1) y0 y1 y2 y3))
 | 0 => fun _ _ _ _ r h => by simp [kind_uses.l0] at h
 | k + 1 => by
  have ih0 := kind_uses.mono_l k
  ·intro y0 y1 y2 y3
   unfold kind_uses.l0
   exact sq121
theorem kind_uses.mono : ∀ a0 k, LeO (kind_uses.f k a0) (kind_uses.f (k + 1) a0) := by
 intro a0 k
 have ih0 := kind_uses.mono_l k
 unfold kind_uses.f
 exact sq121
set_option maxHeartbeats 8000000 in
set_option maxRecDepth 100000 in
theorem kind_uses.calls (k : Nat) (A0 : Option Addr) (c0 : Nat) (l0 : List (S56)) (r : List ByteArray) (w : World) (hr0 : Kd.C k56 w A0 l0.length l0) (hc0 : l0.length ≤ c0) (h : kind_uses.f k l0 = some r) :
  Calls Try.prog 32 #[.slice A0 l0.length c0] w fun e w' => ∃ v0_ : Value, e = .returned (v0_) ∧ Kd.R Kd.string 9 w' w.heap.size (fun _ => True) v0_ r ∧ Below w.heap.size w w' := by
 have hu56 := Try.underlying56
 have HR0 := Aside0.mk hr0
 have HC0 := Aside0.mk hc0
 clear hr0 hc0
 have HB := Aside0.mk (Below.refl w.heap.size w)
 have H : (kind_uses.l0 k ([] : List ByteArray) l0 (l0.length : Int) 0) = some r := h
 clear h
 have H' := Aside0.mk H
 clear H
 go_enter Try.func32, Try.ntmps32
 go_wp2
 go_loopg [3, 8] k (fun kq v3 v8 w' => ∃ (x3_1 : List ByteArray) (x8_1 : Int), v8 = .int .i64 x8_1 ∧ Aside0 (kind_uses.l0 kq x3_1 l0 (l0.length : Int) x8_1 = some r) ∧ Aside0 (kq ≤ k) ∧ Aside0 (Kd.R Kd.string 9 w' w.heap.size (fun _ => True) v3 x3_1) ∧ Aside0 (Below w.heap.size w w'))
 case atStart => exact ⟨(([] : List ByteArray)), (0), sq6, H', ⟨Nat.le_refl _⟩, ⟨sq51⟩, ⟨sq49⟩⟩
 case round =>
  clear H'
  obtain ⟨x3_1, x8_1, rfl, HA, HK1, HO_3, HB⟩ := hrel
  cases gk with
  | zero => exact absurd HA.out (by simp [kind_uses.l0])
  | succ k1 =>
   have H := HA.out
   clear HA
   simp only [kind_uses.l0] at H
   by_cases c2 : x8_1 < (l0.length : Int)
   ·rw [if_pos c2] at H
    have c2b0 : decide (x8_1 < (l0.length : Int)) = true := decide_eq_true c2; clear c2
    by_cases c3 : 0 ≤ x8_1
    ·rw [if_pos c3] at H
     have c3b0 : decide (0 ≤ x8_1) = true := decide_eq_true c3; clear c3
     by_cases c4 : x8_1 < (l0.length : Int)
     ·rw [if_pos c4] at H
      have c4b0 : decide (x8_1 < (l0.length : Int)) = true := decide_eq_true c4; clear c4
      by_cases c5 : ((rd_T56 l0 x8_1).f0) = 5
      ·rw [if_pos c5] at H
       have c5b0 : (((rd_T56 l0 x8_1).f0) == 5) = true := beq_iff_eq.mpr c5
       have c5b1 : (((rd_T56 l0 x8_1).f0) != 5) = false := bne_eq_false_iff_eq.mpr c5
       clear c5
       replace H := Option.bind_eq_some_iff.mp H
       obtain ⟨t332, A60, H⟩ := H
       replace H : (if t332 = true then (kind_uses.l0 k1 x3_1 l0 (l0.length : Int) (wrap64 (x8_1 + 1))) else (if x3_1.length < 8796093022208 then (kind_uses.l0 k1 (x3_1 ++ [(rd_T56 l0 x8_1).f2]) l0 (l0.length : Int) (wrap64 (x8_1 + 1))) else (none))) = some r := H
       have A6 := Aside0.mk A60
       clear A60
       by_cases c7 : t332 = true
       ·subst c7
        replace H := (itT_ _ _).symm.trans H
        have H' := Aside0.mk H
        clear H
        have p330 : 0 ≤ (x8_1 : Int) := of_decide_eq_true sq7
        have q330 : x8_1 < (l0.length : Int) := of_decide_eq_true sq7
        obtain ⟨ad330, e330, hx330_0, hx330_1, hx330_2⟩ := at_T56 HR0.out x8_1 p330 q330
        cases e330
        try replace hx330_0 := (HB.out.cell (World.block_lt_of_cell? w _ hx330_0)).trans hx330_0
        try replace hx330_1 := (HB.out.cell (World.block_lt_of_cell? w _ hx330_1)).trans hx330_1
        try replace hx330_2 := (HB.out.cell (World.block_lt_of_cell? w _ hx330_2)).trans hx330_2
        replace p330 := eq_true p330
        replace q330 := eq_true q330
        go_wp2_with (first | ((with_reducible refine gate_dst (N := 5) rfl ?_); refine box_event ?hg (N := 5) ?hd (cs := #[.int .i64 0, .int .i64 0, .string (⟨#[]⟩ : ByteArray)]) (t := 56) ?hr ?_; (case hd => rfl); (case hg => rfl); (case hr => first | (go_simp; done) | (go_simp; rfl)); intro gb331 hg w8 hbox hb; have n0_ := Aside0.mk (Kd.R_below sq17 hb); have n1_ := Aside0.mk (below_step sq49 hb); have n2_ := Aside0.mk (hbox); have n3_ := Aside0.mk ((by rw [hg]; exact (below_size sq49) : w.heap.size ≤ gb331)); have n4_ := Aside0.mk ((by rw [hg]; exact (below_size sq49) : w.heap.size ≤ gb331)); clear HO_3; clear HB; have HO_3 := n0_; have HB := n1_; have BK331 := n2_; have GW331 := n3_; have GE331 := n4_; clear n0_ n1_ n2_ n3_ n4_; clear hb hbox hg; have hcz9_0 : w8.cell? ⟨gb331, 0, none⟩ = some (.int .i64 0) := (blk_cell BK331.out 0).trans rfl; have hcz9_1 : w8.cell? ⟨gb331, 1, none⟩ = some (.int .i64 0) := (blk_cell BK331.out 1).trans rfl; have hcz9_2 : w8.cell? ⟨gb331, 2, none⟩ = some (.string (⟨#[]⟩ : ByteArray)) := (blk_cell BK331.out 2).trans rfl; have hfz9_0 := blk_frozen BK331.out 0; have hfz9_1 := blk_frozen BK331.out 1; have hfz9_2 := blk_frozen BK331.out 2; obtain ⟨Ao10, co10, eo10⟩ := Kd.R_slice HO_3.out; subst eo10) | (go_at_call 47; (with_reducible refine (slices_Contains_string_string.calls k1 _ _ x3_1 ((rd_T56 l0 x8_1).f2) true _ ?side1 ?side2 A6.out).mono ?_); (case side1 => refine (Kd.R_reads' (e := 9) (base := w.heap.size) (ok := fun k_ => True) (n := x3_1.length) (c := co10) ?_).2.2; exact sq122); (case side2 => exact (Kd.R_reads' HO_3.out).2.1); rintro e w' ⟨rfl, ⟨nd, rfl⟩⟩))
        go_roundg k1
        case measure => have := HK1.out; omega
        case rel => exact ⟨(x3_1), (wrap64 (x8_1 + 1)), sq6, H', ⟨sq3⟩, ⟨sq125⟩, ⟨sq72⟩⟩
       replace c7 := Bool.eq_false_iff.mpr c7
       subst c7
       replace H := (itF_ _ _).symm.trans H
       by_cases c11 : x3_1.length < 8796093022208
       ·rw [if_pos c11] at H
        have LMc11 := Aside0.mk c11
        clear c11
        obtain ⟨y333, hy333⟩ : ∃ y_ : List ByteArray, y_ = (x3_1 ++ [(rd_T56 l0 x8_1).f2]) := ⟨_, rfl⟩
        replace H : (kind_uses.l0 k1 y333 l0 (l0.length : Int) (wrap64 (x8_1 + 1))) = some r := by first | (rw [hy333]; with_reducible exact H) | (have H2_ := (Option.bind_some _ _).symm.trans H; rw [hy333]; with_reducible exact H2_) | (have H2_ := (Option.bind_some _ _).symm.trans H; with_reducible exact H2_) | with_reducible exact H | (rw [hy333]; exact H) | exact H
        have Ny333 := Aside0.mk hy333
        clear hy333
        have H' := Aside0.mk H
        clear H
        have p330 : 0 ≤ (x8_1 : Int) := of_decide_eq_true sq7
        have q330 : x8_1 < (l0.length : Int) := of_decide_eq_true sq7
        obtain ⟨ad330, e330, hx330_0, hx330_1, hx330_2⟩ := at_T56 HR0.out x8_1 p330 q330
        cases e330
        try replace hx330_0 := (HB.out.cell (World.block_lt_of_cell? w _ hx330_0)).trans hx330_0
        try replace hx330_1 := (HB.out.cell (World.block_lt_of_cell? w _ hx330_1)).trans hx330_1
        try replace hx330_2 := (HB.out.cell (World.block_lt_of_cell? w _ hx330_2)).trans hx330_2
        replace p330 := eq_true p330
        replace q330 := eq_true q330
        go_wp2_with (first | ((with_reducible refine gate_dst (N := 5) rfl ?_); refine box_event ?hg (N := 5) ?hd (cs := #[.int .i64 0, .int .i64 0, .string (⟨#[]⟩ : ByteArray)]) (t := 56) ?hr ?_; (case hd => rfl); (case hg => rfl); (case hr => first | (go_simp; done) | (go_simp; rfl)); intro gb331 hg w12 hbox hb; have n0_ := Aside0.mk (Kd.R_below sq17 hb); have n1_ := Aside0.mk (below_step sq49 hb); have n2_ := Aside0.mk (hbox); have n3_ := Aside0.mk ((by rw [hg]; exact (below_size sq49) : w.heap.size ≤ gb331)); have n4_ := Aside0.mk ((by rw [hg]; exact (below_size sq49) : w.heap.size ≤ gb331)); clear HO_3; clear HB; have HO_3 := n0_; have HB := n1_; have BK331 := n2_; have GW331 := n3_; have GE331 := n4_; clear n0_ n1_ n2_ n3_ n4_; clear hb hbox hg; have hcz13_0 : w12.cell? ⟨gb331, 0, none⟩ = some (.int .i64 0) := (blk_cell BK331.out 0).trans rfl; have hcz13_1 : w12.cell? ⟨gb331, 1, none⟩ = some (.int .i64 0) := (blk_cell BK331.out 1).trans rfl; have hcz13_2 : w12.cell? ⟨gb331, 2, none⟩ = some (.string (⟨#[]⟩ : ByteArray)) := (blk_cell BK331.out 2).trans rfl; have hfz13_0 := blk_frozen BK331.out 0; have hfz13_1 := blk_frozen BK331.out 1; have hfz13_2 := blk_frozen BK331.out 2; obtain ⟨Ao14, co14, eo14⟩ := Kd.R_slice HO_3.out; subst eo14) | (go_at_call 47; (with_reducible refine (slices_Contains_string_string.calls k1 _ _ x3_1 ((rd_T56 l0 x8_1).f2) false _ ?side1 ?side2 A6.out).mono ?_); (case side1 => refine (Kd.R_reads' (e := 9) (base := w.heap.size) (ok := fun k_ => True) (n := x3_1.length) (c := co14) ?_).2.2; exact sq122); (case side2 => exact (Kd.R_reads' HO_3.out).2.1); rintro e w' ⟨rfl, ⟨nd, rfl⟩⟩) | ((with_reducible refine gate_builtin (b := .append) (xs := #[.tmp 22, .tmp 25]) rfl ?_); at_builtin; refine Kd.R_append Kd.string (w0 := w) w.heap.size rfl (.tmp 22) (.tmp 25) 42 9 (.string ⟨#[]⟩) 16 rfl Try.underlying42 info9 rfl sq1 sq0 (.slice Ao14 x3_1.length co14) x3_1 ((rd_T56 l0 x8_1).f2) [.string ((rd_T56 l0 x8_1).f2)] (fun _ => True) (fun _ => False) rfl (by first | (go_simp; done) | (go_simp; rfl)) ?aP (fun _ hk => hk.elim) ?aF ?aO ?aB ?aS ?aL ?_; (case aP => exact rfl); (case aB => exact sq72); (case aF => exact (fun _ _ => trivial)); (case aO => exact sq125); (case aS => exact (below_size sq72)); (case aL => have := LMc11.out; omega); intro v334 w15 ho hb hg hat; rw [← Ny333.out] at ho; have n0_ := Aside0.mk (blk_grown (g := gb331) (o := .cells #[.int .i64 ((rd_T56 l0 x8_1).f0), .int .i64 ((rd_T56 l0 x8_1).f1), .string ((rd_T56 l0 x8_1).f2)] 56 (0, 0)) (by (with_reducible repeat (first | refine blk_drewN ?_ _ | refine blk_drew ?_ | refine blk_alloc ?_ _)); refine blk_put (cs := #[.int .i64 ((rd_T56 l0 x8_1).f0), .int .i64 ((rd_T56 l0 x8_1).f1), .string (⟨#[]⟩ : ByteArray)]) ?_ 2 _ rfl; (with_reducible repeat (first | refine blk_drewN ?_ _ | refine blk_drew ?_ | refine blk_alloc ?_ _)); refine blk_put (cs := #[.int .i64 ((rd_T56 l0 x8_1).f0), .int .i64 0, .string (⟨#[]⟩ : ByteArray)]) ?_ 1 _ rfl; (with_reducible repeat (first | refine blk_drewN ?_ _ | refine blk_drew ?_ | refine blk_alloc ?_ _)); refine blk_put (cs := #[.int .i64 0, .int .i64 0, .string (⟨#[]⟩ : ByteArray)]) ?_ 0 _ rfl; (with_reducible repeat (first | refine blk_drewN ?_ _ | refine blk_drew ?_ | refine blk_alloc ?_ _)); exact BK331.out) hg (Kd.R_ne HO_3.out BK331.out sq1)); have n1_ := Aside0.mk (hb); have n2_ := Aside0.mk (ho); clear BK331; clear HB; clear HO_3; have BK331 := n0_; have HB := n1_; have HO335 := n2_; clear n0_ n1_ n2_; clear ho hb hg hat))
        go_roundg k1
        case measure => have := HK1.out; omega
        case rel => exact ⟨(y333), (wrap64 (x8_1 + 1)), sq6, H', ⟨sq3⟩, ⟨by (with_reducible repeat (first | apply Kd.R_alloc | apply Kd.R_drewN | apply Kd.R_drew)); exact HO335.out⟩, ⟨sq72⟩⟩
       rw [if_neg c11] at H
       exact absurd H (by simp)
      rw [if_neg c5] at H
      have c5b0 : (((rd_T56 l0 x8_1).f0) == 5) = false := beq_eq_false_iff_ne.mpr c5
      have c5b1 : (((rd_T56 l0 x8_1).f0) != 5) = true := bne_iff_ne.mpr c5
      have H' := Aside0.mk H
      clear H
      have p330 : 0 ≤ (x8_1 : Int) := of_decide_eq_true sq7
      have q330 : x8_1 < (l0.length : Int) := of_decide_eq_true sq7
      obtain ⟨ad330, e330, hx330_0, hx330_1, hx330_2⟩ := at_T56 HR0.out x8_1 p330 q330
      cases e330
      try replace hx330_0 := (HB.out.cell (World.block_lt_of_cell? w _ hx330_0)).trans hx330_0
      try replace hx330_1 := (HB.out.cell (World.block_lt_of_cell? w _ hx330_1)).trans hx330_1
      try replace hx330_2 := (HB.out.cell (World.block_lt_of_cell? w _ hx330_2)).trans hx330_2
      replace p330 := eq_true p330
      replace q330 := eq_true q330
      go_wp2_with (first | ((with_reducible refine gate_dst (N := 5) rfl ?_); refine box_event ?hg (N := 5) ?hd (cs := #[.int .i64 0, .int .i64 0, .string (⟨#[]⟩ : ByteArray)]) (t := 56) ?hr ?_; (case hd => rfl); (case hg => rfl); (case hr => first | (go_simp; done) | (go_simp; rfl)); intro gb331 hg w16 hbox hb; have n0_ := Aside0.mk (Kd.R_below sq17 hb); have n1_ := Aside0.mk (below_step sq49 hb); have n2_ := Aside0.mk (hbox); have n3_ := Aside0.mk ((by rw [hg]; exact (below_size sq49) : w.heap.size ≤ gb331)); have n4_ := Aside0.mk ((by rw [hg]; exact (below_size sq49) : w.heap.size ≤ gb331)); clear HO_3; clear HB; have HO_3 := n0_; have HB := n1_; have BK331 := n2_; have GW331 := n3_; have GE331 := n4_; clear n0_ n1_ n2_ n3_ n4_; clear hb hbox hg; have hcz17_0 : w16.cell? ⟨gb331, 0, none⟩ = some (.int .i64 0) := (blk_cell BK331.out 0).trans rfl; have hcz17_1 : w16.cell? ⟨gb331, 1, none⟩ = some (.int .i64 0) := (blk_cell BK331.out 1).trans rfl; have hcz17_2 : w16.cell? ⟨gb331, 2, none⟩ = some (.string (⟨#[]⟩ : ByteArray)) := (blk_cell BK331.out 2).trans rfl; have hfz17_0 := blk_frozen BK331.out 0; have hfz17_1 := blk_frozen BK331.out 1; have hfz17_2 := blk_frozen BK331.out 2))
      go_roundg k1
      case measure => have := HK1.out; omega
      case rel => exact ⟨(x3_1), (wrap64 (x8_1 + 1)), sq6, H', ⟨sq3⟩, ⟨sq125⟩, ⟨sq72⟩⟩
     rw [if_neg c4] at H
     exact absurd H (by simp)
    rw [if_neg c3] at H
    exact absurd H (by simp)
   rw [if_neg c2] at H
   have c2b0 : decide (x8_1 < (l0.length : Int)) = false := decide_eq_false c2; clear c2
   obtain rfl := Option.some.inj H
   go_wp2
   go_ret
   exact ⟨_, sq13, sq17, sq49⟩

/-! ### kind_Uses: function 16 -/
def kind_Uses.f (k : Nat) (l0 : List (S56)) : Option (List ByteArray × Int) := (clause_CheckFormula.f k l0).bind fun t336 => (if t336 = 0 then ((kind_uses.f k l0).bind fun t337 => (some (t337, 0))) else (some (([] : List ByteArray), t336)))
theorem kind_Uses.mono : ∀ a0 k, LeO (kind_Uses.f k a0) (kind_Uses.f (k + 1) a0) := by
 intro a0 k
 unfold kind_Uses.f
 exact (by repeat' first | (with_reducible exact clause_CheckFormula.mono _ _) | (with_reducible exact kind_uses.mono _ _) | (with_reducible exact LeO.refl _) | (with_reducible exact LeO.none _) | (with_reducible refine LeO.ite ?_ ?_) | (with_reducible refine LeO.bind ?_ (fun _ => ?_)) | exact clause_CheckFormula.mono _ _ | exact kind_uses.mono _ _ | exact LeO.none _ | refine LeO.ite ?_ ?_ | refine LeO.bind ?_ (fun _ => ?_))
set_option maxHeartbeats 8000000 in
set_option maxRecDepth 100000 in
theorem kind_Uses.calls (k : Nat) (A0 : Option Addr) (c0 : Nat) (l0 : List (S56)) (r1 : List ByteArray) (r2 : Int) (w : World) (hG : Glob w) (hr0 : Kd.C k56 w A0 l0.length l0) (hc0 : l0.length ≤ c0) (h : kind_Uses.f k l0 = some (r1, r2)) :
  Calls Try.prog 16 #[.slice A0 l0.length c0] w fun e w' => ∃ v0_ : Value, e = .returned (.tuple #[v0_, .int .i64 r2]) ∧ Kd.R Kd.string 9 w' w.heap.size (fun _ => True) v0_ r1 ∧ Below w.heap.size w w' := by
 have HR0 := Aside0.mk hr0
 have HC0 := Aside0.mk hc0
 clear hr0 hc0
 have HB := Aside0.mk (Below.refl w.heap.size w)
 have HG := Aside0.mk hG
 clear hG
 have H : ((clause_CheckFormula.f k l0).bind fun t336 => (if t336 = 0 then ((kind_uses.f k l0).bind fun t337 => (some (t337, 0))) else (some (([] : List ByteArray), t336)))) = some (r1, r2) := h
 clear h
 replace H := Option.bind_eq_some_iff.mp H
 obtain ⟨t336, A20, H⟩ := H
 replace H : (if t336 = 0 then ((kind_uses.f k l0).bind fun t337 => (some (t337, 0))) else (some (([] : List ByteArray), t336))) = some (r1, r2) := H
 have A2 := Aside0.mk A20
 clear A20
 by_cases c3 : t336 = 0
 ·rw [if_pos c3] at H
  have c3b0 : (t336 == 0) = true := beq_iff_eq.mpr c3
  have c3b1 : (t336 != 0) = false := bne_eq_false_iff_eq.mpr c3
  clear c3
  replace H := Option.bind_eq_some_iff.mp H
  obtain ⟨t337, A40, H⟩ := H
  replace H : (some (t337, 0)) = some (r1, r2) := H
  have A4 := Aside0.mk A40
  clear A40
  simp only [Option.some.injEq, Prod.mk.injEq] at H
  obtain ⟨rfl, rfl⟩ := H
  go_enter Try.func16, Try.ntmps16
  go_wp2_with (first | ((with_reducible refine gate_callee (f := 31) rfl ?_); refine goesL_ (some 6) rfl rfl Try.func31 sq2 rfl #[.slice A0 l0.length c0] rfl sq50 ?_; (with_reducible refine (clause_CheckFormula.calls k (fun k_ => k_ < w.heap.size) _ _ l0 t336 _ ?side2 ?side1 A2.out).mono ?_); (case side1 => exact Kd.V_mk HC0.out (Kd.F_below (Kd.C_F k56_heap HR0.out) sq49)); (case side2 => exact Glob.below HG.out sq49); rintro e w5 ⟨rfl, hb⟩; refine ⟨_, rfl, ?_⟩; have n0_ := Aside0.mk (below_step sq49 hb); clear HB; have HB := n0_; clear n0_; (try clear hb); (try clear hb2); (try clear hk); (try clear hi)) | ((with_reducible refine gate_callee (f := 32) rfl ?_); refine goesL_ (some 11) rfl rfl Try.func32 sq2 rfl #[.slice A0 l0.length c0] rfl sq50 ?_; (with_reducible refine (kind_uses.calls k _ _ l0 t337 _ ?side1 ?side2 A4.out).mono ?_); (case side1 => repeat (first | exact (Kd.C_below HR0.out HB.out) | (with_reducible refine Kd.C_alloc ?_ _) | (with_reducible refine Kd.C_drewN ?_ _) | (with_reducible refine Kd.C_drew ?_))); (case side2 => exact HC0.out); rintro e w6 ⟨v338, rfl, ho0, hb⟩; refine ⟨_, rfl, ?_⟩; have n0_ := Aside0.mk (Kd.R_lower ho0 (below_size sq49)); have n1_ := Aside0.mk (below_step sq49 hb); clear HB; have HO339 := n0_; have HB := n1_; clear n0_ n1_; (try clear hb); (try clear hb2); (try clear hk); (try clear hi); (try clear ho0)))
  go_ret2
  exact ⟨_, sq13, by (with_reducible repeat (first | apply Kd.R_alloc | apply Kd.R_drewN | apply Kd.R_drew)); exact HO339.out, sq49⟩
 rw [if_neg c3] at H
 have c3b0 : (t336 == 0) = false := beq_eq_false_iff_ne.mpr c3
 have c3b1 : (t336 != 0) = true := bne_iff_ne.mpr c3
 simp only [Option.some.injEq, Prod.mk.injEq] at H
 obtain ⟨rfl, rfl⟩ := H
 go_enter Try.func16, Try.ntmps16
 go_wp2_with (first | ((with_reducible refine gate_callee (f := 31) rfl ?_); refine goesL_ (some 6) rfl rfl Try.func31 sq2 rfl #[.slice A0 l0.length c0] rfl sq50 ?_; (with_reducible refine (clause_CheckFormula.calls k (fun k_ => k_ < w.heap.size) _ _ l0 t336 _ ?side2 ?side1 A2.out).mono ?_); (case side1 => exact Kd.V_mk HC0.out (Kd.F_below (Kd.C_F k56_heap HR0.out) sq49)); (case side2 => exact Glob.below HG.out sq49); rintro e w7 ⟨rfl, hb⟩; refine ⟨_, rfl, ?_⟩; have n0_ := Aside0.mk (below_step sq49 hb); clear HB; have HB := n0_; clear n0_; (try clear hb); (try clear hb2); (try clear hk); (try clear hi)))
 go_ret2
 exact ⟨_, sq13, sq51, sq49⟩

/-! ### tontineref18_uses: function 34 -/
def tontineref18_uses.l0 : Nat → List (S56) → ByteArray → Int → Option (Bool)
 | 0, _, _, _ => none
 | k + 1, x0, x1, x5 => if x5 < (x0.length : Int) then (if 0 ≤ x5 then (if ((rd_T56 x0 x5).f0) = 5 then (if ((rd_T56 x0 x5).f2).toList = x1.toList then (some true) else (tontineref18_uses.l0 k x0 x1 (wrap64 (x5 + 1)))) else (tontineref18_uses.l0 k x0 x1 (wrap64 (x5 + 1)))) else (none)) else (some false)
def tontineref18_uses.f (k : Nat) (l0 : List (S56)) (a1 : ByteArray) : Option (Bool) := tontineref18_uses.l0 k l0 a1 0
theorem tontineref18_uses.mono_l : ∀ k, (∀ y0 y1 y2, LeO (tontineref18_uses.l0 k y0 y1 y2) (tontineref18_uses.l0 (k + 1) y0 y1 y2))
 | 0 => fun _ _ _ r h => by simp [tontineref18_uses.l0] at h
 | k + 1 => by
  have ih0 := tontineref18_uses.mono_l k
  ·intro y0 y1 y2
   unfold tontineref18_uses.l0
   exact sq95
theorem tontineref18_uses.mono : ∀ a0 a1 k, LeO (tontineref18_uses.f k a0 a1) (tontineref18_uses.f (k + 1) a0 a1) := by
 intro a0 a1 k
 have ih0 := tontineref18_uses.mono_l k
 unfold tontineref18_uses.f
 exact sq95
set_option maxHeartbeats 8000000 in
set_option maxRecDepth 100000 in
theorem tontineref18_uses.calls (k : Nat) (A0 : Option Addr) (c0 : Nat) (l0 : List (S56)) (a1 : ByteArray) (r : Bool) (w : World) (hr0 : Kd.C k56 w A0 l0.length l0) (hc0 : l0.length ≤ c0) (h : tontineref18_uses.f k l0 a1 = some r) :
  Calls Try.prog 34 #[.slice A0 l0.length c0, .string a1] w fun e w' => e = .returned (.bool r) ∧ Drawn0 w w' := by
 have HR0 := Aside0.mk hr0
 have HC0 := Aside0.mk hc0
 clear hr0 hc0
 have H : (tontineref18_uses.l0 k l0 a1 0) = some r := h
 clear h
 have H' := Aside0.mk H
 clear H
 go_enter Try.func34, Try.ntmps34
 go_wp2
 go_loopg [5] k (fun kq v5 w' => ∃ (x5_1 : Int), v5 = .int .i64 x5_1 ∧ Aside0 (tontineref18_uses.l0 kq l0 a1 x5_1 = some r) ∧ Aside0 (kq ≤ k) ∧ Drawn0 w w')
 case atStart => exact ⟨(0), sq6, H', ⟨Nat.le_refl _⟩, sq9⟩
 case round =>
  clear H'
  try clear p2
  obtain ⟨x5_1, rfl, HA, HK1, ⟨m1, rfl⟩⟩ := hrel
  cases gk with
  | zero => exact absurd HA.out (by simp [tontineref18_uses.l0])
  | succ k1 =>
   have H := HA.out
   clear HA
   simp only [tontineref18_uses.l0] at H
   by_cases c3 : x5_1 < (l0.length : Int)
   ·rw [if_pos c3] at H
    have c3b0 : decide (x5_1 < (l0.length : Int)) = true := decide_eq_true c3; clear c3
    by_cases c4 : 0 ≤ x5_1
    ·rw [if_pos c4] at H
     have c4b0 : decide (0 ≤ x5_1) = true := decide_eq_true c4; clear c4
     by_cases c5 : ((rd_T56 l0 x5_1).f0) = 5
     ·rw [if_pos c5] at H
      have c5b0 : (((rd_T56 l0 x5_1).f0) == 5) = true := beq_iff_eq.mpr c5
      have c5b1 : (((rd_T56 l0 x5_1).f0) != 5) = false := bne_eq_false_iff_eq.mpr c5
      clear c5
      by_cases c6 : ((rd_T56 l0 x5_1).f2).toList = a1.toList
      ·rw [if_pos c6] at H
       have c6b0 : (((rd_T56 l0 x5_1).f2).toList == a1.toList) = true := beq_iff_eq.mpr c6
       have c6b1 : (((rd_T56 l0 x5_1).f2).toList != a1.toList) = false := bne_eq_false_iff_eq.mpr c6
       clear c6
       obtain rfl := Option.some.inj H
       have p340 : 0 ≤ (x5_1 : Int) := of_decide_eq_true sq7
       have q340 : x5_1 < (l0.length : Int) := of_decide_eq_true sq7
       obtain ⟨ad340, e340, hx340_0, hx340_1, hx340_2⟩ := at_T56 HR0.out x5_1 p340 q340
       cases e340
       replace p340 := eq_true p340
       replace q340 := eq_true q340
       have p341 : 0 ≤ (x5_1 : Int) := of_decide_eq_true sq7
       have q341 : x5_1 < (l0.length : Int) := of_decide_eq_true sq7
       obtain ⟨ad341, e341, hx341_0, hx341_1, hx341_2⟩ := at_T56 HR0.out x5_1 p341 q341
       obtain rfl : ad340 = ad341 := (by injection e341)
       replace p341 := eq_true p341
       replace q341 := eq_true q341
       go_wp2
       go_ret
       exact ⟨sq6, sq9⟩
      rw [if_neg c6] at H
      have c6b0 : (((rd_T56 l0 x5_1).f2).toList == a1.toList) = false := beq_eq_false_iff_ne.mpr c6
      have c6b1 : (((rd_T56 l0 x5_1).f2).toList != a1.toList) = true := bne_iff_ne.mpr c6
      have H' := Aside0.mk H
      clear H
      have p340 : 0 ≤ (x5_1 : Int) := of_decide_eq_true sq7
      have q340 : x5_1 < (l0.length : Int) := of_decide_eq_true sq7
      obtain ⟨ad340, e340, hx340_0, hx340_1, hx340_2⟩ := at_T56 HR0.out x5_1 p340 q340
      cases e340
      replace p340 := eq_true p340
      replace q340 := eq_true q340
      have p341 : 0 ≤ (x5_1 : Int) := of_decide_eq_true sq7
      have q341 : x5_1 < (l0.length : Int) := of_decide_eq_true sq7
      obtain ⟨ad341, e341, hx341_0, hx341_1, hx341_2⟩ := at_T56 HR0.out x5_1 p341 q341
      obtain rfl : ad340 = ad341 := (by injection e341)
      replace p341 := eq_true p341
      replace q341 := eq_true q341
      go_wp2
      go_roundg k1
      case measure => have := HK1.out; omega
      case rel => exact ⟨(wrap64 (x5_1 + 1)), sq6, H', ⟨sq3⟩, sq9⟩
     rw [if_neg c5] at H
     have c5b0 : (((rd_T56 l0 x5_1).f0) == 5) = false := beq_eq_false_iff_ne.mpr c5
     have c5b1 : (((rd_T56 l0 x5_1).f0) != 5) = true := bne_iff_ne.mpr c5
     have H' := Aside0.mk H
     clear H
     have p340 : 0 ≤ (x5_1 : Int) := of_decide_eq_true sq7
     have q340 : x5_1 < (l0.length : Int) := of_decide_eq_true sq7
     obtain ⟨ad340, e340, hx340_0, hx340_1, hx340_2⟩ := at_T56 HR0.out x5_1 p340 q340
     cases e340
     replace p340 := eq_true p340
     replace q340 := eq_true q340
     go_wp2
     go_roundg k1
     case measure => have := HK1.out; omega
     case rel => exact ⟨(wrap64 (x5_1 + 1)), sq6, H', ⟨sq3⟩, sq9⟩
    rw [if_neg c4] at H
    exact absurd H (by simp)
   rw [if_neg c3] at H
   have c3b0 : decide (x5_1 < (l0.length : Int)) = false := decide_eq_false c3; clear c3
   obtain rfl := Option.some.inj H
   go_wp2
   go_ret
   exact ⟨sq6, sq9⟩

end Go.Proofs.Ytpfnnamicbbobaa.PAll
