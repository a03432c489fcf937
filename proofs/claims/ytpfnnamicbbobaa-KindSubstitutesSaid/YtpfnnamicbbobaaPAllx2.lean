-- Written by a program of this session (wip/tools/print2.sh): functions as plain Lean, and that the machine's calls do what they say.
import Derived.Test.YtpfnnamicbbobaaPAllx0
namespace Go.Proofs.Ytpfnnamicbbobaa.PAll
open Go.RowKit Go.Proofs.YtpfnnamicbbobaaW.PrintWords Go.Proofs.YtpfnnamicbbobaaW.PrintLast Go.Proofs.YtpfnnamicbbobaaW.PrintMore
attribute [local go_sem] max2_int min2_int max_two min_two max_three min_three max_four min_four   -- for this text's walks alone
set_option linter.unusedVariables false
set_option linter.unusedSimpArgs false

/-! ### kind_when: function 52 -/
def kind_when.f (a0 : Bool) (a1 : Int) : Option (Int) := if a0 = true then (some a1) else (some 0)
set_option maxHeartbeats 8000000 in
set_option maxRecDepth 100000 in
theorem kind_when.calls (a0 : Bool) (a1 : Int) (r : Int) (w : World) (h : kind_when.f a0 a1 = some r) :
  Calls Try.prog 52 #[.bool a0, .int .i64 a1] w fun e w' => e = .returned (.int .i64 r) ∧ Drawn0 w w' := by
 have H : (if a0 = true then (some a1) else (some 0)) = some r := h
 clear h
 by_cases c3 : a0 = true
 ·subst c3
  replace H := (itT_ _ _).symm.trans H
  obtain rfl := Option.some.inj H
  go_enter Try.func52, Try.ntmps52
  go_wp2
  go_ret
  exact ⟨sq5, sq7⟩
 replace c3 := Bool.eq_false_iff.mpr c3
 subst c3
 replace H := (itF_ _ _).symm.trans H
 obtain rfl := Option.some.inj H
 go_enter Try.func52, Try.ntmps52
 go_wp2
 go_ret
 exact ⟨sq5, sq7⟩

/-! ### kind_plain: function 65 -/
def kind_plain.f (a0 : Int) : Option (Bool) := if a0 = 1 then (some true) else (some (a0 == 2))
set_option maxHeartbeats 8000000 in
set_option maxRecDepth 100000 in
theorem kind_plain.calls (a0 : Int) (r : Bool) (w : World) (h : kind_plain.f a0 = some r) :
  Calls Try.prog 65 #[.int .i64 a0] w fun e w' => e = .returned (.bool r) ∧ Drawn0 w w' := by
 have H : (if a0 = 1 then (some true) else (some (a0 == 2))) = some r := h
 clear h
 by_cases c2 : a0 = 1
 ·rw [if_pos c2] at H
  have c2b0 : (a0 == 1) = true := beq_iff_eq.mpr c2
  have c2b1 : (a0 != 1) = false := bne_eq_false_iff_eq.mpr c2
  clear c2
  obtain rfl := Option.some.inj H
  go_enter Try.func65, Try.ntmps65
  go_wp2
  go_ret
  exact ⟨sq5, sq7⟩
 rw [if_neg c2] at H
 have c2b0 : (a0 == 1) = false := beq_eq_false_iff_ne.mpr c2
 have c2b1 : (a0 != 1) = true := bne_iff_ne.mpr c2
 obtain rfl := Option.some.inj H
 go_enter Try.func65, Try.ntmps65
 go_wp2
 go_ret
 exact ⟨sq5, sq7⟩

/-! ### kind_product: function 53 -/
def kind_product.j0 : Nat → Int → Int → Bool → Option (Int)
 | 0, _, _, _ => none
 | k + 1, x0, x1, x5 => if x5 = true then (some 1) else ((kind_plain.f x0).bind fun t101 => (if t101 = true then ((kind_plain.f x1).bind fun t102 => (if t102 = true then (if x0 = x1 then (some 0) else (some 2)) else (some 0))) else (some 0)))
def kind_product.f (k : Nat) (a0 : Int) (a1 : Int) : Option (Int) := if a0 = 1 then (kind_product.j0 k a0 a1 (a1 == 1)) else (kind_product.j0 k a0 a1 false)
theorem kind_product.mono_l : ∀ k, (∀ y0 y1 y2, LeO (kind_product.j0 k y0 y1 y2) (kind_product.j0 (k + 1) y0 y1 y2))
 | 0 => fun _ _ _ r h => by simp [kind_product.j0] at h
 | k + 1 => by
  have ih0 := kind_product.mono_l k
  ·intro y0 y1 y2
   unfold kind_product.j0
   exact sq92
theorem kind_product.mono : ∀ a0 a1 k, LeO (kind_product.f k a0 a1) (kind_product.f (k + 1) a0 a1) := by
 intro a0 a1 k
 have ih0 := kind_product.mono_l k
 unfold kind_product.f
 exact sq92
set_option maxHeartbeats 8000000 in
set_option maxRecDepth 100000 in
theorem kind_product.calls (k : Nat) (a0 : Int) (a1 : Int) (r : Int) (w : World) (h : kind_product.f k a0 a1 = some r) :
  Calls Try.prog 53 #[.int .i64 a0, .int .i64 a1] w fun e w' => e = .returned (.int .i64 r) ∧ Drawn0 w w' := by
 have H : (if a0 = 1 then (kind_product.j0 k a0 a1 (a1 == 1)) else (kind_product.j0 k a0 a1 false)) = some r := h
 clear h
 have HC3 := Aside0.mk H
 clear H
 go_enter Try.func53, Try.ntmps53
 go_upto_region 1 with (fail)
 go_cut [5] (fun v5 wc => ∃ (kq : Nat) (x5_2 : Bool), v5 = .bool x5_2 ∧ Aside0 (kind_product.j0 kq a0 a1 x5_2 = some r) ∧ Aside0 (kq ≤ k) ∧ Drawn0 w wc)
 case first =>
  have H := HC3.out
  clear HC3
  by_cases c4 : a0 = 1
  ·rw [if_pos c4] at H
   have c4b0 : (a0 == 1) = true := beq_iff_eq.mpr c4
   have c4b1 : (a0 != 1) = false := bne_eq_false_iff_eq.mpr c4
   clear c4
   (first | rw [c4b0] | (simp only [i64_w, i32_w]; rw [c4b0]) | skip)
   have H' := Aside0.mk H
   clear H
   go_wp2
   go_meet
   case rel => exact ⟨_, ((a1 == 1)), sq5, H', ⟨sq3⟩, sq7⟩
  rw [if_neg c4] at H
  have c4b0 : (a0 == 1) = false := beq_eq_false_iff_ne.mpr c4
  have c4b1 : (a0 != 1) = true := bne_iff_ne.mpr c4
  (first | rw [c4b0] | (simp only [i64_w, i32_w]; rw [c4b0]) | skip)
  have H' := Aside0.mk H
  clear H
  go_wp2
  go_meet
  case rel => exact ⟨_, (false), sq5, H', ⟨sq3⟩, sq7⟩
 case rest =>
  clear HC3; try clear p2; try clear c4; try clear c4b0; try clear c4b1
  obtain ⟨kq, x5_2, rfl, HA, HJ2, ⟨mc2, rfl⟩⟩ := hcut
  cases kq with
  | zero => exact absurd HA.out (by simp [kind_product.j0])
  | succ kj2 =>
   have H := HA.out
   clear HA
   simp only [kind_product.j0] at H
   by_cases c5 : x5_2 = true
   ·subst c5
    replace H := (itT_ _ _).symm.trans H
    obtain rfl := Option.some.inj H
    go_wp2
    go_ret
    exact ⟨sq5, sq7⟩
   replace c5 := Bool.eq_false_iff.mpr c5
   subst c5
   replace H := (itF_ _ _).symm.trans H
   replace H := Option.bind_eq_some_iff.mp H
   obtain ⟨t101, A60, H⟩ := H
   replace H : (if t101 = true then ((kind_plain.f a1).bind fun t102 => (if t102 = true then (if a0 = a1 then (some 0) else (some 2)) else (some 0))) else (some 0)) = some r := H
   have A6 := Aside0.mk A60
   clear A60
   by_cases c7 : t101 = true
   ·subst c7
    replace H := (itT_ _ _).symm.trans H
    replace H := Option.bind_eq_some_iff.mp H
    obtain ⟨t102, A80, H⟩ := H
    replace H : (if t102 = true then (if a0 = a1 then (some 0) else (some 2)) else (some 0)) = some r := H
    have A8 := Aside0.mk A80
    clear A80
    by_cases c9 : t102 = true
    ·subst c9
     replace H := (itT_ _ _).symm.trans H
     by_cases c10 : a0 = a1
     ·rw [if_pos c10] at H
      have c10b0 : (a0 == a1) = true := beq_iff_eq.mpr c10
      have c10b1 : (a0 != a1) = false := bne_eq_false_iff_eq.mpr c10
      clear c10
      obtain rfl := Option.some.inj H
      go_wp2_with (first | ((with_reducible refine gate_callee (f := 65) rfl ?_); refine goesL_ (some 14) rfl rfl Try.func65 sq2 rfl #[.int .i64 a0] rfl sq51 ?_; (with_reducible refine (kind_plain.calls a0 true _ A6.out).mono ?_); rintro e w' ⟨rfl, ⟨nd, rfl⟩⟩; refine ⟨_, rfl, ?_⟩) | (go_at_call 65; (with_reducible refine (kind_plain.calls a1 true _ A8.out).mono ?_); rintro e w' ⟨rfl, ⟨nd, rfl⟩⟩))
      go_ret
      exact ⟨sq5, sq7⟩
     rw [if_neg c10] at H
     have c10b0 : (a0 == a1) = false := beq_eq_false_iff_ne.mpr c10
     have c10b1 : (a0 != a1) = true := bne_iff_ne.mpr c10
     obtain rfl := Option.some.inj H
     go_wp2_with (first | ((with_reducible refine gate_callee (f := 65) rfl ?_); refine goesL_ (some 14) rfl rfl Try.func65 sq2 rfl #[.int .i64 a0] rfl sq51 ?_; (with_reducible refine (kind_plain.calls a0 true _ A6.out).mono ?_); rintro e w' ⟨rfl, ⟨nd, rfl⟩⟩; refine ⟨_, rfl, ?_⟩) | (go_at_call 65; (with_reducible refine (kind_plain.calls a1 true _ A8.out).mono ?_); rintro e w' ⟨rfl, ⟨nd, rfl⟩⟩))
     go_ret
     exact ⟨sq5, sq7⟩
    replace c9 := Bool.eq_false_iff.mpr c9
    subst c9
    replace H := (itF_ _ _).symm.trans H
    obtain rfl := Option.some.inj H
    go_wp2_with (first | ((with_reducible refine gate_callee (f := 65) rfl ?_); refine goesL_ (some 14) rfl rfl Try.func65 sq2 rfl #[.int .i64 a0] rfl sq51 ?_; (with_reducible refine (kind_plain.calls a0 true _ A6.out).mono ?_); rintro e w' ⟨rfl, ⟨nd, rfl⟩⟩; refine ⟨_, rfl, ?_⟩) | (go_at_call 65; (with_reducible refine (kind_plain.calls a1 false _ A8.out).mono ?_); rintro e w' ⟨rfl, ⟨nd, rfl⟩⟩))
    go_ret
    exact ⟨sq5, sq7⟩
   replace c7 := Bool.eq_false_iff.mpr c7
   subst c7
   replace H := (itF_ _ _).symm.trans H
   obtain rfl := Option.some.inj H
   go_wp2_with (first | ((with_reducible refine gate_callee (f := 65) rfl ?_); refine goesL_ (some 14) rfl rfl Try.func65 sq2 rfl #[.int .i64 a0] rfl sq51 ?_; (with_reducible refine (kind_plain.calls a0 false _ A6.out).mono ?_); rintro e w' ⟨rfl, ⟨nd, rfl⟩⟩; refine ⟨_, rfl, ?_⟩))
   go_ret
   exact ⟨sq5, sq7⟩

/-! ### kind_quotient: function 54 -/
def kind_quotient.j0 : Nat → Int → Int → Bool → Option (Int)
 | 0, _, _, _ => none
 | k + 1, x0, x1, x5 => if x5 = true then (some 1) else (if x0 = 2 then (if x1 = 1 then (some 2) else (some 0)) else (some 0))
def kind_quotient.f (k : Nat) (a0 : Int) (a1 : Int) : Option (Int) := (kind_plain.f a0).bind fun t103 => (if t103 = true then (kind_quotient.j0 k a0 a1 (a0 == a1)) else (kind_quotient.j0 k a0 a1 false))
theorem kind_quotient.mono_l : ∀ k, (∀ y0 y1 y2, LeO (kind_quotient.j0 k y0 y1 y2) (kind_quotient.j0 (k + 1) y0 y1 y2))
 | 0 => fun _ _ _ r h => by simp [kind_quotient.j0] at h
 | k + 1 => by
  have ih0 := kind_quotient.mono_l k
  ·intro y0 y1 y2
   unfold kind_quotient.j0
   exact sq92
theorem kind_quotient.mono : ∀ a0 a1 k, LeO (kind_quotient.f k a0 a1) (kind_quotient.f (k + 1) a0 a1) := by
 intro a0 a1 k
 have ih0 := kind_quotient.mono_l k
 unfold kind_quotient.f
 exact sq92
set_option maxHeartbeats 8000000 in
set_option maxRecDepth 100000 in
theorem kind_quotient.calls (k : Nat) (a0 : Int) (a1 : Int) (r : Int) (w : World) (h : kind_quotient.f k a0 a1 = some r) :
  Calls Try.prog 54 #[.int .i64 a0, .int .i64 a1] w fun e w' => e = .returned (.int .i64 r) ∧ Drawn0 w w' := by
 have H : ((kind_plain.f a0).bind fun t103 => (if t103 = true then (kind_quotient.j0 k a0 a1 (a0 == a1)) else (kind_quotient.j0 k a0 a1 false))) = some r := h
 clear h
 have HC3 := Aside0.mk H
 clear H
 go_enter Try.func54, Try.ntmps54
 go_upto_region 1 with (fail)
 go_cut [5] (fun v5 wc => ∃ (kq : Nat) (x5_2 : Bool), v5 = .bool x5_2 ∧ Aside0 (kind_quotient.j0 kq a0 a1 x5_2 = some r) ∧ Aside0 (kq ≤ k) ∧ Drawn0 w wc)
 case first =>
  have H := HC3.out
  clear HC3
  replace H := Option.bind_eq_some_iff.mp H
  obtain ⟨t103, A40, H⟩ := H
  replace H : (if t103 = true then (kind_quotient.j0 k a0 a1 (a0 == a1)) else (kind_quotient.j0 k a0 a1 false)) = some r := H
  have A4 := Aside0.mk A40
  clear A40
  by_cases c5 : t103 = true
  ·subst c5
   replace H := (itT_ _ _).symm.trans H
   have H' := Aside0.mk H
   clear H
   go_wp2_with (first | ((with_reducible refine gate_callee (f := 65) rfl ?_); refine goesL_ (some 7) rfl rfl Try.func65 sq2 rfl #[.int .i64 a0] rfl sq51 ?_; (with_reducible refine (kind_plain.calls a0 true _ A4.out).mono ?_); rintro e w' ⟨rfl, ⟨nd, rfl⟩⟩; refine ⟨_, rfl, ?_⟩))
   go_meet
   case rel => exact ⟨_, ((a0 == a1)), sq5, H', ⟨sq3⟩, sq7⟩
  replace c5 := Bool.eq_false_iff.mpr c5
  subst c5
  replace H := (itF_ _ _).symm.trans H
  have H' := Aside0.mk H
  clear H
  go_wp2_with (first | ((with_reducible refine gate_callee (f := 65) rfl ?_); refine goesL_ (some 7) rfl rfl Try.func65 sq2 rfl #[.int .i64 a0] rfl sq51 ?_; (with_reducible refine (kind_plain.calls a0 false _ A4.out).mono ?_); rintro e w' ⟨rfl, ⟨nd, rfl⟩⟩; refine ⟨_, rfl, ?_⟩))
  go_meet
  case rel => exact ⟨_, (false), sq5, H', ⟨sq3⟩, sq7⟩
 case rest =>
  clear HC3; try clear p2; try clear c5
  obtain ⟨kq, x5_2, rfl, HA, HJ2, ⟨mc2, rfl⟩⟩ := hcut
  cases kq with
  | zero => exact absurd HA.out (by simp [kind_quotient.j0])
  | succ kj2 =>
   have H := HA.out
   clear HA
   simp only [kind_quotient.j0] at H
   by_cases c6 : x5_2 = true
   ·subst c6
    replace H := (itT_ _ _).symm.trans H
    obtain rfl := Option.some.inj H
    go_wp2
    go_ret
    exact ⟨sq5, sq7⟩
   replace c6 := Bool.eq_false_iff.mpr c6
   subst c6
   replace H := (itF_ _ _).symm.trans H
   by_cases c7 : a0 = 2
   ·rw [if_pos c7] at H
    have c7b0 : (a0 == 2) = true := beq_iff_eq.mpr c7
    have c7b1 : (a0 != 2) = false := bne_eq_false_iff_eq.mpr c7
    clear c7
    by_cases c8 : a1 = 1
    ·rw [if_pos c8] at H
     have c8b0 : (a1 == 1) = true := beq_iff_eq.mpr c8
     have c8b1 : (a1 != 1) = false := bne_eq_false_iff_eq.mpr c8
     clear c8
     obtain rfl := Option.some.inj H
     go_wp2
     go_ret
     exact ⟨sq5, sq7⟩
    rw [if_neg c8] at H
    have c8b0 : (a1 == 1) = false := beq_eq_false_iff_ne.mpr c8
    have c8b1 : (a1 != 1) = true := bne_iff_ne.mpr c8
    obtain rfl := Option.some.inj H
    go_wp2
    go_ret
    exact ⟨sq5, sq7⟩
   rw [if_neg c7] at H
   have c7b0 : (a0 == 2) = false := beq_eq_false_iff_ne.mpr c7
   have c7b1 : (a0 != 2) = true := bne_iff_ne.mpr c7
   obtain rfl := Option.some.inj H
   go_wp2
   go_ret
   exact ⟨sq5, sq7⟩

/-! ### kind_alike: function 55: by hand -/
def kind_alike.f (l0 : List Int) : Option Bool := if 0 < l0.length then some ((l0.getD 0 0 == 1 || l0.getD 0 0 == 2) && !Ytpfnnamicbbobaa.HC.odd (l0.getD 0 0) l0) else none
theorem kind_alike.calls (A0 : Option Addr) (c0 : Nat) (l0 : List Int) (r : Bool) (w : World) (hr0 : Kd.C (Kd.int .i64) w A0 l0.length l0) (hc0 : l0.length ≤ c0) (h : kind_alike.f l0 = some r) :
  Calls Try.prog 55 #[.slice A0 l0.length c0] w fun e w' => e = .returned (.bool r) ∧ Below w.heap.size w w' := by
 unfold kind_alike.f at h
 split at h
 ·rename_i hl
  obtain rfl := Option.some.inj h
  obtain ⟨ad, rfl, _⟩ := Kd.at_int hr0 0 sq0 sq0
  exact Ytpfnnamicbbobaa.HC.alike_any l0 ad c0 w hl (Kd.C_max hr0) fun k hk => by
   obtain ⟨ad', e, hx⟩ := Kd.at_int hr0 k sq0 sq0
   obtain rfl := Option.some.inj e
   exact hx
 cases h

end Go.Proofs.Ytpfnnamicbbobaa.PAll
