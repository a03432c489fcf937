-- Written by a program of this session (wip/tools/print2.sh): functions as plain Lean, and that the machine's calls do what they say.
import Derived.Test.YtaogejkmkalnlaaPAllx0
namespace Go.Proofs.Ytaogejkmkalnlaa.PAll
open Go.RowKit Go.Proofs.YtaogejkmkalnlaaW.PrintWords Go.Proofs.YtaogejkmkalnlaaW.PrintLast Go.Proofs.YtaogejkmkalnlaaW.PrintMore
attribute [local go_sem] max2_int min2_int max_two min_two max_three min_three max_four min_four   -- for this text's walks alone
set_option linter.unusedVariables false
set_option linter.unusedSimpArgs false

/-! ### clause_parts: function 39 -/
mutual
def clause_parts.j0 : Nat → Int → Bool → Option (Int)
 | 0, _, _ => none
 | k + 1, x3, x4 => if x4 = true then (some 0) else (if x3 = 6 then (clause_parts.j1 k x3 (x3 == 6)) else (clause_parts.j1 k x3 (x3 == 7)))
def clause_parts.j1 : Nat → Int → Bool → Option (Int)
 | 0, _, _ => none
 | k + 1, x3, x10 => if x10 = true then (some 1) else (if x3 = 20 then (some 3) else (if x3 = 21 then (some (-1)) else (if x3 = 22 then (some (-1)) else (some 2))))
end
def clause_parts.f (k : Nat) (a0 : Int) : Option (Int) := if a0 = 1 then (clause_parts.j0 k a0 (a0 == 1)) else (if a0 = 2 then (clause_parts.j0 k a0 (a0 == 2)) else (if a0 = 3 then (clause_parts.j0 k a0 (a0 == 3)) else (if a0 = 4 then (clause_parts.j0 k a0 (a0 == 4)) else (clause_parts.j0 k a0 (a0 == 5)))))
theorem clause_parts.mono_l : ∀ k, (∀ y0 y1, LeO (clause_parts.j0 k y0 y1) (clause_parts.j0 (k + 1) y0 y1)) ∧ (∀ y0 y1, LeO (clause_parts.j1 k y0 y1) (clause_parts.j1 (k + 1) y0 y1))
 | 0 => ⟨fun _ _ r h => by simp [clause_parts.j0] at h, fun _ _ r h => by simp [clause_parts.j1] at h⟩
 | k + 1 => by
  obtain ⟨ih0, ih1⟩ := clause_parts.mono_l k
  refine ⟨?_, ?_⟩
  ·intro y0 y1
   unfold clause_parts.j0
   exact sq92
  intro y0 y1
  unfold clause_parts.j1
  exact sq92
theorem clause_parts.mono : ∀ a0 k, LeO (clause_parts.f k a0) (clause_parts.f (k + 1) a0) := by
 intro a0 k
 obtain ⟨ih0, ih1⟩ := clause_parts.mono_l k
 unfold clause_parts.f
 exact sq92
set_option maxHeartbeats 8000000 in
set_option maxRecDepth 100000 in
theorem clause_parts.calls (k : Nat) (a0 : Int) (r : Int) (w : World) (h : clause_parts.f k a0 = some r) :
  Calls Try.prog 39 #[.int .i64 a0] w fun e w' => e = .returned (.int .i64 r) ∧ Drawn0 w w' := by
 have H : (if a0 = 1 then (clause_parts.j0 k a0 (a0 == 1)) else (if a0 = 2 then (clause_parts.j0 k a0 (a0 == 2)) else (if a0 = 3 then (clause_parts.j0 k a0 (a0 == 3)) else (if a0 = 4 then (clause_parts.j0 k a0 (a0 == 4)) else (clause_parts.j0 k a0 (a0 == 5)))))) = some r := h
 clear h
 have HC2 := Aside0.mk H
 clear H
 go_enter Try.func39, Try.ntmps39
 go_upto_if 4 with (fail)
 go_cut [4] (fun v4 wc => ∃ (kq : Nat) (x4_1 : Bool), v4 = .bool x4_1 ∧ Aside0 (clause_parts.j0 kq a0 x4_1 = some r) ∧ Aside0 (kq ≤ k) ∧ Drawn0 w wc)
 case first =>
  have H := HC2.out
  clear HC2
  by_cases c3 : a0 = 1
  ·rw [if_pos c3] at H
   have c3b0 : (a0 == 1) = true := beq_iff_eq.mpr c3
   have c3b1 : (a0 != 1) = false := bne_eq_false_iff_eq.mpr c3
   clear c3
   (first | rw [c3b0] | (simp only [i64_w, i32_w]; rw [c3b0]) | skip)
   have H' := Aside0.mk H
   clear H
   go_wp2
   go_meet
   case rel => exact ⟨_, ((a0 == 1)), sq4, H', ⟨sq2⟩, sq7⟩
  rw [if_neg c3] at H
  have c3b0 : (a0 == 1) = false := beq_eq_false_iff_ne.mpr c3
  have c3b1 : (a0 != 1) = true := bne_iff_ne.mpr c3
  (first | rw [c3b0] | (simp only [i64_w, i32_w]; rw [c3b0]) | skip)
  by_cases c4 : a0 = 2
  ·rw [if_pos c4] at H
   have c4b0 : (a0 == 2) = true := beq_iff_eq.mpr c4
   have c4b1 : (a0 != 2) = false := bne_eq_false_iff_eq.mpr c4
   clear c4
   have H' := Aside0.mk H
   clear H
   go_wp2
   go_meet
   case rel => exact ⟨_, ((a0 == 2)), sq4, H', ⟨sq2⟩, sq7⟩
  rw [if_neg c4] at H
  have c4b0 : (a0 == 2) = false := beq_eq_false_iff_ne.mpr c4
  have c4b1 : (a0 != 2) = true := bne_iff_ne.mpr c4
  by_cases c5 : a0 = 3
  ·rw [if_pos c5] at H
   have c5b0 : (a0 == 3) = true := beq_iff_eq.mpr c5
   have c5b1 : (a0 != 3) = false := bne_eq_false_iff_eq.mpr c5
   clear c5
   have H' := Aside0.mk H
   clear H
   go_wp2
   go_meet
   case rel => exact ⟨_, ((a0 == 3)), sq4, H', ⟨sq2⟩, sq7⟩
  rw [if_neg c5] at H
  have c5b0 : (a0 == 3) = false := beq_eq_false_iff_ne.mpr c5
  have c5b1 : (a0 != 3) = true := bne_iff_ne.mpr c5
  by_cases c6 : a0 = 4
  ·rw [if_pos c6] at H
   have c6b0 : (a0 == 4) = true := beq_iff_eq.mpr c6
   have c6b1 : (a0 != 4) = false := bne_eq_false_iff_eq.mpr c6
   clear c6
   have H' := Aside0.mk H
   clear H
   go_wp2
   go_meet
   case rel => exact ⟨_, ((a0 == 4)), sq4, H', ⟨sq2⟩, sq7⟩
  rw [if_neg c6] at H
  have c6b0 : (a0 == 4) = false := beq_eq_false_iff_ne.mpr c6
  have c6b1 : (a0 != 4) = true := bne_iff_ne.mpr c6
  have H' := Aside0.mk H
  clear H
  go_wp2
  go_meet
  case rel => exact ⟨_, ((a0 == 5)), sq4, H', ⟨sq2⟩, sq7⟩
 case rest =>
  clear HC2; try clear p2; try clear c3; try clear c3b0; try clear c3b1; try clear c4; try clear c4b0; try clear c4b1; try clear c5; try clear c5b0; try clear c5b1; try clear c6; try clear c6b0; try clear c6b1
  obtain ⟨kq, x4_1, rfl, HA, HJ1, ⟨mc1, rfl⟩⟩ := hcut
  cases kq with
  | zero => exact absurd HA.out (by simp [clause_parts.j0])
  | succ kj1 =>
   have H := HA.out
   clear HA
   simp only [clause_parts.j0] at H
   by_cases c7 : x4_1 = true
   ·subst c7
    replace H := (itT_ _ _).symm.trans H
    obtain rfl := Option.some.inj H
    go_wp2
    go_ret
    exact ⟨sq4, sq7⟩
   replace c7 := Bool.eq_false_iff.mpr c7
   subst c7
   replace H := (itF_ _ _).symm.trans H
   have HC8 := Aside0.mk H
   clear H
   go_upto_if 10 with (fail)
   go_cut [10] (fun v10 wc => ∃ (kq : Nat) (x10_7 : Bool), v10 = .bool x10_7 ∧ Aside0 (clause_parts.j1 kq a0 x10_7 = some r) ∧ Aside0 (kq ≤ kj1) ∧ Drawn0 w wc)
   case first =>
    have H := HC8.out
    clear HC8
    by_cases c9 : a0 = 6
    ·rw [if_pos c9] at H
     have c9b0 : (a0 == 6) = true := beq_iff_eq.mpr c9
     have c9b1 : (a0 != 6) = false := bne_eq_false_iff_eq.mpr c9
     clear c9
     (first | rw [c9b0] | (simp only [i64_w, i32_w]; rw [c9b0]) | skip)
     have H' := Aside0.mk H
     clear H
     go_wp2
     go_meet
     case rel => exact ⟨_, ((a0 == 6)), sq4, H', ⟨sq6⟩, sq7⟩
    rw [if_neg c9] at H
    have c9b0 : (a0 == 6) = false := beq_eq_false_iff_ne.mpr c9
    have c9b1 : (a0 != 6) = true := bne_iff_ne.mpr c9
    (first | rw [c9b0] | (simp only [i64_w, i32_w]; rw [c9b0]) | skip)
    have H' := Aside0.mk H
    clear H
    go_wp2
    go_meet
    case rel => exact ⟨_, ((a0 == 7)), sq4, H', ⟨sq6⟩, sq7⟩
   case rest =>
    clear HC8; try clear c1; try clear p2; try clear c3; try clear c3b0; try clear c3b1; try clear c4; try clear c4b0; try clear c4b1; try clear c5; try clear c5b0; try clear c5b1; try clear c6; try clear c6b0; try clear c6b1; try clear c7; try clear c9; try clear c9b0; try clear c9b1; try clear p2
    obtain ⟨kq, x10_7, rfl, HA, HJ7, ⟨mc7, rfl⟩⟩ := hcut
    cases kq with
    | zero => exact absurd HA.out (by simp [clause_parts.j1])
    | succ kj7 =>
     have H := HA.out
     clear HA
     simp only [clause_parts.j1] at H
     by_cases c10 : x10_7 = true
     ·subst c10
      replace H := (itT_ _ _).symm.trans H
      obtain rfl := Option.some.inj H
      go_wp2
      go_ret
      exact ⟨sq4, sq7⟩
     replace c10 := Bool.eq_false_iff.mpr c10
     subst c10
     replace H := (itF_ _ _).symm.trans H
     by_cases c11 : a0 = 20
     ·rw [if_pos c11] at H
      have c11b0 : (a0 == 20) = true := beq_iff_eq.mpr c11
      have c11b1 : (a0 != 20) = false := bne_eq_false_iff_eq.mpr c11
      clear c11
      obtain rfl := Option.some.inj H
      go_wp2
      go_ret
      exact ⟨sq4, sq7⟩
     rw [if_neg c11] at H
     have c11b0 : (a0 == 20) = false := beq_eq_false_iff_ne.mpr c11
     have c11b1 : (a0 != 20) = true := bne_iff_ne.mpr c11
     by_cases c12 : a0 = 21
     ·rw [if_pos c12] at H
      have c12b0 : (a0 == 21) = true := beq_iff_eq.mpr c12
      have c12b1 : (a0 != 21) = false := bne_eq_false_iff_eq.mpr c12
      clear c12
      obtain rfl := Option.some.inj H
      go_wp2
      go_ret
      exact ⟨sq4, sq7⟩
     rw [if_neg c12] at H
     have c12b0 : (a0 == 21) = false := beq_eq_false_iff_ne.mpr c12
     have c12b1 : (a0 != 21) = true := bne_iff_ne.mpr c12
     by_cases c13 : a0 = 22
     ·rw [if_pos c13] at H
      have c13b0 : (a0 == 22) = true := beq_iff_eq.mpr c13
      have c13b1 : (a0 != 22) = false := bne_eq_false_iff_eq.mpr c13
      clear c13
      obtain rfl := Option.some.inj H
      go_wp2
      go_ret
      exact ⟨sq4, sq7⟩
     rw [if_neg c13] at H
     have c13b0 : (a0 == 22) = false := beq_eq_false_iff_ne.mpr c13
     have c13b1 : (a0 != 22) = true := bne_iff_ne.mpr c13
     obtain rfl := Option.some.inj H
     go_wp2
     go_ret
     exact ⟨sq4, sq7⟩

/-! ### clause_figures: function 48: by hand -/
def clause_figures.f (a0 : ByteArray) : Option Int := if a0.size ≤ 9223372036854775807 then some (Ytaogejkmkalnlaa.HS.figs a0.data.toList : Nat) else none
theorem clause_figures.calls (a0 : ByteArray) (r : Int) (w : World) (h : clause_figures.f a0 = some r) :
  Calls Try.prog 48 #[.string a0] w fun e w' => e = .returned (.int .i64 r) ∧ Drawn0 w w' := by
 unfold clause_figures.f at h
 split at h
 ·obtain rfl := Option.some.inj h
  refine (Ytaogejkmkalnlaa.HA.figures_any a0 w (by assumption)).mono ?_
  rintro e w' ⟨rfl, rfl⟩
  exact ⟨rfl, Drawn0.refl _⟩
 cases h

/-! ### strings_Count: function 62: by hand -/
def strings_Count.f (a0 : ByteArray) (a1 : ByteArray) : Option Int :=
 match a1 with
 | ⟨⟨[c]⟩⟩ => some (Lib.countByte a0.data.toList c)
 | _ => none
theorem strings_Count.calls (a0 : ByteArray) (a1 : ByteArray) (r : Int) (w : World) (h : strings_Count.f a0 a1 = some r) :
  Calls Try.prog 62 #[.string a0, .string a1] w fun e w' => e = .returned (.int .i64 r) ∧ Drawn0 w w' := by
 unfold strings_Count.f at h
 split at h
 ·rename_i c
  obtain rfl := Option.some.inj h
  refine (Try.strings_Count_one a0 c w).mono ?_
  rintro e w' ⟨rfl, rfl⟩
  exact ⟨rfl, Drawn0.refl _⟩
 cases h

/-! ### clause_many: function 53 -/
def clause_many.f (a0 : ByteArray) : Option (Int) := (strings_Count.f a0 (⟨#[46]⟩ : ByteArray)).bind fun t135 => (some (wrap64 ((a0.size : Int) - t135)))
set_option maxHeartbeats 8000000 in
set_option maxRecDepth 100000 in
theorem clause_many.calls (a0 : ByteArray) (r : Int) (w : World) (h : clause_many.f a0 = some r) :
  Calls Try.prog 53 #[.string a0] w fun e w' => e = .returned (.int .i64 r) ∧ Drawn0 w w' := by
 have H : ((strings_Count.f a0 (⟨#[46]⟩ : ByteArray)).bind fun t135 => (some (wrap64 ((a0.size : Int) - t135)))) = some r := h
 clear h
 replace H := Option.bind_eq_some_iff.mp H
 obtain ⟨t135, A20, H⟩ := H
 replace H : (some (wrap64 ((a0.size : Int) - t135))) = some r := H
 have A2 := Aside0.mk A20
 clear A20
 obtain rfl := Option.some.inj H
 go_enter Try.func53, Try.ntmps53
 go_wp2_with (first | ((with_reducible refine gate_callee (f := 62) rfl ?_); refine goesL_ (some 6) rfl rfl Try.func62 sq1 rfl #[.string a0, .string (⟨#[46]⟩ : ByteArray)] rfl sq56 ?_; (with_reducible refine (strings_Count.calls a0 (⟨#[46]⟩ : ByteArray) t135 _ A2.out).mono ?_); rintro e w' ⟨rfl, ⟨nd, rfl⟩⟩; refine ⟨_, rfl, ?_⟩))
 go_ret
 exact ⟨sq4, sq7⟩

/-! ### stringslite_Index: function 52: by hand -/
def stringslite_Index.f (a0 : ByteArray) (a1 : ByteArray) : Option Int :=
 match a1 with
 | ⟨⟨[c]⟩⟩ => some (Lib.indexByte a0.data.toList c)
 | _ => if a0.size < 4294967281 then some (Lib.index a0.data.toList a1.data.toList) else none
theorem stringslite_Index.calls (a0 : ByteArray) (a1 : ByteArray) (r : Int) (w : World) (hG : Glob w) (h : stringslite_Index.f a0 a1 = some r) :
  Calls Try.prog 52 #[.string a0, .string a1] w fun e w' => e = .returned (.int .i64 r) ∧ Drawn0 w w' := by
 unfold stringslite_Index.f at h
 split at h
 ·rename_i c
  obtain rfl := Option.some.inj h
  refine (Try.stringslite_Index_one a0 c w).mono ?_
  rintro e w' ⟨rfl, rfl⟩
  exact ⟨rfl, Drawn0.refl _⟩
 split at h
 ·obtain rfl := Option.some.inj h
  obtain ⟨m, hm⟩ := hG
  refine (Try.stringslite_Index a0 a1 m w (by assumption) hm).mono ?_
  rintro e w' ⟨rfl, rfl⟩
  exact ⟨rfl, Drawn0.refl _⟩
 cases h

/-! ### stringslite_Cut: function 68 -/
def stringslite_Cut.f (a0 : ByteArray) (a1 : ByteArray) : Option (ByteArray × ByteArray × Bool) := (stringslite_Index.f a0 a1).bind fun t136 => (if t136 ≥ 0 then (if 0 ≤ t136 then (if t136 ≤ (a0.size : Int) then (if 0 ≤ (wrap64 (t136 + (a1.size : Int))) then (if (wrap64 (t136 + (a1.size : Int))) ≤ (a0.size : Int) then (some (a0.extract 0 (t136 : Int).toNat, a0.extract ((wrap64 (t136 + (a1.size : Int))) : Int).toNat a0.size, true)) else (none)) else (none)) else (none)) else (none)) else (some (a0, (⟨#[]⟩ : ByteArray), false)))
set_option maxHeartbeats 8000000 in
set_option maxRecDepth 100000 in
theorem stringslite_Cut.calls (a0 : ByteArray) (a1 : ByteArray) (r1 : ByteArray) (r2 : ByteArray) (r3 : Bool) (w : World) (hG : Glob w) (h : stringslite_Cut.f a0 a1 = some (r1, r2, r3)) :
  Calls Try.prog 68 #[.string a0, .string a1] w fun e w' => e = .returned (.tuple #[.string r1, .string r2, .bool r3]) ∧ Drawn0 w w' := by
 have HG := Aside0.mk hG
 clear hG
 have H : ((stringslite_Index.f a0 a1).bind fun t136 => (if t136 ≥ 0 then (if 0 ≤ t136 then (if t136 ≤ (a0.size : Int) then (if 0 ≤ (wrap64 (t136 + (a1.size : Int))) then (if (wrap64 (t136 + (a1.size : Int))) ≤ (a0.size : Int) then (some (a0.extract 0 (t136 : Int).toNat, a0.extract ((wrap64 (t136 + (a1.size : Int))) : Int).toNat a0.size, true)) else (none)) else (none)) else (none)) else (none)) else (some (a0, (⟨#[]⟩ : ByteArray), false)))) = some (r1, r2, r3) := h
 clear h
 replace H := Option.bind_eq_some_iff.mp H
 obtain ⟨t136, A30, H⟩ := H
 replace H : (if t136 ≥ 0 then (if 0 ≤ t136 then (if t136 ≤ (a0.size : Int) then (if 0 ≤ (wrap64 (t136 + (a1.size : Int))) then (if (wrap64 (t136 + (a1.size : Int))) ≤ (a0.size : Int) then (some (a0.extract 0 (t136 : Int).toNat, a0.extract ((wrap64 (t136 + (a1.size : Int))) : Int).toNat a0.size, true)) else (none)) else (none)) else (none)) else (none)) else (some (a0, (⟨#[]⟩ : ByteArray), false))) = some (r1, r2, r3) := H
 have A3 := Aside0.mk A30
 clear A30
 by_cases c4 : t136 ≥ 0
 ·rw [if_pos c4] at H
  have c4b0 : decide (0 ≤ t136) = true := decide_eq_true c4; clear c4
  by_cases c5 : 0 ≤ t136
  ·rw [if_pos c5] at H
   have c5b0 := eq_true c5
   have c5b1 : decide (0 ≤ t136) = true := decide_eq_true c5
   clear c5
   by_cases c6 : t136 ≤ (a0.size : Int)
   ·rw [if_pos c6] at H
    have c6b0 := eq_true c6
    have c6b1 : decide (t136 ≤ (a0.size : Int)) = true := decide_eq_true c6
    clear c6
    obtain ⟨ji7, hji7⟩ : ∃ j_ : Int, (wrap64 (t136 + (a1.size : Int))) = j_ := ⟨_, rfl⟩
    replace H : (if 0 ≤ (ji7) then (if (ji7) ≤ (a0.size : Int) then (some (a0.extract 0 (t136 : Int).toNat, a0.extract ((ji7) : Int).toNat a0.size, true)) else (none)) else (none)) = some (r1, r2, r3) := by first | (rw [hji7] at H; exact H) | (simp only [hji7] at H ⊢; exact H)
    (try rw [hji7] at A3)
    have hji7w : (IntKind.i64.wrap (t136 + (a1.size : Int))) = ji7 := (i64_w _).trans hji7
    by_cases c8 : 0 ≤ (ji7)
    ·rw [if_pos c8] at H
     have c8b0 := eq_true c8
     have c8b1 : decide (0 ≤ (ji7)) = true := decide_eq_true c8
     clear c8
     by_cases c9 : (ji7) ≤ (a0.size : Int)
     ·rw [if_pos c9] at H
      have c9b0 := eq_true c9
      have c9b1 : decide ((ji7) ≤ (a0.size : Int)) = true := decide_eq_true c9
      clear c9
      simp only [Option.some.injEq, Prod.mk.injEq] at H
      obtain ⟨rfl, rfl, rfl⟩ := H
      go_enter Try.func68, Try.ntmps68
      go_wp2_with (first | (go_at_call 52; (with_reducible refine (stringslite_Index.calls a0 a1 t136 _ ?side1 A3.out).mono ?_); (case side1 => (refine Glob.drawn HG.out ?_; repeat (first | exact Drawn0.refl _ | apply Drawn0.step))); rintro e w' ⟨rfl, ⟨nd, rfl⟩⟩; (try first | exact ⟨rfl, _, World.drewN_drewN _ _ _⟩ | exact ⟨rfl, _, Eq.trans (World.drewN_drewN _ _ _) (congrArg (World.drewN _) (Nat.add_assoc _ _ _))⟩)))
      repeat (go_quiet (first | (go_at_call 52; (with_reducible refine (stringslite_Index.calls a0 a1 t136 _ ?side1 A3.out).mono ?_); (case side1 => (refine Glob.drawn HG.out ?_; repeat (first | exact Drawn0.refl _ | apply Drawn0.step))); rintro e w' ⟨rfl, ⟨nd, rfl⟩⟩; (try first | exact ⟨rfl, _, World.drewN_drewN _ _ _⟩ | exact ⟨rfl, _, Eq.trans (World.drewN_drewN _ _ _) (congrArg (World.drewN _) (Nat.add_assoc _ _ _))⟩))); try go_wp2_with (first | (go_at_call 52; (with_reducible refine (stringslite_Index.calls a0 a1 t136 _ ?side1 A3.out).mono ?_); (case side1 => (refine Glob.drawn HG.out ?_; repeat (first | exact Drawn0.refl _ | apply Drawn0.step))); rintro e w' ⟨rfl, ⟨nd, rfl⟩⟩; (try first | exact ⟨rfl, _, World.drewN_drewN _ _ _⟩ | exact ⟨rfl, _, Eq.trans (World.drewN_drewN _ _ _) (congrArg (World.drewN _) (Nat.add_assoc _ _ _))⟩))))
      go_ret3
      exact ⟨by first | rfl | (simp; done) | (simp only [← hji7] <;> (first | rfl | simp)) | (simp [*]; done), sq7⟩
     rw [if_neg c9] at H
     exact absurd H (by simp)
    rw [if_neg c8] at H
    exact absurd H (by simp)
   rw [if_neg c6] at H
   exact absurd H (by simp)
  rw [if_neg c5] at H
  exact absurd H (by simp)
 rw [if_neg c4] at H
 have c4b0 : decide (0 ≤ t136) = false := decide_eq_false c4; clear c4
 simp only [Option.some.injEq, Prod.mk.injEq] at H
 obtain ⟨rfl, rfl, rfl⟩ := H
 go_enter Try.func68, Try.ntmps68
 go_wp2_with (first | (go_at_call 52; (with_reducible refine (stringslite_Index.calls a0 a1 t136 _ ?side1 A3.out).mono ?_); (case side1 => (refine Glob.drawn HG.out ?_; repeat (first | exact Drawn0.refl _ | apply Drawn0.step))); rintro e w' ⟨rfl, ⟨nd, rfl⟩⟩; (try first | exact ⟨rfl, _, World.drewN_drewN _ _ _⟩ | exact ⟨rfl, _, Eq.trans (World.drewN_drewN _ _ _) (congrArg (World.drewN _) (Nat.add_assoc _ _ _))⟩)))
 repeat (go_quiet (first | (go_at_call 52; (with_reducible refine (stringslite_Index.calls a0 a1 t136 _ ?side1 A3.out).mono ?_); (case side1 => (refine Glob.drawn HG.out ?_; repeat (first | exact Drawn0.refl _ | apply Drawn0.step))); rintro e w' ⟨rfl, ⟨nd, rfl⟩⟩; (try first | exact ⟨rfl, _, World.drewN_drewN _ _ _⟩ | exact ⟨rfl, _, Eq.trans (World.drewN_drewN _ _ _) (congrArg (World.drewN _) (Nat.add_assoc _ _ _))⟩))); try go_wp2_with (first | (go_at_call 52; (with_reducible refine (stringslite_Index.calls a0 a1 t136 _ ?side1 A3.out).mono ?_); (case side1 => (refine Glob.drawn HG.out ?_; repeat (first | exact Drawn0.refl _ | apply Drawn0.step))); rintro e w' ⟨rfl, ⟨nd, rfl⟩⟩; (try first | exact ⟨rfl, _, World.drewN_drewN _ _ _⟩ | exact ⟨rfl, _, Eq.trans (World.drewN_drewN _ _ _) (congrArg (World.drewN _) (Nat.add_assoc _ _ _))⟩))))
 go_ret3
 exact ⟨sq4, sq7⟩

/-! ### strings_Cut: function 63 -/
def strings_Cut.f (a0 : ByteArray) (a1 : ByteArray) : Option (ByteArray × ByteArray × Bool) := (stringslite_Cut.f a0 a1).bind fun bt137 => (some (bt137.1, bt137.2.1, bt137.2.2))
set_option maxHeartbeats 8000000 in
set_option maxRecDepth 100000 in
theorem strings_Cut.calls (a0 : ByteArray) (a1 : ByteArray) (r1 : ByteArray) (r2 : ByteArray) (r3 : Bool) (w : World) (hG : Glob w) (h : strings_Cut.f a0 a1 = some (r1, r2, r3)) :
  Calls Try.prog 63 #[.string a0, .string a1] w fun e w' => e = .returned (.tuple #[.string r1, .string r2, .bool r3]) ∧ Drawn0 w w' := by
 have HG := Aside0.mk hG
 clear hG
 have H : ((stringslite_Cut.f a0 a1).bind fun bt137 => (some (bt137.1, bt137.2.1, bt137.2.2))) = some (r1, r2, r3) := h
 clear h
 replace H := Option.bind_eq_some_iff.mp H
 obtain ⟨⟨t137, t138, t139⟩, A30, H⟩ := H
 replace H : (some (t137, t138, t139)) = some (r1, r2, r3) := H
 have A3 := Aside0.mk A30
 clear A30
 simp only [Option.some.injEq, Prod.mk.injEq] at H
 obtain ⟨rfl, rfl, rfl⟩ := H
 go_enter Try.func63, Try.ntmps63
 go_wp2_with (first | ((with_reducible refine gate_callee (f := 68) rfl ?_); refine goesL_ (some 9) rfl rfl Try.func68 sq1 rfl #[.string a0, .string a1] rfl sq56 ?_; (with_reducible refine (stringslite_Cut.calls a0 a1 t137 t138 t139 _ ?side1 A3.out).mono ?_); (case side1 => (refine Glob.drawn HG.out ?_; repeat (first | exact Drawn0.refl _ | apply Drawn0.step))); rintro e w' ⟨rfl, ⟨nd, rfl⟩⟩; refine ⟨_, rfl, ?_⟩))
 go_ret3
 exact ⟨sq4, sq7⟩

/-! ### clause_early: function 54 -/
def clause_early.f (a0 : ByteArray) : Option (Bool) := (strings_Cut.f a0 (⟨#[46]⟩ : ByteArray)).bind fun bt140 => (if (bt140.1.size : Int) > 1 then (if 0 < (bt140.1.size : Int) then (some ((bt bt140.1 0) == 48)) else (none)) else (some false))
set_option maxHeartbeats 8000000 in
set_option maxRecDepth 100000 in
theorem clause_early.calls (a0 : ByteArray) (r : Bool) (w : World) (hG : Glob w) (h : clause_early.f a0 = some r) :
  Calls Try.prog 54 #[.string a0] w fun e w' => e = .returned (.bool r) ∧ Drawn0 w w' := by
 have HG := Aside0.mk hG
 clear hG
 have H : ((strings_Cut.f a0 (⟨#[46]⟩ : ByteArray)).bind fun bt140 => (if (bt140.1.size : Int) > 1 then (if 0 < (bt140.1.size : Int) then (some ((bt bt140.1 0) == 48)) else (none)) else (some false))) = some r := h
 clear h
 replace H := Option.bind_eq_some_iff.mp H
 obtain ⟨⟨t140, t141, t142⟩, A20, H⟩ := H
 replace H : (if (t140.size : Int) > 1 then (if 0 < (t140.size : Int) then (some ((bt t140 0) == 48)) else (none)) else (some false)) = some r := H
 have A2 := Aside0.mk A20
 clear A20
 by_cases c3 : (t140.size : Int) > 1
 ·rw [if_pos c3] at H
  have c3b0 : decide (1 < (t140.size : Int)) = true := decide_eq_true c3
  have c3b1 : decide (1 < t140.size) = true := decide_eq_true (by omega)
  clear c3
  by_cases c4 : 0 < (t140.size : Int)
  ·rw [if_pos c4] at H
   have c4b0 : decide (0 < (t140.size : Int)) = true := decide_eq_true c4
   have c4b1 : decide (0 < t140.size) = true := decide_eq_true (by omega)
   clear c4
   obtain rfl := Option.some.inj H
   go_enter Try.func54, Try.ntmps54
   go_wp2_with (first | ((with_reducible refine gate_callee (f := 63) rfl ?_); refine goesL_ (some 8) rfl rfl Try.func63 sq1 rfl #[.string a0, .string (⟨#[46]⟩ : ByteArray)] rfl sq56 ?_; (with_reducible refine (strings_Cut.calls a0 (⟨#[46]⟩ : ByteArray) t140 t141 t142 _ ?side1 A2.out).mono ?_); (case side1 => (refine Glob.drawn HG.out ?_; repeat (first | exact Drawn0.refl _ | apply Drawn0.step))); rintro e w' ⟨rfl, ⟨nd, rfl⟩⟩; refine ⟨_, rfl, ?_⟩; have p5 : 0 ≤ (0 : Int) := (by omega); have q5 : 0 < t140.size := (by have : (0 : Int) < (t140.size : Int) := of_decide_eq_true sq5; omega); have hx5 : ∀ h : 0 < t140.size, ((t140[0]'h).toNat : Int) = bt t140 0 := bt_at t140 0; clear p5; have qi5 : (0 < (t140.size : Int)) = True := eq_true (of_decide_eq_true sq5); replace q5 := eq_true q5))
   go_ret
   exact ⟨sq4, sq7⟩
  rw [if_neg c4] at H
  exact absurd H (by simp)
 rw [if_neg c3] at H
 have c3b0 : decide (1 < (t140.size : Int)) = false := decide_eq_false c3
 have c3b1 : decide (1 < t140.size) = false := decide_eq_false (by omega)
 clear c3
 obtain rfl := Option.some.inj H
 go_enter Try.func54, Try.ntmps54
 go_wp2_with (first | ((with_reducible refine gate_callee (f := 63) rfl ?_); refine goesL_ (some 8) rfl rfl Try.func63 sq1 rfl #[.string a0, .string (⟨#[46]⟩ : ByteArray)] rfl sq56 ?_; (with_reducible refine (strings_Cut.calls a0 (⟨#[46]⟩ : ByteArray) t140 t141 t142 _ ?side1 A2.out).mono ?_); (case side1 => (refine Glob.drawn HG.out ?_; repeat (first | exact Drawn0.refl _ | apply Drawn0.step))); rintro e w' ⟨rfl, ⟨nd, rfl⟩⟩; refine ⟨_, rfl, ?_⟩))
 go_ret
 exact ⟨sq4, sq7⟩

/-! ### clause_pennies: function 55 -/
def clause_pennies.f (a0 : ByteArray) : Option (Bool) := (strings_Cut.f a0 (⟨#[46]⟩ : ByteArray)).bind fun bt143 => (if bt143.2.2 = true then (some ((bt143.2.1.size : Int) == 2)) else (some false))
set_option maxHeartbeats 8000000 in
set_option maxRecDepth 100000 in
theorem clause_pennies.calls (a0 : ByteArray) (r : Bool) (w : World) (hG : Glob w) (h : clause_pennies.f a0 = some r) :
  Calls Try.prog 55 #[.string a0] w fun e w' => e = .returned (.bool r) ∧ Drawn0 w w' := by
 have HG := Aside0.mk hG
 clear hG
 have H : ((strings_Cut.f a0 (⟨#[46]⟩ : ByteArray)).bind fun bt143 => (if bt143.2.2 = true then (some ((bt143.2.1.size : Int) == 2)) else (some false))) = some r := h
 clear h
 replace H := Option.bind_eq_some_iff.mp H
 obtain ⟨⟨t143, t144, t145⟩, A20, H⟩ := H
 replace H : (if t145 = true then (some ((t144.size : Int) == 2)) else (some false)) = some r := H
 have A2 := Aside0.mk A20
 clear A20
 by_cases c3 : t145 = true
 ·subst c3
  replace H := (itT_ _ _).symm.trans H
  obtain rfl := Option.some.inj H
  go_enter Try.func55, Try.ntmps55
  go_wp2_with (first | ((with_reducible refine gate_callee (f := 63) rfl ?_); refine goesL_ (some 8) rfl rfl Try.func63 sq1 rfl #[.string a0, .string (⟨#[46]⟩ : ByteArray)] rfl sq56 ?_; (with_reducible refine (strings_Cut.calls a0 (⟨#[46]⟩ : ByteArray) t143 t144 true _ ?side1 A2.out).mono ?_); (case side1 => (refine Glob.drawn HG.out ?_; repeat (first | exact Drawn0.refl _ | apply Drawn0.step))); rintro e w' ⟨rfl, ⟨nd, rfl⟩⟩; refine ⟨_, rfl, ?_⟩))
  go_ret
  exact ⟨sq4, sq7⟩
 replace c3 := Bool.eq_false_iff.mpr c3
 subst c3
 replace H := (itF_ _ _).symm.trans H
 obtain rfl := Option.some.inj H
 go_enter Try.func55, Try.ntmps55
 go_wp2_with (first | ((with_reducible refine gate_callee (f := 63) rfl ?_); refine goesL_ (some 8) rfl rfl Try.func63 sq1 rfl #[.string a0, .string (⟨#[46]⟩ : ByteArray)] rfl sq56 ?_; (with_reducible refine (strings_Cut.calls a0 (⟨#[46]⟩ : ByteArray) t143 t144 false _ ?side1 A2.out).mono ?_); (case side1 => (refine Glob.drawn HG.out ?_; repeat (first | exact Drawn0.refl _ | apply Drawn0.step))); rintro e w' ⟨rfl, ⟨nd, rfl⟩⟩; refine ⟨_, rfl, ?_⟩))
 go_ret
 exact ⟨sq4, sq7⟩

/-! ### clause_amiss: function 49 -/
def clause_amiss.f (a0 : ByteArray) (a1 : Bool) : Option (Int) := (clause_many.f a0).bind fun t146 => (if t146 > 18 then (some 172) else ((clause_early.f a0).bind fun t147 => (if t147 = true then (some 2) else (if a1 = true then ((clause_pennies.f a0).bind fun t148 => (if t148 = true then (some 0) else (some 2))) else (some 0)))))
set_option maxHeartbeats 8000000 in
set_option maxRecDepth 100000 in
theorem clause_amiss.calls (a0 : ByteArray) (a1 : Bool) (r : Int) (w : World) (hG : Glob w) (h : clause_amiss.f a0 a1 = some r) :
  Calls Try.prog 49 #[.string a0, .bool a1] w fun e w' => e = .returned (.int .i64 r) ∧ Drawn0 w w' := by
 have HG := Aside0.mk hG
 clear hG
 have H : ((clause_many.f a0).bind fun t146 => (if t146 > 18 then (some 172) else ((clause_early.f a0).bind fun t147 => (if t147 = true then (some 2) else (if a1 = true then ((clause_pennies.f a0).bind fun t148 => (if t148 = true then (some 0) else (some 2))) else (some 0)))))) = some r := h
 clear h
 replace H := Option.bind_eq_some_iff.mp H
 obtain ⟨t146, A30, H⟩ := H
 replace H : (if t146 > 18 then (some 172) else ((clause_early.f a0).bind fun t147 => (if t147 = true then (some 2) else (if a1 = true then ((clause_pennies.f a0).bind fun t148 => (if t148 = true then (some 0) else (some 2))) else (some 0))))) = some r := H
 have A3 := Aside0.mk A30
 clear A30
 by_cases c4 : t146 > 18
 ·rw [if_pos c4] at H
  have c4b0 : decide (18 < t146) = true := decide_eq_true c4; clear c4
  obtain rfl := Option.some.inj H
  go_enter Try.func49, Try.ntmps49
  go_wp2_with (first | ((with_reducible refine gate_callee (f := 53) rfl ?_); refine goesL_ (some 7) rfl rfl Try.func53 sq1 rfl #[.string a0] rfl sq56 ?_; (with_reducible refine (clause_many.calls a0 t146 _ A3.out).mono ?_); rintro e w' ⟨rfl, ⟨nd, rfl⟩⟩; refine ⟨_, rfl, ?_⟩))
  go_ret
  exact ⟨sq4, sq7⟩
 rw [if_neg c4] at H
 have c4b0 : decide (18 < t146) = false := decide_eq_false c4; clear c4
 replace H := Option.bind_eq_some_iff.mp H
 obtain ⟨t147, A50, H⟩ := H
 replace H : (if t147 = true then (some 2) else (if a1 = true then ((clause_pennies.f a0).bind fun t148 => (if t148 = true then (some 0) else (some 2))) else (some 0))) = some r := H
 have A5 := Aside0.mk A50
 clear A50
 by_cases c6 : t147 = true
 ·subst c6
  replace H := (itT_ _ _).symm.trans H
  obtain rfl := Option.some.inj H
  go_enter Try.func49, Try.ntmps49
  go_wp2_with (first | ((with_reducible refine gate_callee (f := 53) rfl ?_); refine goesL_ (some 7) rfl rfl Try.func53 sq1 rfl #[.string a0] rfl sq56 ?_; (with_reducible refine (clause_many.calls a0 t146 _ A3.out).mono ?_); rintro e w' ⟨rfl, ⟨nd, rfl⟩⟩; refine ⟨_, rfl, ?_⟩) | ((with_reducible refine gate_callee (f := 54) rfl ?_); refine goesL_ (some 11) rfl rfl Try.func54 sq1 rfl #[.string a0] rfl sq56 ?_; (with_reducible refine (clause_early.calls a0 true _ ?side1 A5.out).mono ?_); (case side1 => (refine Glob.drawn HG.out ?_; repeat (first | exact Drawn0.refl _ | apply Drawn0.step))); rintro e w' ⟨rfl, ⟨nd, rfl⟩⟩; refine ⟨_, rfl, ?_⟩))
  go_ret
  exact ⟨sq4, sq7⟩
 replace c6 := Bool.eq_false_iff.mpr c6
 subst c6
 replace H := (itF_ _ _).symm.trans H
 by_cases c7 : a1 = true
 ·subst c7
  replace H := (itT_ _ _).symm.trans H
  replace H := Option.bind_eq_some_iff.mp H
  obtain ⟨t148, A80, H⟩ := H
  replace H : (if t148 = true then (some 0) else (some 2)) = some r := H
  have A8 := Aside0.mk A80
  clear A80
  by_cases c9 : t148 = true
  ·subst c9
   replace H := (itT_ _ _).symm.trans H
   obtain rfl := Option.some.inj H
   go_enter Try.func49, Try.ntmps49
   go_wp2_with (first | ((with_reducible refine gate_callee (f := 53) rfl ?_); refine goesL_ (some 7) rfl rfl Try.func53 sq1 rfl #[.string a0] rfl sq56 ?_; (with_reducible refine (clause_many.calls a0 t146 _ A3.out).mono ?_); rintro e w' ⟨rfl, ⟨nd, rfl⟩⟩; refine ⟨_, rfl, ?_⟩) | ((with_reducible refine gate_callee (f := 54) rfl ?_); refine goesL_ (some 11) rfl rfl Try.func54 sq1 rfl #[.string a0] rfl sq56 ?_; (with_reducible refine (clause_early.calls a0 false _ ?side1 A5.out).mono ?_); (case side1 => (refine Glob.drawn HG.out ?_; repeat (first | exact Drawn0.refl _ | apply Drawn0.step))); rintro e w' ⟨rfl, ⟨nd, rfl⟩⟩; refine ⟨_, rfl, ?_⟩) | (go_at_call 55; (with_reducible refine (clause_pennies.calls a0 true _ ?side1 A8.out).mono ?_); (case side1 => (refine Glob.drawn HG.out ?_; repeat (first | exact Drawn0.refl _ | apply Drawn0.step))); rintro e w' ⟨rfl, ⟨nd, rfl⟩⟩))
   go_ret
   exact ⟨sq4, sq7⟩
  replace c9 := Bool.eq_false_iff.mpr c9
  subst c9
  replace H := (itF_ _ _).symm.trans H
  obtain rfl := Option.some.inj H
  go_enter Try.func49, Try.ntmps49
  go_wp2_with (first | ((with_reducible refine gate_callee (f := 53) rfl ?_); refine goesL_ (some 7) rfl rfl Try.func53 sq1 rfl #[.string a0] rfl sq56 ?_; (with_reducible refine (clause_many.calls a0 t146 _ A3.out).mono ?_); rintro e w' ⟨rfl, ⟨nd, rfl⟩⟩; refine ⟨_, rfl, ?_⟩) | ((with_reducible refine gate_callee (f := 54) rfl ?_); refine goesL_ (some 11) rfl rfl Try.func54 sq1 rfl #[.string a0] rfl sq56 ?_; (with_reducible refine (clause_early.calls a0 false _ ?side1 A5.out).mono ?_); (case side1 => (refine Glob.drawn HG.out ?_; repeat (first | exact Drawn0.refl _ | apply Drawn0.step))); rintro e w' ⟨rfl, ⟨nd, rfl⟩⟩; refine ⟨_, rfl, ?_⟩) | (go_at_call 55; (with_reducible refine (clause_pennies.calls a0 false _ ?side1 A8.out).mono ?_); (case side1 => (refine Glob.drawn HG.out ?_; repeat (first | exact Drawn0.refl _ | apply Drawn0.step))); rintro e w' ⟨rfl, ⟨nd, rfl⟩⟩))
  go_ret
  exact ⟨sq4, sq7⟩
 replace c7 := Bool.eq_false_iff.mpr c7
 subst c7
 replace H := (itF_ _ _).symm.trans H
 obtain rfl := Option.some.inj H
 go_enter Try.func49, Try.ntmps49
 go_wp2_with (first | ((with_reducible refine gate_callee (f := 53) rfl ?_); refine goesL_ (some 7) rfl rfl Try.func53 sq1 rfl #[.string a0] rfl sq56 ?_; (with_reducible refine (clause_many.calls a0 t146 _ A3.out).mono ?_); rintro e w' ⟨rfl, ⟨nd, rfl⟩⟩; refine ⟨_, rfl, ?_⟩) | ((with_reducible refine gate_callee (f := 54) rfl ?_); refine goesL_ (some 11) rfl rfl Try.func54 sq1 rfl #[.string a0] rfl sq56 ?_; (with_reducible refine (clause_early.calls a0 false _ ?side1 A5.out).mono ?_); (case side1 => (refine Glob.drawn HG.out ?_; repeat (first | exact Drawn0.refl _ | apply Drawn0.step))); rintro e w' ⟨rfl, ⟨nd, rfl⟩⟩; refine ⟨_, rfl, ?_⟩))
 go_ret
 exact ⟨sq4, sq7⟩

/-! ### clause_number: function 44 -/
def clause_number.f (a0 : ByteArray) (a1 : Bool) : Option (Bool) := (clause_figures.f a0).bind fun t149 => (if t149 = (a0.size : Int) then (if a0.toList = ([] : List UInt8) then (some false) else ((clause_amiss.f a0 a1).bind fun t150 => (some (t150 == 0)))) else (some false))
set_option maxHeartbeats 8000000 in
set_option maxRecDepth 100000 in
theorem clause_number.calls (a0 : ByteArray) (a1 : Bool) (r : Bool) (w : World) (hG : Glob w) (h : clause_number.f a0 a1 = some r) :
  Calls Try.prog 44 #[.string a0, .bool a1] w fun e w' => e = .returned (.bool r) ∧ Drawn0 w w' := by
 have HG := Aside0.mk hG
 clear hG
 have H : ((clause_figures.f a0).bind fun t149 => (if t149 = (a0.size : Int) then (if a0.toList = ([] : List UInt8) then (some false) else ((clause_amiss.f a0 a1).bind fun t150 => (some (t150 == 0)))) else (some false))) = some r := h
 clear h
 replace H := Option.bind_eq_some_iff.mp H
 obtain ⟨t149, A30, H⟩ := H
 replace H : (if t149 = (a0.size : Int) then (if a0.toList = ([] : List UInt8) then (some false) else ((clause_amiss.f a0 a1).bind fun t150 => (some (t150 == 0)))) else (some false)) = some r := H
 have A3 := Aside0.mk A30
 clear A30
 by_cases c4 : t149 = (a0.size : Int)
 ·rw [if_pos c4] at H
  have c4b0 : (t149 == (a0.size : Int)) = true := beq_iff_eq.mpr c4
  have c4b1 : (t149 != (a0.size : Int)) = false := bne_eq_false_iff_eq.mpr c4
  clear c4
  by_cases c5 : a0.toList = ([] : List UInt8)
  ·rw [if_pos c5] at H
   have c5b0 : (a0.toList == ([] : List UInt8)) = true := beq_iff_eq.mpr c5
   have c5b1 : (a0.toList != ([] : List UInt8)) = false := bne_eq_false_iff_eq.mpr c5
   clear c5
   obtain rfl := Option.some.inj H
   go_enter Try.func44, Try.ntmps44
   go_wp2_with (first | ((with_reducible refine gate_callee (f := 48) rfl ?_); refine goesL_ (some 6) rfl rfl Try.func48 sq1 rfl #[.string a0] rfl sq56 ?_; (with_reducible refine (clause_figures.calls a0 t149 _ A3.out).mono ?_); rintro e w' ⟨rfl, ⟨nd, rfl⟩⟩; refine ⟨_, rfl, ?_⟩))
   go_ret
   exact ⟨sq4, sq7⟩
  rw [if_neg c5] at H
  have c5b0 : (a0.toList == ([] : List UInt8)) = false := beq_eq_false_iff_ne.mpr c5
  have c5b1 : (a0.toList != ([] : List UInt8)) = true := bne_iff_ne.mpr c5
  replace H := Option.bind_eq_some_iff.mp H
  obtain ⟨t150, A60, H⟩ := H
  replace H : (some (t150 == 0)) = some r := H
  have A6 := Aside0.mk A60
  clear A60
  obtain rfl := Option.some.inj H
  go_enter Try.func44, Try.ntmps44
  go_wp2_with (first | ((with_reducible refine gate_callee (f := 48) rfl ?_); refine goesL_ (some 6) rfl rfl Try.func48 sq1 rfl #[.string a0] rfl sq56 ?_; (with_reducible refine (clause_figures.calls a0 t149 _ A3.out).mono ?_); rintro e w' ⟨rfl, ⟨nd, rfl⟩⟩; refine ⟨_, rfl, ?_⟩) | (go_at_call 49; (with_reducible refine (clause_amiss.calls a0 a1 t150 _ ?side1 A6.out).mono ?_); (case side1 => (refine Glob.drawn HG.out ?_; repeat (first | exact Drawn0.refl _ | apply Drawn0.step))); rintro e w' ⟨rfl, ⟨nd, rfl⟩⟩))
  go_ret
  exact ⟨sq4, sq7⟩
 rw [if_neg c4] at H
 have c4b0 : (t149 == (a0.size : Int)) = false := beq_eq_false_iff_ne.mpr c4
 have c4b1 : (t149 != (a0.size : Int)) = true := bne_iff_ne.mpr c4
 obtain rfl := Option.some.inj H
 go_enter Try.func44, Try.ntmps44
 go_wp2_with (first | ((with_reducible refine gate_callee (f := 48) rfl ?_); refine goesL_ (some 6) rfl rfl Try.func48 sq1 rfl #[.string a0] rfl sq56 ?_; (with_reducible refine (clause_figures.calls a0 t149 _ A3.out).mono ?_); rintro e w' ⟨rfl, ⟨nd, rfl⟩⟩; refine ⟨_, rfl, ?_⟩))
 go_ret
 exact ⟨sq4, sq7⟩

/-! ### stringslite_HasSuffix: function 56 -/
def stringslite_HasSuffix.f (a0 : ByteArray) (a1 : ByteArray) : Option (Bool) := if (a0.size : Int) ≥ (a1.size : Int) then (if 0 ≤ (wrap64 ((a0.size : Int) - (a1.size : Int))) then (if (wrap64 ((a0.size : Int) - (a1.size : Int))) ≤ (a0.size : Int) then (some ((a0.extract ((wrap64 ((a0.size : Int) - (a1.size : Int))) : Int).toNat a0.size).toList == a1.toList)) else (none)) else (none)) else (some false)
set_option maxHeartbeats 8000000 in
set_option maxRecDepth 100000 in
theorem stringslite_HasSuffix.calls (a0 : ByteArray) (a1 : ByteArray) (r : Bool) (w : World) (h : stringslite_HasSuffix.f a0 a1 = some r) :
  Calls Try.prog 56 #[.string a0, .string a1] w fun e w' => e = .returned (.bool r) ∧ Drawn0 w w' := by
 have H : (if (a0.size : Int) ≥ (a1.size : Int) then (if 0 ≤ (wrap64 ((a0.size : Int) - (a1.size : Int))) then (if (wrap64 ((a0.size : Int) - (a1.size : Int))) ≤ (a0.size : Int) then (some ((a0.extract ((wrap64 ((a0.size : Int) - (a1.size : Int))) : Int).toNat a0.size).toList == a1.toList)) else (none)) else (none)) else (some false)) = some r := h
 clear h
 by_cases c3 : (a0.size : Int) ≥ (a1.size : Int)
 ·rw [if_pos c3] at H
  have c3b0 : decide ((a1.size : Int) ≤ (a0.size : Int)) = true := decide_eq_true c3
  have c3b1 : decide (a1.size ≤ a0.size) = true := decide_eq_true (Int.ofNat_le.mp c3)
  clear c3
  obtain ⟨ji4, hji4⟩ : ∃ j_ : Int, (wrap64 ((a0.size : Int) - (a1.size : Int))) = j_ := ⟨_, rfl⟩
  replace H : (if 0 ≤ (ji4) then (if (ji4) ≤ (a0.size : Int) then (some ((a0.extract ((ji4) : Int).toNat a0.size).toList == a1.toList)) else (none)) else (none)) = some r := by first | (rw [hji4] at H; exact H) | (simp only [hji4] at H ⊢; exact H)
  have hji4w : (IntKind.i64.wrap ((a0.size : Int) - (a1.size : Int))) = ji4 := (i64_w _).trans hji4
  by_cases c5 : 0 ≤ (ji4)
  ·rw [if_pos c5] at H
   have c5b0 := eq_true c5
   have c5b1 : decide (0 ≤ (ji4)) = true := decide_eq_true c5
   clear c5
   by_cases c6 : (ji4) ≤ (a0.size : Int)
   ·rw [if_pos c6] at H
    have c6b0 := eq_true c6
    have c6b1 : decide ((ji4) ≤ (a0.size : Int)) = true := decide_eq_true c6
    clear c6
    obtain rfl := Option.some.inj H
    go_enter Try.func56, Try.ntmps56
    go_wp2
    go_ret
    exact ⟨by first | rfl | (simp; done) | (simp only [← hji4] <;> (first | rfl | simp)) | (simp [*]; done), sq7⟩
   rw [if_neg c6] at H
   exact absurd H (by simp)
  rw [if_neg c5] at H
  exact absurd H (by simp)
 rw [if_neg c3] at H
 have c3b0 : decide ((a1.size : Int) ≤ (a0.size : Int)) = false := decide_eq_false c3
 have c3b1 : decide (a1.size ≤ a0.size) = false := decide_eq_false (fun h => c3 (Int.ofNat_le.mpr h))
 clear c3
 obtain rfl := Option.some.inj H
 go_enter Try.func56, Try.ntmps56
 go_wp2
 go_ret
 exact ⟨sq4, sq7⟩

/-! ### stringslite_TrimSuffix: function 50 -/
def stringslite_TrimSuffix.f (a0 : ByteArray) (a1 : ByteArray) : Option (ByteArray) := (stringslite_HasSuffix.f a0 a1).bind fun t151 => (if t151 = true then (if 0 ≤ (wrap64 ((a0.size : Int) - (a1.size : Int))) then (if (wrap64 ((a0.size : Int) - (a1.size : Int))) ≤ (a0.size : Int) then (some (a0.extract 0 ((wrap64 ((a0.size : Int) - (a1.size : Int))) : Int).toNat)) else (none)) else (none)) else (some a0))
set_option maxHeartbeats 8000000 in
set_option maxRecDepth 100000 in
theorem stringslite_TrimSuffix.calls (a0 : ByteArray) (a1 : ByteArray) (r : ByteArray) (w : World) (h : stringslite_TrimSuffix.f a0 a1 = some r) :
  Calls Try.prog 50 #[.string a0, .string a1] w fun e w' => e = .returned (.string r) ∧ Drawn0 w w' := by
 have H : ((stringslite_HasSuffix.f a0 a1).bind fun t151 => (if t151 = true then (if 0 ≤ (wrap64 ((a0.size : Int) - (a1.size : Int))) then (if (wrap64 ((a0.size : Int) - (a1.size : Int))) ≤ (a0.size : Int) then (some (a0.extract 0 ((wrap64 ((a0.size : Int) - (a1.size : Int))) : Int).toNat)) else (none)) else (none)) else (some a0))) = some r := h
 clear h
 replace H := Option.bind_eq_some_iff.mp H
 obtain ⟨t151, A30, H⟩ := H
 replace H : (if t151 = true then (if 0 ≤ (wrap64 ((a0.size : Int) - (a1.size : Int))) then (if (wrap64 ((a0.size : Int) - (a1.size : Int))) ≤ (a0.size : Int) then (some (a0.extract 0 ((wrap64 ((a0.size : Int) - (a1.size : Int))) : Int).toNat)) else (none)) else (none)) else (some a0)) = some r := H
 have A3 := Aside0.mk A30
 clear A30
 by_cases c4 : t151 = true
 ·subst c4
  replace H := (itT_ _ _).symm.trans H
  obtain ⟨ji5, hji5⟩ : ∃ j_ : Int, (wrap64 ((a0.size : Int) - (a1.size : Int))) = j_ := ⟨_, rfl⟩
  replace H : (if 0 ≤ (ji5) then (if (ji5) ≤ (a0.size : Int) then (some (a0.extract 0 ((ji5) : Int).toNat)) else (none)) else (none)) = some r := by first | (rw [hji5] at H; exact H) | (simp only [hji5] at H ⊢; exact H)
  (try rw [hji5] at A3)
  have hji5w : (IntKind.i64.wrap ((a0.size : Int) - (a1.size : Int))) = ji5 := (i64_w _).trans hji5
  by_cases c6 : 0 ≤ (ji5)
  ·rw [if_pos c6] at H
   have c6b0 := eq_true c6
   have c6b1 : decide (0 ≤ (ji5)) = true := decide_eq_true c6
   clear c6
   by_cases c7 : (ji5) ≤ (a0.size : Int)
   ·rw [if_pos c7] at H
    have c7b0 := eq_true c7
    have c7b1 : decide ((ji5) ≤ (a0.size : Int)) = true := decide_eq_true c7
    clear c7
    obtain rfl := Option.some.inj H
    go_enter Try.func50, Try.ntmps50
    go_wp2_with (first | ((with_reducible refine gate_callee (f := 56) rfl ?_); refine goesL_ (some 7) rfl rfl Try.func56 sq1 rfl #[.string a0, .string a1] rfl sq56 ?_; (with_reducible refine (stringslite_HasSuffix.calls a0 a1 true _ A3.out).mono ?_); rintro e w' ⟨rfl, ⟨nd, rfl⟩⟩; refine ⟨_, rfl, ?_⟩))
    go_ret
    exact ⟨by first | rfl | (simp; done) | (simp only [← hji5] <;> (first | rfl | simp)) | (simp [*]; done), sq7⟩
   rw [if_neg c7] at H
   exact absurd H (by simp)
  rw [if_neg c6] at H
  exact absurd H (by simp)
 replace c4 := Bool.eq_false_iff.mpr c4
 subst c4
 replace H := (itF_ _ _).symm.trans H
 obtain rfl := Option.some.inj H
 go_enter Try.func50, Try.ntmps50
 go_wp2_with (first | ((with_reducible refine gate_callee (f := 56) rfl ?_); refine goesL_ (some 7) rfl rfl Try.func56 sq1 rfl #[.string a0, .string a1] rfl sq56 ?_; (with_reducible refine (stringslite_HasSuffix.calls a0 a1 false _ A3.out).mono ?_); rintro e w' ⟨rfl, ⟨nd, rfl⟩⟩; refine ⟨_, rfl, ?_⟩))
 go_ret
 exact ⟨sq4, sq7⟩

/-! ### strings_TrimSuffix: function 45 -/
def strings_TrimSuffix.f (a0 : ByteArray) (a1 : ByteArray) : Option (ByteArray) := (stringslite_TrimSuffix.f a0 a1).bind fun t152 => (some t152)
set_option maxHeartbeats 8000000 in
set_option maxRecDepth 100000 in
theorem strings_TrimSuffix.calls (a0 : ByteArray) (a1 : ByteArray) (r : ByteArray) (w : World) (h : strings_TrimSuffix.f a0 a1 = some r) :
  Calls Try.prog 45 #[.string a0, .string a1] w fun e w' => e = .returned (.string r) ∧ Drawn0 w w' := by
 have H : ((stringslite_TrimSuffix.f a0 a1).bind fun t152 => (some t152)) = some r := h
 clear h
 replace H := Option.bind_eq_some_iff.mp H
 obtain ⟨t152, A30, H⟩ := H
 replace H : (some t152) = some r := H
 have A3 := Aside0.mk A30
 clear A30
 obtain rfl := Option.some.inj H
 go_enter Try.func45, Try.ntmps45
 go_wp2_with (first | ((with_reducible refine gate_callee (f := 50) rfl ?_); refine goesL_ (some 7) rfl rfl Try.func50 sq1 rfl #[.string a0, .string a1] rfl sq56 ?_; (with_reducible refine (stringslite_TrimSuffix.calls a0 a1 t152 _ A3.out).mono ?_); rintro e w' ⟨rfl, ⟨nd, rfl⟩⟩; refine ⟨_, rfl, ?_⟩))
 go_ret
 exact ⟨sq4, sq7⟩

/-! ### stringslite_HasPrefix: function 57 -/
def stringslite_HasPrefix.f (a0 : ByteArray) (a1 : ByteArray) : Option (Bool) := if (a0.size : Int) ≥ (a1.size : Int) then (if 0 ≤ (a1.size : Int) then (if (a1.size : Int) ≤ (a0.size : Int) then (some ((a0.extract 0 ((a1.size : Int) : Int).toNat).toList == a1.toList)) else (none)) else (none)) else (some false)
set_option maxHeartbeats 8000000 in
set_option maxRecDepth 100000 in
theorem stringslite_HasPrefix.calls (a0 : ByteArray) (a1 : ByteArray) (r : Bool) (w : World) (h : stringslite_HasPrefix.f a0 a1 = some r) :
  Calls Try.prog 57 #[.string a0, .string a1] w fun e w' => e = .returned (.bool r) ∧ Drawn0 w w' := by
 have H : (if (a0.size : Int) ≥ (a1.size : Int) then (if 0 ≤ (a1.size : Int) then (if (a1.size : Int) ≤ (a0.size : Int) then (some ((a0.extract 0 ((a1.size : Int) : Int).toNat).toList == a1.toList)) else (none)) else (none)) else (some false)) = some r := h
 clear h
 by_cases c3 : (a0.size : Int) ≥ (a1.size : Int)
 ·rw [if_pos c3] at H
  have c3b0 : decide ((a1.size : Int) ≤ (a0.size : Int)) = true := decide_eq_true c3
  have c3b1 : decide (a1.size ≤ a0.size) = true := decide_eq_true (Int.ofNat_le.mp c3)
  clear c3
  by_cases c4 : 0 ≤ (a1.size : Int)
  ·rw [if_pos c4] at H
   have c4b0 := eq_true c4
   have c4b1 : decide (0 ≤ (a1.size : Int)) = true := decide_eq_true c4
   clear c4
   by_cases c5 : (a1.size : Int) ≤ (a0.size : Int)
   ·rw [if_pos c5] at H
    have c5b0 := eq_true c5
    have c5b1 : decide ((a1.size : Int) ≤ (a0.size : Int)) = true := decide_eq_true c5
    clear c5
    obtain rfl := Option.some.inj H
    go_enter Try.func57, Try.ntmps57
    go_wp2
    go_ret
    exact ⟨sq4, sq7⟩
   rw [if_neg c5] at H
   exact absurd H (by simp)
  rw [if_neg c4] at H
  exact absurd H (by simp)
 rw [if_neg c3] at H
 have c3b0 : decide ((a1.size : Int) ≤ (a0.size : Int)) = false := decide_eq_false c3
 have c3b1 : decide (a1.size ≤ a0.size) = false := decide_eq_false (fun h => c3 (Int.ofNat_le.mpr h))
 clear c3
 obtain rfl := Option.some.inj H
 go_enter Try.func57, Try.ntmps57
 go_wp2
 go_ret
 exact ⟨sq4, sq7⟩

/-! ### stringslite_CutPrefix: function 51 -/
def stringslite_CutPrefix.f (a0 : ByteArray) (a1 : ByteArray) : Option (ByteArray × Bool) := (stringslite_HasPrefix.f a0 a1).bind fun t153 => (if t153 = true then (if 0 ≤ (a1.size : Int) then (if (a1.size : Int) ≤ (a0.size : Int) then (some (a0.extract ((a1.size : Int) : Int).toNat a0.size, true)) else (none)) else (none)) else (some (a0, false)))
set_option maxHeartbeats 8000000 in
set_option maxRecDepth 100000 in
theorem stringslite_CutPrefix.calls (a0 : ByteArray) (a1 : ByteArray) (r1 : ByteArray) (r2 : Bool) (w : World) (h : stringslite_CutPrefix.f a0 a1 = some (r1, r2)) :
  Calls Try.prog 51 #[.string a0, .string a1] w fun e w' => e = .returned (.tuple #[.string r1, .bool r2]) ∧ Drawn0 w w' := by
 have H : ((stringslite_HasPrefix.f a0 a1).bind fun t153 => (if t153 = true then (if 0 ≤ (a1.size : Int) then (if (a1.size : Int) ≤ (a0.size : Int) then (some (a0.extract ((a1.size : Int) : Int).toNat a0.size, true)) else (none)) else (none)) else (some (a0, false)))) = some (r1, r2) := h
 clear h
 replace H := Option.bind_eq_some_iff.mp H
 obtain ⟨t153, A30, H⟩ := H
 replace H : (if t153 = true then (if 0 ≤ (a1.size : Int) then (if (a1.size : Int) ≤ (a0.size : Int) then (some (a0.extract ((a1.size : Int) : Int).toNat a0.size, true)) else (none)) else (none)) else (some (a0, false))) = some (r1, r2) := H
 have A3 := Aside0.mk A30
 clear A30
 by_cases c4 : t153 = true
 ·subst c4
  replace H := (itT_ _ _).symm.trans H
  by_cases c5 : 0 ≤ (a1.size : Int)
  ·rw [if_pos c5] at H
   have c5b0 := eq_true c5
   have c5b1 : decide (0 ≤ (a1.size : Int)) = true := decide_eq_true c5
   clear c5
   by_cases c6 : (a1.size : Int) ≤ (a0.size : Int)
   ·rw [if_pos c6] at H
    have c6b0 := eq_true c6
    have c6b1 : decide ((a1.size : Int) ≤ (a0.size : Int)) = true := decide_eq_true c6
    clear c6
    simp only [Option.some.injEq, Prod.mk.injEq] at H
    obtain ⟨rfl, rfl⟩ := H
    go_enter Try.func51, Try.ntmps51
    go_wp2_with (first | ((with_reducible refine gate_callee (f := 57) rfl ?_); refine goesL_ (some 8) rfl rfl Try.func57 sq1 rfl #[.string a0, .string a1] rfl sq56 ?_; (with_reducible refine (stringslite_HasPrefix.calls a0 a1 true _ A3.out).mono ?_); rintro e w' ⟨rfl, ⟨nd, rfl⟩⟩; refine ⟨_, rfl, ?_⟩))
    go_ret2
    exact ⟨sq4, sq7⟩
   rw [if_neg c6] at H
   exact absurd H (by simp)
  rw [if_neg c5] at H
  exact absurd H (by simp)
 replace c4 := Bool.eq_false_iff.mpr c4
 subst c4
 replace H := (itF_ _ _).symm.trans H
 simp only [Option.some.injEq, Prod.mk.injEq] at H
 obtain ⟨rfl, rfl⟩ := H
 go_enter Try.func51, Try.ntmps51
 go_wp2_with (first | ((with_reducible refine gate_callee (f := 57) rfl ?_); refine goesL_ (some 8) rfl rfl Try.func57 sq1 rfl #[.string a0, .string a1] rfl sq56 ?_; (with_reducible refine (stringslite_HasPrefix.calls a0 a1 false _ A3.out).mono ?_); rintro e w' ⟨rfl, ⟨nd, rfl⟩⟩; refine ⟨_, rfl, ?_⟩))
 go_ret2
 exact ⟨sq4, sq7⟩

/-! ### strings_CutPrefix: function 46 -/
def strings_CutPrefix.f (a0 : ByteArray) (a1 : ByteArray) : Option (ByteArray × Bool) := (stringslite_CutPrefix.f a0 a1).bind fun bt154 => (some (bt154.1, bt154.2))
set_option maxHeartbeats 8000000 in
set_option maxRecDepth 100000 in
theorem strings_CutPrefix.calls (a0 : ByteArray) (a1 : ByteArray) (r1 : ByteArray) (r2 : Bool) (w : World) (h : strings_CutPrefix.f a0 a1 = some (r1, r2)) :
  Calls Try.prog 46 #[.string a0, .string a1] w fun e w' => e = .returned (.tuple #[.string r1, .bool r2]) ∧ Drawn0 w w' := by
 have H : ((stringslite_CutPrefix.f a0 a1).bind fun bt154 => (some (bt154.1, bt154.2))) = some (r1, r2) := h
 clear h
 replace H := Option.bind_eq_some_iff.mp H
 obtain ⟨⟨t154, t155⟩, A30, H⟩ := H
 replace H : (some (t154, t155)) = some (r1, r2) := H
 have A3 := Aside0.mk A30
 clear A30
 simp only [Option.some.injEq, Prod.mk.injEq] at H
 obtain ⟨rfl, rfl⟩ := H
 go_enter Try.func46, Try.ntmps46
 go_wp2_with (first | ((with_reducible refine gate_callee (f := 51) rfl ?_); refine goesL_ (some 8) rfl rfl Try.func51 sq1 rfl #[.string a0, .string a1] rfl sq56 ?_; (with_reducible refine (stringslite_CutPrefix.calls a0 a1 t154 t155 _ A3.out).mono ?_); rintro e w' ⟨rfl, ⟨nd, rfl⟩⟩; refine ⟨_, rfl, ?_⟩))
 go_ret2
 exact ⟨sq4, sq7⟩

end Go.Proofs.Ytaogejkmkalnlaa.PAll
