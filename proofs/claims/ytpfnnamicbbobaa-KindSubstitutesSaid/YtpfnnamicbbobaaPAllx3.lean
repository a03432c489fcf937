-- Written by a program of this session (wip/tools/print2.sh): functions as plain Lean, and that the machine's calls do what they say.
import Derived.Test.YtpfnnamicbbobaaPAllx0
import Derived.Test.YtpfnnamicbbobaaPAllx2
namespace Go.Proofs.Ytpfnnamicbbobaa.PAll
open Go.RowKit Go.Proofs.YtpfnnamicbbobaaW.PrintWords Go.Proofs.YtpfnnamicbbobaaW.PrintLast Go.Proofs.YtpfnnamicbbobaaW.PrintMore
attribute [local go_sem] max2_int min2_int max_two min_two max_three min_three max_four min_four   -- for this text's walks alone
set_option linter.unusedVariables false
set_option linter.unusedSimpArgs false

/-! ### kind_node: function 42 -/
mutual
def kind_node.j0 : Nat → List Int → Int → Bool → Option (Int)
 | 0, _, _, _ => none
 | k + 1, x1, x5, x10 => if x10 = true then (some 3) else (if x5 = 7 then (if 0 < (x1.length : Int) then ((kind_when.f ((rd x1 0) == 3) 3).bind fun t105 => (some t105)) else (none)) else (if x5 = 8 then (if 0 < (x1.length : Int) then (if 1 < (x1.length : Int) then ((kind_product.f k (rd x1 0) (rd x1 1)).bind fun t108 => (some t108)) else (none)) else (none)) else (if x5 = 9 then (if 0 < (x1.length : Int) then (if 1 < (x1.length : Int) then ((kind_quotient.f k (rd x1 0) (rd x1 1)).bind fun t111 => (some t111)) else (none)) else (none)) else (if x5 = 12 then (kind_node.j1 k x1 x5 (x5 == 12)) else (if x5 = 13 then (kind_node.j1 k x1 x5 (x5 == 13)) else (if x5 = 14 then (kind_node.j1 k x1 x5 (x5 == 14)) else (kind_node.j1 k x1 x5 (x5 == 15))))))))
def kind_node.j1 : Nat → List Int → Int → Bool → Option (Int)
 | 0, _, _, _ => none
 | k + 1, x1, x5, x38 => if x38 = true then ((kind_alike.f x1).bind fun t112 => ((kind_when.f t112 3).bind fun t113 => (some t113))) else (if x5 = 16 then (kind_node.j2 k x1 x5 (x5 == 16)) else (kind_node.j2 k x1 x5 (x5 == 17)))
def kind_node.j2 : Nat → List Int → Int → Bool → Option (Int)
 | 0, _, _, _ => none
 | k + 1, x1, x5, x46 => if x46 = true then (if 0 < (x1.length : Int) then (if 1 < (x1.length : Int) then ((kind_when.f ((rd x1 0) == (rd x1 1)) 3).bind fun t116 => (some t116)) else (none)) else (none)) else (if x5 = 18 then (kind_node.j3 k x1 x5 (x5 == 18)) else (kind_node.j3 k x1 x5 (x5 == 19)))
def kind_node.j3 : Nat → List Int → Int → Bool → Option (Int)
 | 0, _, _, _ => none
 | k + 1, x1, x5, x57 => if x57 = true then (if 0 < (x1.length : Int) then (if (rd x1 0) = 3 then (if 1 < (x1.length : Int) then ((kind_when.f ((rd x1 1) == 3) 3).bind fun t119 => (some t119)) else (none)) else ((kind_when.f false 3).bind fun t120 => (some t120))) else (none)) else (if x5 = 20 then (if 0 < (x1.length : Int) then (if (rd x1 0) = 3 then (if 1 < (x1.length : Int) then (if 2 < (x1.length : Int) then ((kind_when.f ((rd x1 1) == (rd x1 2)) (rd x1 1)).bind fun t125 => (some t125)) else (none)) else (none)) else (if 1 < (x1.length : Int) then ((kind_when.f false (rd x1 1)).bind fun t127 => (some t127)) else (none))) else (none)) else ((kind_alike.f x1).bind fun t128 => (if 0 < (x1.length : Int) then ((kind_when.f t128 (rd x1 0)).bind fun t130 => (some t130)) else (none))))
end
def kind_node.f (k : Nat) (a0 : Int) (l1 : List Int) : Option (Int) := if a0 = 1 then (some 1) else (if a0 = 2 then (some 2) else (if a0 = 3 then (kind_node.j0 k l1 a0 (a0 == 3)) else (kind_node.j0 k l1 a0 (a0 == 4))))
theorem kind_node.mono_l : ∀ k, (∀ y0 y1 y2, LeO (kind_node.j0 k y0 y1 y2) (kind_node.j0 (k + 1) y0 y1 y2)) ∧ (∀ y0 y1 y2, LeO (kind_node.j1 k y0 y1 y2) (kind_node.j1 (k + 1) y0 y1 y2)) ∧ (∀ y0 y1 y2, LeO (kind_node.j2 k y0 y1 y2) (kind_node.j2 (k + 1) y0 y1 y2)) ∧ (∀ y0 y1 y2, LeO (kind_node.j3 k y0 y1 y2) (kind_node.j3 (k + 1) y0 y1 y2))
 | 0 => ⟨fun _ _ _ r h => by simp [kind_node.j0] at h, fun _ _ _ r h => by simp [kind_node.j1] at h, fun _ _ _ r h => by simp [kind_node.j2] at h, fun _ _ _ r h => by simp [kind_node.j3] at h⟩
 | k + 1 => by
  obtain ⟨ih0, ih1, ih2, ih3⟩ := kind_node.mono_l k
  refine ⟨?_, ?_, ?_, ?_⟩
  ·intro y0 y1 y2
   unfold kind_node.j0
   exact sq138
  ·intro y0 y1 y2
   unfold kind_node.j1
   exact sq138
  ·intro y0 y1 y2
   unfold kind_node.j2
   exact sq138
  intro y0 y1 y2
  unfold kind_node.j3
  exact sq138
theorem kind_node.mono : ∀ a0 a1 k, LeO (kind_node.f k a0 a1) (kind_node.f (k + 1) a0 a1) := by
 intro a0 a1 k
 obtain ⟨ih0, ih1, ih2, ih3⟩ := kind_node.mono_l k
 unfold kind_node.f
 exact sq138
def kind_node.T12 : Bool × List (List Nat × List Nat) := (true, [([], []), ([0], [0]), ([1], [1]), ([], []), ([3], [3]), ([4], [4]), ([2, 5], [2, 5]), ([6, 6, 0, 1, 2, 3, 4, 5, 6], [6])])
def kind_node.B12 : List Nat := [0, 1, 3, 0, 8, 24, 63, 127]
theorem kind_node.tab12 : rtab .any (opsOf Try.f42 12) = kind_node.T12 := by kernel_rfl
theorem kind_node.bits12 : waitsOk kind_node.T12.2 kind_node.B12 = true := by kernel_rfl
def kind_node.T14 : Bool × List (List Nat × List Nat) := (true, [([], []), ([0], [0]), ([1], [1]), ([], []), ([3], [3]), ([4], [4]), ([2, 5], [2, 5]), ([6, 6, 0, 1, 2, 3, 4, 5, 6], [6])])
def kind_node.B14 : List Nat := [0, 1, 3, 0, 8, 24, 63, 127]
theorem kind_node.tab14 : rtab .any (opsOf Try.f42 14) = kind_node.T14 := by kernel_rfl
theorem kind_node.bits14 : waitsOk kind_node.T14.2 kind_node.B14 = true := by kernel_rfl
def kind_node.T22 : Bool × List (List Nat × List Nat) := (true, [([], []), ([0], [0]), ([1], [1]), ([], []), ([3], [3]), ([4], [4]), ([2, 5], [2, 5]), ([6], [6]), ([7, 7, 0, 1, 2, 3, 4, 5, 6, 7], [7])])
def kind_node.B22 : List Nat := [0, 1, 3, 0, 8, 24, 63, 127, 255]
theorem kind_node.tab22 : rtab .any (opsOf Try.f42 22) = kind_node.T22 := by kernel_rfl
theorem kind_node.bits22 : waitsOk kind_node.T22.2 kind_node.B22 = true := by kernel_rfl
def kind_node.T27 : Bool × List (List Nat × List Nat) := (true, [([], []), ([0], [0]), ([1], [1]), ([2], [2]), ([3], [3]), ([4], [4]), ([5, 4], [4, 5]), ([6, 4], [4, 6]), ([4], [4]), ([8, 4], [4, 8]), ([9, 4], [4, 9]), ([7, 10, 4], [4, 7, 10]), ([4, 11], [4, 11]), ([], []), ([13], [13]), ([14], [14]), ([12, 15, 4], [12, 15]), ([16, 16, 0, 1, 2, 3, 4, 5, 6, 7, 8, 9, 10, 11, 12, 13, 14, 15, 16], [16])])
def kind_node.B27 : List Nat := [0, 1, 3, 7, 15, 31, 63, 127, 31, 287, 799, 2047, 4095, 0, 8192, 24576, 65535, 131071]
theorem kind_node.tab27 : rtab .any (opsOf Try.f42 27) = kind_node.T27 := by kernel_rfl
theorem kind_node.bits27 : waitsOk kind_node.T27.2 kind_node.B27 = true := by kernel_rfl
set_option maxHeartbeats 8000000 in
set_option maxRecDepth 100000 in
theorem kind_node.calls (k : Nat) (a0 : Int) (A1 : Option Addr) (c1 : Nat) (l1 : List Int) (r : Int) (w : World) (hr1 : Kd.C (Kd.int .i64) w A1 l1.length l1) (hc1 : l1.length ≤ c1) (h : kind_node.f k a0 l1 = some r) :
  Calls Try.prog 42 #[.int .i64 a0, .slice A1 l1.length c1] w fun e w' => e = .returned (.int .i64 r) ∧ Below w.heap.size w w' := by
 have HR1 := Aside0.mk hr1
 have HC1 := Aside0.mk hc1
 clear hr1 hc1
 have HB := Aside0.mk (Below.refl w.heap.size w)
 have H : (if a0 = 1 then (some 1) else (if a0 = 2 then (some 2) else (if a0 = 3 then (kind_node.j0 k l1 a0 (a0 == 3)) else (kind_node.j0 k l1 a0 (a0 == 4))))) = some r := h
 clear h
 by_cases c3 : a0 = 1
 ·rw [if_pos c3] at H
  have c3b0 : (a0 == 1) = true := beq_iff_eq.mpr c3
  have c3b1 : (a0 != 1) = false := bne_eq_false_iff_eq.mpr c3
  clear c3
  obtain rfl := Option.some.inj H
  go_enter Try.func42, Try.ntmps42
  go_wp2
  go_ret
  exact ⟨sq11, sq50⟩
 rw [if_neg c3] at H
 have c3b0 : (a0 == 1) = false := beq_eq_false_iff_ne.mpr c3
 have c3b1 : (a0 != 1) = true := bne_iff_ne.mpr c3
 by_cases c4 : a0 = 2
 ·rw [if_pos c4] at H
  have c4b0 : (a0 == 2) = true := beq_iff_eq.mpr c4
  have c4b1 : (a0 != 2) = false := bne_eq_false_iff_eq.mpr c4
  clear c4
  obtain rfl := Option.some.inj H
  go_enter Try.func42, Try.ntmps42
  go_wp2
  go_ret
  exact ⟨sq11, sq50⟩
 rw [if_neg c4] at H
 have c4b0 : (a0 == 2) = false := beq_eq_false_iff_ne.mpr c4
 have c4b1 : (a0 != 2) = true := bne_iff_ne.mpr c4
 have HC5 := Aside0.mk H
 clear H
 go_enter Try.func42, Try.ntmps42
 go_upto_if 10 with (fail)
 go_cut [10] (fun v10 wc => ∃ (kq : Nat) (x10_4 : Bool), v10 = .bool x10_4 ∧ Aside0 (kind_node.j0 kq l1 a0 x10_4 = some r) ∧ Aside0 (kq ≤ k) ∧ Aside0 (Below w.heap.size w wc))
 case first =>
  have H := HC5.out
  clear HC5
  by_cases c6 : a0 = 3
  ·rw [if_pos c6] at H
   have c6b0 : (a0 == 3) = true := beq_iff_eq.mpr c6
   have c6b1 : (a0 != 3) = false := bne_eq_false_iff_eq.mpr c6
   clear c6
   (first | rw [c6b0] | (simp only [i64_w, i32_w]; rw [c6b0]) | skip)
   have H' := Aside0.mk H
   clear H
   go_wp2
   go_meet
   case rel => exact ⟨_, ((a0 == 3)), sq5, H', ⟨sq3⟩, ⟨sq50⟩⟩
  rw [if_neg c6] at H
  have c6b0 : (a0 == 3) = false := beq_eq_false_iff_ne.mpr c6
  have c6b1 : (a0 != 3) = true := bne_iff_ne.mpr c6
  (first | rw [c6b0] | (simp only [i64_w, i32_w]; rw [c6b0]) | skip)
  have H' := Aside0.mk H
  clear H
  go_wp2
  go_meet
  case rel => exact ⟨_, ((a0 == 4)), sq5, H', ⟨sq3⟩, ⟨sq50⟩⟩
 case rest =>
  clear HC5; try clear c1; try clear p2; try clear c3; try clear c3b0; try clear c3b1; try clear c4; try clear c4b0; try clear c4b1; try clear c6; try clear c6b0; try clear c6b1
  obtain ⟨kq, x10_4, rfl, HA, HJ4, HB⟩ := hcut
  cases kq with
  | zero => exact absurd HA.out (by simp [kind_node.j0])
  | succ kj4 =>
   have H := HA.out
   clear HA
   simp only [kind_node.j0] at H
   by_cases c7 : x10_4 = true
   ·subst c7
    replace H := (itT_ _ _).symm.trans H
    obtain rfl := Option.some.inj H
    go_wp2
    go_ret
    exact ⟨sq11, sq50⟩
   replace c7 := Bool.eq_false_iff.mpr c7
   subst c7
   replace H := (itF_ _ _).symm.trans H
   by_cases c8 : a0 = 7
   ·rw [if_pos c8] at H
    have c8b0 : (a0 == 7) = true := beq_iff_eq.mpr c8
    have c8b1 : (a0 != 7) = false := bne_eq_false_iff_eq.mpr c8
    clear c8
    by_cases c9 : 0 < (l1.length : Int)
    ·rw [if_pos c9] at H
     have c9b0 : decide (0 < (l1.length : Int)) = true := decide_eq_true c9
     have c9b1 : decide (0 < l1.length) = true := decide_eq_true sq0
     clear c9
     replace H := Option.bind_eq_some_iff.mp H
     obtain ⟨t105, A100, H⟩ := H
     replace H : (some t105) = some r := H
     have A10 := Aside0.mk A100
     clear A100
     obtain rfl := Option.some.inj H
     have p104 : 0 ≤ (0 : Int) := sq0
     have q104 : 0 < (l1.length : Int) := of_decide_eq_true sq6
     obtain ⟨ad104, e104, hx104_0⟩ := Kd.at_int HR1.out 0 p104 q104
     cases e104
     have qi104 : (0 < l1.length) = True := eq_true sq0
     (try rw [show ((0 : Int)).toNat = 0 from rfl] at hx104_0)
     (try rw [Addr.add_zero'] at hx104_0)
     try replace hx104_0 := (HB.out.cell (World.block_lt_of_cell? w _ hx104_0)).trans hx104_0
     replace p104 := eq_true p104
     replace q104 := eq_true q104
     go_wp2_with (first | ((with_reducible refine gate_callee (f := 52) rfl ?_); refine goesL_ (some 19) rfl rfl Try.func52 sq2 rfl #[.bool ((rd l1 0) == 3), .int .i64 3] rfl sq51 ?_; (with_reducible refine (kind_when.calls ((rd l1 0) == 3) 3 t105 _ A10.out).mono ?_); rintro e w' ⟨rfl, ⟨nd, rfl⟩⟩; refine ⟨_, rfl, ?_⟩))
     go_ret
     exact ⟨sq11, sq50⟩
    rw [if_neg c9] at H
    exact absurd H (by simp)
   rw [if_neg c8] at H
   have c8b0 : (a0 == 7) = false := beq_eq_false_iff_ne.mpr c8
   have c8b1 : (a0 != 7) = true := bne_iff_ne.mpr c8
   by_cases c11 : a0 = 8
   ·rw [if_pos c11] at H
    have c11b0 : (a0 == 8) = true := beq_iff_eq.mpr c11
    have c11b1 : (a0 != 8) = false := bne_eq_false_iff_eq.mpr c11
    clear c11
    by_cases c12 : 0 < (l1.length : Int)
    ·rw [if_pos c12] at H
     have c12b0 : decide (0 < (l1.length : Int)) = true := decide_eq_true c12
     have c12b1 : decide (0 < l1.length) = true := decide_eq_true sq0
     clear c12
     by_cases c13 : 1 < (l1.length : Int)
     ·rw [if_pos c13] at H
      have c13b0 : decide (1 < (l1.length : Int)) = true := decide_eq_true c13
      have c13b1 : decide (1 < l1.length) = true := decide_eq_true sq0
      clear c13
      replace H := Option.bind_eq_some_iff.mp H
      obtain ⟨t108, A140, H⟩ := H
      replace H : (some t108) = some r := H
      have A14 := Aside0.mk A140
      clear A140
      obtain rfl := Option.some.inj H
      try go_wp2
      have n0_ := Aside0.mk (below_drew1 HB.out)
      clear HB
      have HB := n0_
      clear n0_
      have p106 : 0 ≤ (0 : Int) := sq0
      have q106 : 0 < (l1.length : Int) := of_decide_eq_true sq6
      obtain ⟨ad106, e106, hx106_0⟩ := Kd.at_int HR1.out 0 p106 q106
      have hw106_0 := hx106_0
      (try rw [show ((0 : Int)).toNat = 0 from rfl] at hw106_0)
      (try rw [show 0 * 1 = 0 from rfl] at hw106_0)
      (try rw [Addr.add_zero'] at hw106_0)
      cases e106
      have qi106 : (0 < l1.length) = True := eq_true sq0
      (try rw [show ((0 : Int)).toNat = 0 from rfl] at hx106_0)
      (try rw [Addr.add_zero'] at hx106_0)
      try replace hx106_0 := (HB.out.cell (World.block_lt_of_cell? w _ hx106_0)).trans hx106_0
      replace p106 := eq_true p106
      replace q106 := eq_true q106
      have p107 : 0 ≤ (1 : Int) := sq0
      have q107 : 1 < (l1.length : Int) := of_decide_eq_true sq6
      obtain ⟨ad107, e107, hx107_0⟩ := Kd.at_int HR1.out 1 p107 q107
      have hw107_0 := hx107_0
      (try rw [show ((1 : Int)).toNat = 1 from rfl] at hw107_0)
      (try rw [show 1 * 1 = 1 from rfl] at hw107_0)
      (try simp only [Nat.reduceMul, Nat.reduceEqDiff, Go.Addr.add, ↓reduceIte] at hw107_0)
      obtain rfl : ad106 = ad107 := (by injection e107)
      (try simp only [show (1 : Int).toNat = 1 from rfl, Nat.reduceMul, Nat.reduceEqDiff, Go.Addr.add, ↓reduceIte] at hx107_0)
      have qi107 : (1 < l1.length) = True := eq_true sq0
      (try rw [show ((1 : Int)).toNat = 1 from rfl] at hx107_0)
      try replace hx107_0 := (HB.out.cell (World.block_lt_of_cell? w _ hx107_0)).trans hx107_0
      replace p107 := eq_true p107
      replace q107 := eq_true q107
      refine start_ (n := 8) (S := fun w' => w'.cell? ad106 = some (.int .i64 (rd l1 0)) ∧ w'.cell? ⟨ad106.block, ad106.off + 1, none⟩ = some (.int .i64 (rd l1 1))) (ds := []) #[false, false, false, false, false, false, false, false] sq2 rfl rfl ⟨((HB.out.cell (World.block_lt_of_cell? w _ hw106_0)).trans hw106_0), ((HB.out.cell (World.block_lt_of_cell? w _ hw107_0)).trans hw107_0)⟩ (fun hHeld => ?_); refine with_tabW kind_node.tab12 kind_node.bits12 (fun HT_ HW_ => ?_)
      generalize wc.drew = w15 at HB hx106_0 hx107_0 hHeld ⊢
      refine pure_ (i := 0) (N := some 22) (v := ?_) (a' := ?_) #[true, false, false, false, false, false, false, false] rfl rfl (any_of HT_.out sq2) (fun _ _ _ h => h) (Or.inl ⟨by rfl, ?_⟩) ?_ ?_
      rotate_left
      ·intro w'
       go_simp
       with_reducible rfl
      rotate_left
      ·simp only [Act.put, List.setIfInBounds_toArray, List.set_cons_zero, List.set_cons_succ, i64_w, i32_w]
       rfl
      refine pure_ (i := 1) (N := some 23) (v := ?_) (a' := ?_) #[true, true, false, false, false, false, false, false] rfl rfl (any_of HT_.out sq2) (fun _ _ _ h => h) (Or.inl ⟨by rfl, ?_⟩) ?_ ?_
      rotate_left
      ·intro w'
       go_simp
       with_reducible rfl
      rotate_left
      ·simp only [Act.put, List.setIfInBounds_toArray, List.set_cons_zero, List.set_cons_succ, i64_w, i32_w]
       rfl
      refine pure_ (i := 3) (N := some 25) (v := ?_) (a' := ?_) #[true, true, false, true, false, false, false, false] rfl rfl (any_of HT_.out sq2) (fun _ _ _ h => h) (Or.inl ⟨by rfl, ?_⟩) ?_ ?_
      rotate_left
      ·intro w'
       go_simp
       with_reducible rfl
      rotate_left
      ·simp only [Act.put, List.setIfInBounds_toArray, List.set_cons_zero, List.set_cons_succ, i64_w, i32_w]
       rfl
      refine pure_ (i := 4) (N := some 26) (v := ?_) (a' := ?_) #[true, true, false, true, true, false, false, false] rfl rfl (any_of HT_.out sq2) (fun _ _ _ h => h) (Or.inl ⟨by rfl, ?_⟩) ?_ ?_
      rotate_left
      ·intro w'
       go_simp
       with_reducible rfl
      rotate_left
      ·simp only [Act.put, List.setIfInBounds_toArray, List.set_cons_zero, List.set_cons_succ, i64_w, i32_w]
       rfl
      refine take_ (i := 2) (N := some 24) (v := ?_) (a' := ?_) #[true, true, true, true, true, false, false, false] rfl rfl (take_ofW HT_.out HW_.out sq2) (fun _ _ _ h => h) (Or.inl ⟨by rfl, ?_⟩) hHeld ?_ ?_
      rotate_left
      ·rintro w' ⟨s0, s1⟩
       go_simp
       with_reducible rfl
      rotate_left
      ·simp only [Act.put, List.setIfInBounds_toArray, List.set_cons_zero, List.set_cons_succ, i64_w, i32_w]
       rfl
      refine take_ (i := 5) (N := some 27) (v := ?_) (a' := ?_) #[true, true, true, true, true, true, false, false] rfl rfl (take_ofW HT_.out HW_.out sq2) (fun _ _ _ h => h) (Or.inl ⟨by rfl, ?_⟩) hHeld ?_ ?_
      rotate_left
      ·rintro w' ⟨s0, s1⟩
       go_simp
       with_reducible rfl
      rotate_left
      ·simp only [Act.put, List.setIfInBounds_toArray, List.set_cons_zero, List.set_cons_succ, i64_w, i32_w]
       rfl
      refine one_ (i := 6) (N := some 28) #[true, true, true, true, true, true, true, false] rfl rfl (one_of HT_.out sq2) sq1 (fun K hK => ?_)
      refine goes_ Try.func53 sq2 rfl #[.int .i64 (rd l1 0), .int .i64 (rd l1 1)] (by rfl) rfl rfl sq51 ?_
      with_reducible refine (kind_product.calls kj4 (rd l1 0) (rd l1 1) t108 _ A14.out).mono ?_
      rintro e w' ⟨rfl, ⟨nd, rfl⟩⟩
      refine ⟨_, rfl, ?_⟩
      refine hK.out _ _ ⟨((HB.out.cell (World.block_lt_of_cell? w _ hw106_0)).trans hw106_0), ((HB.out.cell (World.block_lt_of_cell? w _ hw107_0)).trans hw107_0)⟩ (fun hHeld => ?_)
      clear hK K
      refine norm_ (a' := ?_) ?_ ?_
      rotate_left
      ·show Act.put _ (some 28) _ = _
       simp only [Act.put, List.setIfInBounds_toArray, List.set_cons_zero, List.set_cons_succ, i64_w, i32_w]
       rfl
      refine pure_ (i := 7) (N := some 4) (v := ?_) (a' := ?_) #[true, true, true, true, true, true, true, true] rfl rfl (any_of HT_.out sq2) (fun _ _ _ h => h) (Or.inl ⟨by rfl, ?_⟩) ?_ ?_
      rotate_left
      ·intro w'
       go_simp
       with_reducible rfl
      rotate_left
      ·simp only [Act.put, List.setIfInBounds_toArray, List.set_cons_zero, List.set_cons_succ, i64_w, i32_w]
       rfl
      refine done_ (done_of HT_.out sq2) ?_
      try go_wp2
      go_ret
      exact ⟨sq11, sq50⟩
     rw [if_neg c13] at H
     exact absurd H (by simp)
    rw [if_neg c12] at H
    exact absurd H (by simp)
   rw [if_neg c11] at H
   have c11b0 : (a0 == 8) = false := beq_eq_false_iff_ne.mpr c11
   have c11b1 : (a0 != 8) = true := bne_iff_ne.mpr c11
   by_cases c16 : a0 = 9
   ·rw [if_pos c16] at H
    have c16b0 : (a0 == 9) = true := beq_iff_eq.mpr c16
    have c16b1 : (a0 != 9) = false := bne_eq_false_iff_eq.mpr c16
    clear c16
    by_cases c17 : 0 < (l1.length : Int)
    ·rw [if_pos c17] at H
     have c17b0 : decide (0 < (l1.length : Int)) = true := decide_eq_true c17
     have c17b1 : decide (0 < l1.length) = true := decide_eq_true sq0
     clear c17
     by_cases c18 : 1 < (l1.length : Int)
     ·rw [if_pos c18] at H
      have c18b0 : decide (1 < (l1.length : Int)) = true := decide_eq_true c18
      have c18b1 : decide (1 < l1.length) = true := decide_eq_true sq0
      clear c18
      replace H := Option.bind_eq_some_iff.mp H
      obtain ⟨t111, A190, H⟩ := H
      replace H : (some t111) = some r := H
      have A19 := Aside0.mk A190
      clear A190
      obtain rfl := Option.some.inj H
      try go_wp2
      have n0_ := Aside0.mk (below_drew1 HB.out)
      clear HB
      have HB := n0_
      clear n0_
      have p109 : 0 ≤ (0 : Int) := sq0
      have q109 : 0 < (l1.length : Int) := of_decide_eq_true sq6
      obtain ⟨ad109, e109, hx109_0⟩ := Kd.at_int HR1.out 0 p109 q109
      have hw109_0 := hx109_0
      (try rw [show ((0 : Int)).toNat = 0 from rfl] at hw109_0)
      (try rw [show 0 * 1 = 0 from rfl] at hw109_0)
      (try rw [Addr.add_zero'] at hw109_0)
      cases e109
      have qi109 : (0 < l1.length) = True := eq_true sq0
      (try rw [show ((0 : Int)).toNat = 0 from rfl] at hx109_0)
      (try rw [Addr.add_zero'] at hx109_0)
      try replace hx109_0 := (HB.out.cell (World.block_lt_of_cell? w _ hx109_0)).trans hx109_0
      replace p109 := eq_true p109
      replace q109 := eq_true q109
      have p110 : 0 ≤ (1 : Int) := sq0
      have q110 : 1 < (l1.length : Int) := of_decide_eq_true sq6
      obtain ⟨ad110, e110, hx110_0⟩ := Kd.at_int HR1.out 1 p110 q110
      have hw110_0 := hx110_0
      (try rw [show ((1 : Int)).toNat = 1 from rfl] at hw110_0)
      (try rw [show 1 * 1 = 1 from rfl] at hw110_0)
      (try simp only [Nat.reduceMul, Nat.reduceEqDiff, Go.Addr.add, ↓reduceIte] at hw110_0)
      obtain rfl : ad109 = ad110 := (by injection e110)
      (try simp only [show (1 : Int).toNat = 1 from rfl, Nat.reduceMul, Nat.reduceEqDiff, Go.Addr.add, ↓reduceIte] at hx110_0)
      have qi110 : (1 < l1.length) = True := eq_true sq0
      (try rw [show ((1 : Int)).toNat = 1 from rfl] at hx110_0)
      try replace hx110_0 := (HB.out.cell (World.block_lt_of_cell? w _ hx110_0)).trans hx110_0
      replace p110 := eq_true p110
      replace q110 := eq_true q110
      refine start_ (n := 8) (S := fun w' => w'.cell? ad109 = some (.int .i64 (rd l1 0)) ∧ w'.cell? ⟨ad109.block, ad109.off + 1, none⟩ = some (.int .i64 (rd l1 1))) (ds := []) #[false, false, false, false, false, false, false, false] sq2 rfl rfl ⟨((HB.out.cell (World.block_lt_of_cell? w _ hw109_0)).trans hw109_0), ((HB.out.cell (World.block_lt_of_cell? w _ hw110_0)).trans hw110_0)⟩ (fun hHeld => ?_); refine with_tabW kind_node.tab14 kind_node.bits14 (fun HT_ HW_ => ?_)
      generalize wc.drew = w20 at HB hx109_0 hx110_0 hHeld ⊢
      refine pure_ (i := 0) (N := some 31) (v := ?_) (a' := ?_) #[true, false, false, false, false, false, false, false] rfl rfl (any_of HT_.out sq2) (fun _ _ _ h => h) (Or.inl ⟨by rfl, ?_⟩) ?_ ?_
      rotate_left
      ·intro w'
       go_simp
       with_reducible rfl
      rotate_left
      ·simp only [Act.put, List.setIfInBounds_toArray, List.set_cons_zero, List.set_cons_succ, i64_w, i32_w]
       rfl
      refine pure_ (i := 1) (N := some 32) (v := ?_) (a' := ?_) #[true, true, false, false, false, false, false, false] rfl rfl (any_of HT_.out sq2) (fun _ _ _ h => h) (Or.inl ⟨by rfl, ?_⟩) ?_ ?_
      rotate_left
      ·intro w'
       go_simp
       with_reducible rfl
      rotate_left
      ·simp only [Act.put, List.setIfInBounds_toArray, List.set_cons_zero, List.set_cons_succ, i64_w, i32_w]
       rfl
      refine pure_ (i := 3) (N := some 34) (v := ?_) (a' := ?_) #[true, true, false, true, false, false, false, false] rfl rfl (any_of HT_.out sq2) (fun _ _ _ h => h) (Or.inl ⟨by rfl, ?_⟩) ?_ ?_
      rotate_left
      ·intro w'
       go_simp
       with_reducible rfl
      rotate_left
      ·simp only [Act.put, List.setIfInBounds_toArray, List.set_cons_zero, List.set_cons_succ, i64_w, i32_w]
       rfl
      refine pure_ (i := 4) (N := some 35) (v := ?_) (a' := ?_) #[true, true, false, true, true, false, false, false] rfl rfl (any_of HT_.out sq2) (fun _ _ _ h => h) (Or.inl ⟨by rfl, ?_⟩) ?_ ?_
      rotate_left
      ·intro w'
       go_simp
       with_reducible rfl
      rotate_left
      ·simp only [Act.put, List.setIfInBounds_toArray, List.set_cons_zero, List.set_cons_succ, i64_w, i32_w]
       rfl
      refine take_ (i := 2) (N := some 33) (v := ?_) (a' := ?_) #[true, true, true, true, true, false, false, false] rfl rfl (take_ofW HT_.out HW_.out sq2) (fun _ _ _ h => h) (Or.inl ⟨by rfl, ?_⟩) hHeld ?_ ?_
      rotate_left
      ·rintro w' ⟨s0, s1⟩
       go_simp
       with_reducible rfl
      rotate_left
      ·simp only [Act.put, List.setIfInBounds_toArray, List.set_cons_zero, List.set_cons_succ, i64_w, i32_w]
       rfl
      refine take_ (i := 5) (N := some 36) (v := ?_) (a' := ?_) #[true, true, true, true, true, true, false, false] rfl rfl (take_ofW HT_.out HW_.out sq2) (fun _ _ _ h => h) (Or.inl ⟨by rfl, ?_⟩) hHeld ?_ ?_
      rotate_left
      ·rintro w' ⟨s0, s1⟩
       go_simp
       with_reducible rfl
      rotate_left
      ·simp only [Act.put, List.setIfInBounds_toArray, List.set_cons_zero, List.set_cons_succ, i64_w, i32_w]
       rfl
      refine one_ (i := 6) (N := some 37) #[true, true, true, true, true, true, true, false] rfl rfl (one_of HT_.out sq2) sq1 (fun K hK => ?_)
      refine goes_ Try.func54 sq2 rfl #[.int .i64 (rd l1 0), .int .i64 (rd l1 1)] (by rfl) rfl rfl sq51 ?_
      with_reducible refine (kind_quotient.calls kj4 (rd l1 0) (rd l1 1) t111 _ A19.out).mono ?_
      rintro e w' ⟨rfl, ⟨nd, rfl⟩⟩
      refine ⟨_, rfl, ?_⟩
      refine hK.out _ _ ⟨((HB.out.cell (World.block_lt_of_cell? w _ hw109_0)).trans hw109_0), ((HB.out.cell (World.block_lt_of_cell? w _ hw110_0)).trans hw110_0)⟩ (fun hHeld => ?_)
      clear hK K
      refine norm_ (a' := ?_) ?_ ?_
      rotate_left
      ·show Act.put _ (some 37) _ = _
       simp only [Act.put, List.setIfInBounds_toArray, List.set_cons_zero, List.set_cons_succ, i64_w, i32_w]
       rfl
      refine pure_ (i := 7) (N := some 4) (v := ?_) (a' := ?_) #[true, true, true, true, true, true, true, true] rfl rfl (any_of HT_.out sq2) (fun _ _ _ h => h) (Or.inl ⟨by rfl, ?_⟩) ?_ ?_
      rotate_left
      ·intro w'
       go_simp
       with_reducible rfl
      rotate_left
      ·simp only [Act.put, List.setIfInBounds_toArray, List.set_cons_zero, List.set_cons_succ, i64_w, i32_w]
       rfl
      refine done_ (done_of HT_.out sq2) ?_
      try go_wp2
      go_ret
      exact ⟨sq11, sq50⟩
     rw [if_neg c18] at H
     exact absurd H (by simp)
    rw [if_neg c17] at H
    exact absurd H (by simp)
   rw [if_neg c16] at H
   have c16b0 : (a0 == 9) = false := beq_eq_false_iff_ne.mpr c16
   have c16b1 : (a0 != 9) = true := bne_iff_ne.mpr c16
   have HC21 := Aside0.mk H
   clear H
   go_upto_if 38 with (fail)
   go_cut [38] (fun v38 wc => ∃ (kq : Nat) (x38_20 : Bool), v38 = .bool x38_20 ∧ Aside0 (kind_node.j1 kq l1 a0 x38_20 = some r) ∧ Aside0 (kq ≤ kj4) ∧ Aside0 (Below w.heap.size w wc))
   case first =>
    have H := HC21.out
    clear HC21
    by_cases c22 : a0 = 12
    ·rw [if_pos c22] at H
     have c22b0 : (a0 == 12) = true := beq_iff_eq.mpr c22
     have c22b1 : (a0 != 12) = false := bne_eq_false_iff_eq.mpr c22
     clear c22
     (first | rw [c22b0] | (simp only [i64_w, i32_w]; rw [c22b0]) | skip)
     have H' := Aside0.mk H
     clear H
     go_wp2
     go_meet
     case rel => exact ⟨_, ((a0 == 12)), sq5, H', ⟨by have := HJ4.out; first | omega | exact Nat.le_refl _⟩, ⟨sq50⟩⟩
    rw [if_neg c22] at H
    have c22b0 : (a0 == 12) = false := beq_eq_false_iff_ne.mpr c22
    have c22b1 : (a0 != 12) = true := bne_iff_ne.mpr c22
    (first | rw [c22b0] | (simp only [i64_w, i32_w]; rw [c22b0]) | skip)
    by_cases c23 : a0 = 13
    ·rw [if_pos c23] at H
     have c23b0 : (a0 == 13) = true := beq_iff_eq.mpr c23
     have c23b1 : (a0 != 13) = false := bne_eq_false_iff_eq.mpr c23
     clear c23
     have H' := Aside0.mk H
     clear H
     go_wp2
     go_meet
     case rel => exact ⟨_, ((a0 == 13)), sq5, H', ⟨by have := HJ4.out; first | omega | exact Nat.le_refl _⟩, ⟨sq50⟩⟩
    rw [if_neg c23] at H
    have c23b0 : (a0 == 13) = false := beq_eq_false_iff_ne.mpr c23
    have c23b1 : (a0 != 13) = true := bne_iff_ne.mpr c23
    by_cases c24 : a0 = 14
    ·rw [if_pos c24] at H
     have c24b0 : (a0 == 14) = true := beq_iff_eq.mpr c24
     have c24b1 : (a0 != 14) = false := bne_eq_false_iff_eq.mpr c24
     clear c24
     have H' := Aside0.mk H
     clear H
     go_wp2
     go_meet
     case rel => exact ⟨_, ((a0 == 14)), sq5, H', ⟨by have := HJ4.out; first | omega | exact Nat.le_refl _⟩, ⟨sq50⟩⟩
    rw [if_neg c24] at H
    have c24b0 : (a0 == 14) = false := beq_eq_false_iff_ne.mpr c24
    have c24b1 : (a0 != 14) = true := bne_iff_ne.mpr c24
    have H' := Aside0.mk H
    clear H
    go_wp2
    go_meet
    case rel => exact ⟨_, ((a0 == 15)), sq5, H', ⟨by have := HJ4.out; first | omega | exact Nat.le_refl _⟩, ⟨sq50⟩⟩
   case rest =>
    clear HC21; try clear c1; try clear p1; try clear q1; try clear hx1; try clear qi1; try clear c2; try clear p2; try clear c3; try clear c3b0; try clear c3b1; try clear c4; try clear c4b0; try clear c4b1; try clear c5; try clear c6; try clear c6b0; try clear c6b1; try clear c7; try clear c8; try clear c8b0; try clear c8b1; try clear c9; try clear c9b0; try clear c9b1; try clear p10; try clear q10; try clear hx10; try clear qi10; try clear c11; try clear c11b0; try clear c11b1; try clear p11; try clear q11; try clear hx11; try clear qi11; try clear c12; try clear c12b0; try clear c12b1; try clear c13; try clear c13b0; try clear c13b1; try clear c16; try clear c16b0; try clear c16b1; try clear c17; try clear c17b0; try clear c17b1; try clear c18; try clear c18b0; try clear c18b1; try clear c22; try clear c22b0; try clear c22b1; try clear c23; try clear c23b0; try clear c23b1; try clear c24; try clear c24b0; try clear c24b1; try clear hx104_0; try clear hx106_0; try clear hx107_0; try clear hx109_0; try clear hx110_0; try clear p104; try clear p106; try clear p107; try clear p109; try clear p110; try clear p2; try clear q104; try clear q106; try clear q107; try clear q109; try clear q110
    obtain ⟨kq, x38_20, rfl, HA, HJ20, HB⟩ := hcut
    cases kq with
    | zero => exact absurd HA.out (by simp [kind_node.j1])
    | succ kj20 =>
     have H := HA.out
     clear HA
     simp only [kind_node.j1] at H
     by_cases c25 : x38_20 = true
     ·subst c25
      replace H := (itT_ _ _).symm.trans H
      replace H := Option.bind_eq_some_iff.mp H
      obtain ⟨t112, A260, H⟩ := H
      replace H : ((kind_when.f t112 3).bind fun t113 => (some t113)) = some r := H
      have A26 := Aside0.mk A260
      clear A260
      replace H := Option.bind_eq_some_iff.mp H
      obtain ⟨t113, A270, H⟩ := H
      replace H : (some t113) = some r := H
      have A27 := Aside0.mk A270
      clear A270
      obtain rfl := Option.some.inj H
      go_wp2_with (first | ((with_reducible refine gate_callee (f := 55) rfl ?_); refine goesL_ (some 44) rfl rfl Try.func55 sq2 rfl #[.slice A1 l1.length c1] rfl sq51 ?_; (with_reducible refine (kind_alike.calls _ _ l1 t112 _ ?side1 ?side2 A26.out).mono ?_); (case side1 => repeat (first | exact (Kd.C_below HR1.out HB.out) | (with_reducible refine Kd.C_alloc ?_ _) | (with_reducible refine Kd.C_drewN ?_ _) | (with_reducible refine Kd.C_drew ?_))); (case side2 => exact HC1.out); rintro e w28 ⟨rfl, hb⟩; refine ⟨_, rfl, ?_⟩; have n0_ := Aside0.mk (below_step sq50 hb); clear HB; have HB := n0_; clear n0_; (try clear hb); (try clear hb2); (try clear hk); (try clear hi)) | ((with_reducible refine gate_callee (f := 52) rfl ?_); refine goesL_ (some 45) rfl rfl Try.func52 sq2 rfl #[.bool t112, .int .i64 3] rfl sq51 ?_; (with_reducible refine (kind_when.calls t112 3 t113 _ A27.out).mono ?_); rintro e w' ⟨rfl, ⟨nd, rfl⟩⟩; refine ⟨_, rfl, ?_⟩))
      go_ret
      exact ⟨sq11, sq50⟩
     replace c25 := Bool.eq_false_iff.mpr c25
     subst c25
     replace H := (itF_ _ _).symm.trans H
     have HC29 := Aside0.mk H
     clear H
     go_upto_if 46 with (fail)
     go_cut [46] (fun v46 wc => ∃ (kq : Nat) (x46_28 : Bool), v46 = .bool x46_28 ∧ Aside0 (kind_node.j2 kq l1 a0 x46_28 = some r) ∧ Aside0 (kq ≤ kj20) ∧ Aside0 (Below w.heap.size w wc))
     case first =>
      have H := HC29.out
      clear HC29
      by_cases c30 : a0 = 16
      ·rw [if_pos c30] at H
       have c30b0 : (a0 == 16) = true := beq_iff_eq.mpr c30
       have c30b1 : (a0 != 16) = false := bne_eq_false_iff_eq.mpr c30
       clear c30
       (first | rw [c30b0] | (simp only [i64_w, i32_w]; rw [c30b0]) | skip)
       have H' := Aside0.mk H
       clear H
       go_wp2
       go_meet
       case rel => exact ⟨_, ((a0 == 16)), sq5, H', ⟨by have := HJ4.out; have := HJ20.out; first | omega | exact Nat.le_refl _⟩, ⟨sq50⟩⟩
      rw [if_neg c30] at H
      have c30b0 : (a0 == 16) = false := beq_eq_false_iff_ne.mpr c30
      have c30b1 : (a0 != 16) = true := bne_iff_ne.mpr c30
      (first | rw [c30b0] | (simp only [i64_w, i32_w]; rw [c30b0]) | skip)
      have H' := Aside0.mk H
      clear H
      go_wp2
      go_meet
      case rel => exact ⟨_, ((a0 == 17)), sq5, H', ⟨by have := HJ4.out; have := HJ20.out; first | omega | exact Nat.le_refl _⟩, ⟨sq50⟩⟩
     case rest =>
      clear HC29; try clear c1; try clear p1; try clear q1; try clear hx1; try clear qi1; try clear c2; try clear p2; try clear c3; try clear c3b0; try clear c3b1; try clear c4; try clear c4b0; try clear c4b1; try clear c5; try clear c6; try clear c6b0; try clear c6b1; try clear c7; try clear c8; try clear c8b0; try clear c8b1; try clear c9; try clear c9b0; try clear c9b1; try clear p10; try clear q10; try clear hx10; try clear qi10; try clear c11; try clear c11b0; try clear c11b1; try clear p11; try clear q11; try clear hx11; try clear qi11; try clear c12; try clear c12b0; try clear c12b1; try clear c13; try clear c13b0; try clear c13b1; try clear c16; try clear c16b0; try clear c16b1; try clear c17; try clear c17b0; try clear c17b1; try clear c18; try clear c18b0; try clear c18b1; try clear c22; try clear c22b0; try clear c22b1; try clear c23; try clear c23b0; try clear c23b1; try clear c24; try clear c24b0; try clear c24b1; try clear c25; try clear c30; try clear c30b0; try clear c30b1; try clear hx104_0; try clear hx106_0; try clear hx107_0; try clear hx109_0; try clear hx110_0; try clear p1; try clear p10; try clear p104; try clear p106; try clear p107; try clear p109; try clear p11; try clear p110; try clear p2; try clear q1; try clear q10; try clear q104; try clear q106; try clear q107; try clear q109; try clear q11; try clear q110
      obtain ⟨kq, x46_28, rfl, HA, HJ28, HB⟩ := hcut
      cases kq with
      | zero => exact absurd HA.out (by simp [kind_node.j2])
      | succ kj28 =>
       have H := HA.out
       clear HA
       simp only [kind_node.j2] at H
       by_cases c31 : x46_28 = true
       ·subst c31
        replace H := (itT_ _ _).symm.trans H
        by_cases c32 : 0 < (l1.length : Int)
        ·rw [if_pos c32] at H
         have c32b0 : decide (0 < (l1.length : Int)) = true := decide_eq_true c32
         have c32b1 : decide (0 < l1.length) = true := decide_eq_true sq0
         clear c32
         by_cases c33 : 1 < (l1.length : Int)
         ·rw [if_pos c33] at H
          have c33b0 : decide (1 < (l1.length : Int)) = true := decide_eq_true c33
          have c33b1 : decide (1 < l1.length) = true := decide_eq_true sq0
          clear c33
          replace H := Option.bind_eq_some_iff.mp H
          obtain ⟨t116, A340, H⟩ := H
          replace H : (some t116) = some r := H
          have A34 := Aside0.mk A340
          clear A340
          obtain rfl := Option.some.inj H
          try go_wp2
          have n0_ := Aside0.mk (below_drew1 HB.out)
          clear HB
          have HB := n0_
          clear n0_
          have p114 : 0 ≤ (0 : Int) := sq0
          have q114 : 0 < (l1.length : Int) := of_decide_eq_true sq6
          obtain ⟨ad114, e114, hx114_0⟩ := Kd.at_int HR1.out 0 p114 q114
          have hw114_0 := hx114_0
          (try rw [show ((0 : Int)).toNat = 0 from rfl] at hw114_0)
          (try rw [show 0 * 1 = 0 from rfl] at hw114_0)
          (try rw [Addr.add_zero'] at hw114_0)
          cases e114
          have qi114 : (0 < l1.length) = True := eq_true sq0
          (try rw [show ((0 : Int)).toNat = 0 from rfl] at hx114_0)
          (try rw [Addr.add_zero'] at hx114_0)
          try replace hx114_0 := (HB.out.cell (World.block_lt_of_cell? w _ hx114_0)).trans hx114_0
          replace p114 := eq_true p114
          replace q114 := eq_true q114
          have p115 : 0 ≤ (1 : Int) := sq0
          have q115 : 1 < (l1.length : Int) := of_decide_eq_true sq6
          obtain ⟨ad115, e115, hx115_0⟩ := Kd.at_int HR1.out 1 p115 q115
          have hw115_0 := hx115_0
          (try rw [show ((1 : Int)).toNat = 1 from rfl] at hw115_0)
          (try rw [show 1 * 1 = 1 from rfl] at hw115_0)
          (try simp only [Nat.reduceMul, Nat.reduceEqDiff, Go.Addr.add, ↓reduceIte] at hw115_0)
          obtain rfl : ad114 = ad115 := (by injection e115)
          (try simp only [show (1 : Int).toNat = 1 from rfl, Nat.reduceMul, Nat.reduceEqDiff, Go.Addr.add, ↓reduceIte] at hx115_0)
          have qi115 : (1 < l1.length) = True := eq_true sq0
          (try rw [show ((1 : Int)).toNat = 1 from rfl] at hx115_0)
          try replace hx115_0 := (HB.out.cell (World.block_lt_of_cell? w _ hx115_0)).trans hx115_0
          replace p115 := eq_true p115
          replace q115 := eq_true q115
          refine start_ (n := 9) (S := fun w' => w'.cell? ad114 = some (.int .i64 (rd l1 0)) ∧ w'.cell? ⟨ad114.block, ad114.off + 1, none⟩ = some (.int .i64 (rd l1 1))) (ds := []) #[false, false, false, false, false, false, false, false, false] sq2 rfl rfl ⟨((HB.out.cell (World.block_lt_of_cell? w _ hw114_0)).trans hw114_0), ((HB.out.cell (World.block_lt_of_cell? w _ hw115_0)).trans hw115_0)⟩ (fun hHeld => ?_); refine with_tabW kind_node.tab22 kind_node.bits22 (fun HT_ HW_ => ?_)
          generalize wc.drew = w35 at HB hx114_0 hx115_0 hHeld ⊢
          refine pure_ (i := 0) (N := some 49) (v := ?_) (a' := ?_) #[true, false, false, false, false, false, false, false, false] rfl rfl (any_of HT_.out sq2) (fun _ _ _ h => h) (Or.inl ⟨by rfl, ?_⟩) ?_ ?_
          rotate_left
          ·intro w'
           go_simp
           with_reducible rfl
          rotate_left
          ·simp only [Act.put, List.setIfInBounds_toArray, List.set_cons_zero, List.set_cons_succ, i64_w, i32_w]
           rfl
          refine pure_ (i := 1) (N := some 50) (v := ?_) (a' := ?_) #[true, true, false, false, false, false, false, false, false] rfl rfl (any_of HT_.out sq2) (fun _ _ _ h => h) (Or.inl ⟨by rfl, ?_⟩) ?_ ?_
          rotate_left
          ·intro w'
           go_simp
           with_reducible rfl
          rotate_left
          ·simp only [Act.put, List.setIfInBounds_toArray, List.set_cons_zero, List.set_cons_succ, i64_w, i32_w]
           rfl
          refine pure_ (i := 3) (N := some 52) (v := ?_) (a' := ?_) #[true, true, false, true, false, false, false, false, false] rfl rfl (any_of HT_.out sq2) (fun _ _ _ h => h) (Or.inl ⟨by rfl, ?_⟩) ?_ ?_
          rotate_left
          ·intro w'
           go_simp
           with_reducible rfl
          rotate_left
          ·simp only [Act.put, List.setIfInBounds_toArray, List.set_cons_zero, List.set_cons_succ, i64_w, i32_w]
           rfl
          refine pure_ (i := 4) (N := some 53) (v := ?_) (a' := ?_) #[true, true, false, true, true, false, false, false, false] rfl rfl (any_of HT_.out sq2) (fun _ _ _ h => h) (Or.inl ⟨by rfl, ?_⟩) ?_ ?_
          rotate_left
          ·intro w'
           go_simp
           with_reducible rfl
          rotate_left
          ·simp only [Act.put, List.setIfInBounds_toArray, List.set_cons_zero, List.set_cons_succ, i64_w, i32_w]
           rfl
          refine take_ (i := 2) (N := some 51) (v := ?_) (a' := ?_) #[true, true, true, true, true, false, false, false, false] rfl rfl (take_ofW HT_.out HW_.out sq2) (fun _ _ _ h => h) (Or.inl ⟨by rfl, ?_⟩) hHeld ?_ ?_
          rotate_left
          ·rintro w' ⟨s0, s1⟩
           go_simp
           with_reducible rfl
          rotate_left
          ·simp only [Act.put, List.setIfInBounds_toArray, List.set_cons_zero, List.set_cons_succ, i64_w, i32_w]
           rfl
          refine take_ (i := 5) (N := some 54) (v := ?_) (a' := ?_) #[true, true, true, true, true, true, false, false, false] rfl rfl (take_ofW HT_.out HW_.out sq2) (fun _ _ _ h => h) (Or.inl ⟨by rfl, ?_⟩) hHeld ?_ ?_
          rotate_left
          ·rintro w' ⟨s0, s1⟩
           go_simp
           with_reducible rfl
          rotate_left
          ·simp only [Act.put, List.setIfInBounds_toArray, List.set_cons_zero, List.set_cons_succ, i64_w, i32_w]
           rfl
          refine pure_ (i := 6) (N := some 55) (v := ?_) (a' := ?_) #[true, true, true, true, true, true, true, false, false] rfl rfl (any_of HT_.out sq2) (fun _ _ _ h => h) (Or.inl ⟨by rfl, ?_⟩) ?_ ?_
          rotate_left
          ·intro w'
           go_simp
           with_reducible rfl
          rotate_left
          ·simp only [Act.put, List.setIfInBounds_toArray, List.set_cons_zero, List.set_cons_succ, i64_w, i32_w]
           rfl
          refine one_ (i := 7) (N := some 56) #[true, true, true, true, true, true, true, true, false] rfl rfl (one_of HT_.out sq2) sq1 (fun K hK => ?_)
          refine goes_ Try.func52 sq2 rfl #[.bool ((rd l1 0) == (rd l1 1)), .int .i64 3] (by rfl) rfl rfl sq51 ?_
          with_reducible refine (kind_when.calls ((rd l1 0) == (rd l1 1)) 3 t116 _ A34.out).mono ?_
          rintro e w' ⟨rfl, ⟨nd, rfl⟩⟩
          refine ⟨_, rfl, ?_⟩
          refine hK.out _ _ ⟨((HB.out.cell (World.block_lt_of_cell? w _ hw114_0)).trans hw114_0), ((HB.out.cell (World.block_lt_of_cell? w _ hw115_0)).trans hw115_0)⟩ (fun hHeld => ?_)
          clear hK K
          refine norm_ (a' := ?_) ?_ ?_
          rotate_left
          ·show Act.put _ (some 56) _ = _
           simp only [Act.put, List.setIfInBounds_toArray, List.set_cons_zero, List.set_cons_succ, i64_w, i32_w]
           rfl
          refine pure_ (i := 8) (N := some 4) (v := ?_) (a' := ?_) #[true, true, true, true, true, true, true, true, true] rfl rfl (any_of HT_.out sq2) (fun _ _ _ h => h) (Or.inl ⟨by rfl, ?_⟩) ?_ ?_
          rotate_left
          ·intro w'
           go_simp
           with_reducible rfl
          rotate_left
          ·simp only [Act.put, List.setIfInBounds_toArray, List.set_cons_zero, List.set_cons_succ, i64_w, i32_w]
           rfl
          refine done_ (done_of HT_.out sq2) ?_
          try go_wp2
          go_ret
          exact ⟨sq11, sq50⟩
         rw [if_neg c33] at H
         exact absurd H (by simp)
        rw [if_neg c32] at H
        exact absurd H (by simp)
       replace c31 := Bool.eq_false_iff.mpr c31
       subst c31
       replace H := (itF_ _ _).symm.trans H
       have HC36 := Aside0.mk H
       clear H
       go_upto_if 57 with (fail)
       go_cut [57] (fun v57 wc => ∃ (kq : Nat) (x57_35 : Bool), v57 = .bool x57_35 ∧ Aside0 (kind_node.j3 kq l1 a0 x57_35 = some r) ∧ Aside0 (kq ≤ kj28) ∧ Aside0 (Below w.heap.size w wc))
       case first =>
        have H := HC36.out
        clear HC36
        by_cases c37 : a0 = 18
        ·rw [if_pos c37] at H
         have c37b0 : (a0 == 18) = true := beq_iff_eq.mpr c37
         have c37b1 : (a0 != 18) = false := bne_eq_false_iff_eq.mpr c37
         clear c37
         (first | rw [c37b0] | (simp only [i64_w, i32_w]; rw [c37b0]) | skip)
         have H' := Aside0.mk H
         clear H
         go_wp2
         go_meet
         case rel => exact ⟨_, ((a0 == 18)), sq5, H', ⟨by have := HJ4.out; have := HJ20.out; have := HJ28.out; first | omega | exact Nat.le_refl _⟩, ⟨sq50⟩⟩
        rw [if_neg c37] at H
        have c37b0 : (a0 == 18) = false := beq_eq_false_iff_ne.mpr c37
        have c37b1 : (a0 != 18) = true := bne_iff_ne.mpr c37
        (first | rw [c37b0] | (simp only [i64_w, i32_w]; rw [c37b0]) | skip)
        have H' := Aside0.mk H
        clear H
        go_wp2
        go_meet
        case rel => exact ⟨_, ((a0 == 19)), sq5, H', ⟨by have := HJ4.out; have := HJ20.out; have := HJ28.out; first | omega | exact Nat.le_refl _⟩, ⟨sq50⟩⟩
       case rest =>
        clear HC36; try clear c1; try clear p1; try clear q1; try clear hx1; try clear qi1; try clear c2; try clear p2; try clear c3; try clear c3b0; try clear c3b1; try clear c4; try clear c4b0; try clear c4b1; try clear c5; try clear c6; try clear c6b0; try clear c6b1; try clear c7; try clear c8; try clear c8b0; try clear c8b1; try clear c9; try clear c9b0; try clear c9b1; try clear p10; try clear q10; try clear hx10; try clear qi10; try clear c11; try clear c11b0; try clear c11b1; try clear p11; try clear q11; try clear hx11; try clear qi11; try clear c12; try clear c12b0; try clear c12b1; try clear c13; try clear c13b0; try clear c13b1; try clear c16; try clear c16b0; try clear c16b1; try clear c17; try clear c17b0; try clear c17b1; try clear c18; try clear c18b0; try clear c18b1; try clear c22; try clear c22b0; try clear c22b1; try clear c23; try clear c23b0; try clear c23b1; try clear c24; try clear c24b0; try clear c24b1; try clear c25; try clear c30; try clear c30b0; try clear c30b1; try clear c31; try clear c32; try clear c32b0; try clear c32b1; try clear c33; try clear c33b0; try clear c33b1; try clear c37; try clear c37b0; try clear c37b1; try clear hx104_0; try clear hx106_0; try clear hx107_0; try clear hx109_0; try clear hx110_0; try clear hx114_0; try clear hx115_0; try clear p1; try clear p10; try clear p104; try clear p106; try clear p107; try clear p109; try clear p11; try clear p110; try clear p114; try clear p115; try clear p2; try clear q1; try clear q10; try clear q104; try clear q106; try clear q107; try clear q109; try clear q11; try clear q110; try clear q114; try clear q115
        obtain ⟨kq, x57_35, rfl, HA, HJ35, HB⟩ := hcut
        cases kq with
        | zero => exact absurd HA.out (by simp [kind_node.j3])
        | succ kj35 =>
         have H := HA.out
         clear HA
         simp only [kind_node.j3] at H
         by_cases c38 : x57_35 = true
         ·subst c38
          replace H := (itT_ _ _).symm.trans H
          by_cases c39 : 0 < (l1.length : Int)
          ·rw [if_pos c39] at H
           have c39b0 : decide (0 < (l1.length : Int)) = true := decide_eq_true c39
           have c39b1 : decide (0 < l1.length) = true := decide_eq_true sq0
           clear c39
           by_cases c40 : (rd l1 0) = 3
           ·rw [if_pos c40] at H
            have c40b0 : ((rd l1 0) == 3) = true := beq_iff_eq.mpr c40
            have c40b1 : ((rd l1 0) != 3) = false := bne_eq_false_iff_eq.mpr c40
            clear c40
            by_cases c41 : 1 < (l1.length : Int)
            ·rw [if_pos c41] at H
             have c41b0 : decide (1 < (l1.length : Int)) = true := decide_eq_true c41
             have c41b1 : decide (1 < l1.length) = true := decide_eq_true sq0
             clear c41
             replace H := Option.bind_eq_some_iff.mp H
             obtain ⟨t119, A420, H⟩ := H
             replace H : (some t119) = some r := H
             have A42 := Aside0.mk A420
             clear A420
             obtain rfl := Option.some.inj H
             have p117 : 0 ≤ (0 : Int) := sq0
             have q117 : 0 < (l1.length : Int) := of_decide_eq_true sq6
             obtain ⟨ad117, e117, hx117_0⟩ := Kd.at_int HR1.out 0 p117 q117
             cases e117
             have qi117 : (0 < l1.length) = True := eq_true sq0
             (try rw [show ((0 : Int)).toNat = 0 from rfl] at hx117_0)
             (try rw [Addr.add_zero'] at hx117_0)
             try replace hx117_0 := (HB.out.cell (World.block_lt_of_cell? w _ hx117_0)).trans hx117_0
             replace p117 := eq_true p117
             replace q117 := eq_true q117
             have p118 : 0 ≤ (1 : Int) := sq0
             have q118 : 1 < (l1.length : Int) := of_decide_eq_true sq6
             obtain ⟨ad118, e118, hx118_0⟩ := Kd.at_int HR1.out 1 p118 q118
             obtain rfl : ad117 = ad118 := (by injection e118)
             (try simp only [show (1 : Int).toNat = 1 from rfl, Nat.reduceMul, Nat.reduceEqDiff, Go.Addr.add, ↓reduceIte] at hx118_0)
             have qi118 : (1 < l1.length) = True := eq_true sq0
             (try rw [show ((1 : Int)).toNat = 1 from rfl] at hx118_0)
             try replace hx118_0 := (HB.out.cell (World.block_lt_of_cell? w _ hx118_0)).trans hx118_0
             replace p118 := eq_true p118
             replace q118 := eq_true q118
             go_wp2_with (first | ((with_reducible refine gate_callee (f := 52) rfl ?_); refine goesL_ (some 70) rfl rfl Try.func52 sq2 rfl #[.bool ((rd l1 1) == 3), .int .i64 3] rfl sq51 ?_; (with_reducible refine (kind_when.calls ((rd l1 1) == 3) 3 t119 _ A42.out).mono ?_); rintro e w' ⟨rfl, ⟨nd, rfl⟩⟩; refine ⟨_, rfl, ?_⟩))
             go_ret
             exact ⟨sq11, sq50⟩
            rw [if_neg c41] at H
            exact absurd H (by simp)
           rw [if_neg c40] at H
           have c40b0 : ((rd l1 0) == 3) = false := beq_eq_false_iff_ne.mpr c40
           have c40b1 : ((rd l1 0) != 3) = true := bne_iff_ne.mpr c40
           replace H := Option.bind_eq_some_iff.mp H
           obtain ⟨t120, A430, H⟩ := H
           replace H : (some t120) = some r := H
           have A43 := Aside0.mk A430
           clear A430
           obtain rfl := Option.some.inj H
           have p117 : 0 ≤ (0 : Int) := sq0
           have q117 : 0 < (l1.length : Int) := of_decide_eq_true sq6
           obtain ⟨ad117, e117, hx117_0⟩ := Kd.at_int HR1.out 0 p117 q117
           cases e117
           have qi117 : (0 < l1.length) = True := eq_true sq0
           (try rw [show ((0 : Int)).toNat = 0 from rfl] at hx117_0)
           (try rw [Addr.add_zero'] at hx117_0)
           try replace hx117_0 := (HB.out.cell (World.block_lt_of_cell? w _ hx117_0)).trans hx117_0
           replace p117 := eq_true p117
           replace q117 := eq_true q117
           go_wp2_with (first | ((with_reducible refine gate_callee (f := 52) rfl ?_); refine goesL_ (some 70) rfl rfl Try.func52 sq2 rfl #[.bool false, .int .i64 3] rfl sq51 ?_; (with_reducible refine (kind_when.calls false 3 t120 _ A43.out).mono ?_); rintro e w' ⟨rfl, ⟨nd, rfl⟩⟩; refine ⟨_, rfl, ?_⟩))
           go_ret
           exact ⟨sq11, sq50⟩
          rw [if_neg c39] at H
          exact absurd H (by simp)
         replace c38 := Bool.eq_false_iff.mpr c38
         subst c38
         replace H := (itF_ _ _).symm.trans H
         by_cases c44 : a0 = 20
         ·rw [if_pos c44] at H
          have c44b0 : (a0 == 20) = true := beq_iff_eq.mpr c44
          have c44b1 : (a0 != 20) = false := bne_eq_false_iff_eq.mpr c44
          clear c44
          by_cases c45 : 0 < (l1.length : Int)
          ·rw [if_pos c45] at H
           have c45b0 : decide (0 < (l1.length : Int)) = true := decide_eq_true c45
           have c45b1 : decide (0 < l1.length) = true := decide_eq_true sq0
           clear c45
           by_cases c46 : (rd l1 0) = 3
           ·rw [if_pos c46] at H
            have c46b0 : ((rd l1 0) == 3) = true := beq_iff_eq.mpr c46
            have c46b1 : ((rd l1 0) != 3) = false := bne_eq_false_iff_eq.mpr c46
            clear c46
            by_cases c47 : 1 < (l1.length : Int)
            ·rw [if_pos c47] at H
             have c47b0 : decide (1 < (l1.length : Int)) = true := decide_eq_true c47
             have c47b1 : decide (1 < l1.length) = true := decide_eq_true sq0
             clear c47
             by_cases c48 : 2 < (l1.length : Int)
             ·rw [if_pos c48] at H
              have c48b0 : decide (2 < (l1.length : Int)) = true := decide_eq_true c48
              have c48b1 : decide (2 < l1.length) = true := decide_eq_true sq0
              clear c48
              replace H := Option.bind_eq_some_iff.mp H
              obtain ⟨t125, A490, H⟩ := H
              replace H : (some t125) = some r := H
              have A49 := Aside0.mk A490
              clear A490
              obtain rfl := Option.some.inj H
              try go_wp2
              have n0_ := Aside0.mk (below_drew1 HB.out)
              clear HB
              have HB := n0_
              clear n0_
              have p121 : 0 ≤ (0 : Int) := sq0
              have q121 : 0 < (l1.length : Int) := of_decide_eq_true sq6
              obtain ⟨ad121, e121, hx121_0⟩ := Kd.at_int HR1.out 0 p121 q121
              have hw121_0 := hx121_0
              (try rw [show ((0 : Int)).toNat = 0 from rfl] at hw121_0)
              (try rw [show 0 * 1 = 0 from rfl] at hw121_0)
              (try rw [Addr.add_zero'] at hw121_0)
              cases e121
              have qi121 : (0 < l1.length) = True := eq_true sq0
              (try rw [show ((0 : Int)).toNat = 0 from rfl] at hx121_0)
              (try rw [Addr.add_zero'] at hx121_0)
              try replace hx121_0 := (HB.out.cell (World.block_lt_of_cell? w _ hx121_0)).trans hx121_0
              replace p121 := eq_true p121
              replace q121 := eq_true q121
              have p122 : 0 ≤ (1 : Int) := sq0
              have q122 : 1 < (l1.length : Int) := of_decide_eq_true sq6
              obtain ⟨ad122, e122, hx122_0⟩ := Kd.at_int HR1.out 1 p122 q122
              have hw122_0 := hx122_0
              (try rw [show ((1 : Int)).toNat = 1 from rfl] at hw122_0)
              (try rw [show 1 * 1 = 1 from rfl] at hw122_0)
              (try simp only [Nat.reduceMul, Nat.reduceEqDiff, Go.Addr.add, ↓reduceIte] at hw122_0)
              obtain rfl : ad121 = ad122 := (by injection e122)
              (try simp only [show (1 : Int).toNat = 1 from rfl, Nat.reduceMul, Nat.reduceEqDiff, Go.Addr.add, ↓reduceIte] at hx122_0)
              have qi122 : (1 < l1.length) = True := eq_true sq0
              (try rw [show ((1 : Int)).toNat = 1 from rfl] at hx122_0)
              try replace hx122_0 := (HB.out.cell (World.block_lt_of_cell? w _ hx122_0)).trans hx122_0
              replace p122 := eq_true p122
              replace q122 := eq_true q122
              have p123 : 0 ≤ (2 : Int) := sq0
              have q123 : 2 < (l1.length : Int) := of_decide_eq_true sq6
              obtain ⟨ad123, e123, hx123_0⟩ := Kd.at_int HR1.out 2 p123 q123
              have hw123_0 := hx123_0
              (try rw [show ((2 : Int)).toNat = 2 from rfl] at hw123_0)
              (try rw [show 2 * 1 = 2 from rfl] at hw123_0)
              (try simp only [Nat.reduceMul, Nat.reduceEqDiff, Go.Addr.add, ↓reduceIte] at hw123_0)
              obtain rfl : ad121 = ad123 := (by injection e123)
              (try simp only [show (2 : Int).toNat = 2 from rfl, Nat.reduceMul, Nat.reduceEqDiff, Go.Addr.add, ↓reduceIte] at hx123_0)
              have qi123 : (2 < l1.length) = True := eq_true sq0
              (try rw [show ((2 : Int)).toNat = 2 from rfl] at hx123_0)
              try replace hx123_0 := (HB.out.cell (World.block_lt_of_cell? w _ hx123_0)).trans hx123_0
              replace p123 := eq_true p123
              replace q123 := eq_true q123
              have p124 : 0 ≤ (1 : Int) := sq0
              have q124 : 1 < (l1.length : Int) := of_decide_eq_true sq6
              obtain ⟨ad124, e124, hx124_0⟩ := Kd.at_int HR1.out 1 p124 q124
              have hw124_0 := hx124_0
              (try rw [show ((1 : Int)).toNat = 1 from rfl] at hw124_0)
              (try rw [show 1 * 1 = 1 from rfl] at hw124_0)
              (try simp only [Nat.reduceMul, Nat.reduceEqDiff, Go.Addr.add, ↓reduceIte] at hw124_0)
              obtain rfl : ad121 = ad124 := (by injection e124)
              (try simp only [show (1 : Int).toNat = 1 from rfl, Nat.reduceMul, Nat.reduceEqDiff, Go.Addr.add, ↓reduceIte] at hx124_0)
              have qi124 : (1 < l1.length) = True := eq_true sq0
              (try rw [show ((1 : Int)).toNat = 1 from rfl] at hx124_0)
              try replace hx124_0 := (HB.out.cell (World.block_lt_of_cell? w _ hx124_0)).trans hx124_0
              replace p124 := eq_true p124
              replace q124 := eq_true q124
              refine start_ (n := 18) (S := fun w' => w'.cell? ad121 = some (.int .i64 (rd l1 0)) ∧ w'.cell? ⟨ad121.block, ad121.off + 1, none⟩ = some (.int .i64 (rd l1 1)) ∧ w'.cell? ⟨ad121.block, ad121.off + 2, none⟩ = some (.int .i64 (rd l1 2)) ∧ w'.cell? ⟨ad121.block, ad121.off + 1, none⟩ = some (.int .i64 (rd l1 1))) (ds := []) #[false, false, false, false, false, false, false, false, false, false, false, false, false, false, false, false, false, false] sq2 rfl rfl ⟨((HB.out.cell (World.block_lt_of_cell? w _ hw121_0)).trans hw121_0), ((HB.out.cell (World.block_lt_of_cell? w _ hw122_0)).trans hw122_0), ((HB.out.cell (World.block_lt_of_cell? w _ hw123_0)).trans hw123_0), ((HB.out.cell (World.block_lt_of_cell? w _ hw124_0)).trans hw124_0)⟩ (fun hHeld => ?_); refine with_tabW kind_node.tab27 kind_node.bits27 (fun HT_ HW_ => ?_)
              generalize wc.drew = w50 at HB hx121_0 hx122_0 hx123_0 hx124_0 hHeld ⊢
              refine pure_ (i := 0) (N := some 73) (v := ?_) (a' := ?_) #[true, false, false, false, false, false, false, false, false, false, false, false, false, false, false, false, false, false] rfl rfl (any_of HT_.out sq2) (fun _ _ _ h => h) (Or.inl ⟨by rfl, ?_⟩) ?_ ?_
              rotate_left
              ·intro w'
               go_simp
               with_reducible rfl
              rotate_left
              ·simp only [Act.put, List.setIfInBounds_toArray, List.set_cons_zero, List.set_cons_succ, i64_w, i32_w]
               rfl
              refine pure_ (i := 1) (N := some 74) (v := ?_) (a' := ?_) #[true, true, false, false, false, false, false, false, false, false, false, false, false, false, false, false, false, false] rfl rfl (any_of HT_.out sq2) (fun _ _ _ h => h) (Or.inl ⟨by rfl, ?_⟩) ?_ ?_
              rotate_left
              ·intro w'
               go_simp
               with_reducible rfl
              rotate_left
              ·simp only [Act.put, List.setIfInBounds_toArray, List.set_cons_zero, List.set_cons_succ, i64_w, i32_w]
               rfl
              refine pure_ (i := 13) (N := some 86) (v := ?_) (a' := ?_) #[true, true, false, false, false, false, false, false, false, false, false, false, false, true, false, false, false, false] rfl rfl (any_of HT_.out sq2) (fun _ _ _ h => h) (Or.inl ⟨by rfl, ?_⟩) ?_ ?_
              rotate_left
              ·intro w'
               go_simp
               with_reducible rfl
              rotate_left
              ·simp only [Act.put, List.setIfInBounds_toArray, List.set_cons_zero, List.set_cons_succ, i64_w, i32_w]
               rfl
              refine pure_ (i := 14) (N := some 87) (v := ?_) (a' := ?_) #[true, true, false, false, false, false, false, false, false, false, false, false, false, true, true, false, false, false] rfl rfl (any_of HT_.out sq2) (fun _ _ _ h => h) (Or.inl ⟨by rfl, ?_⟩) ?_ ?_
              rotate_left
              ·intro w'
               go_simp
               with_reducible rfl
              rotate_left
              ·simp only [Act.put, List.setIfInBounds_toArray, List.set_cons_zero, List.set_cons_succ, i64_w, i32_w]
               rfl
              refine take_ (i := 2) (N := some 75) (v := ?_) (a' := ?_) #[true, true, true, false, false, false, false, false, false, false, false, false, false, true, true, false, false, false] rfl rfl (take_ofW HT_.out HW_.out sq2) (fun _ _ _ h => h) (Or.inl ⟨by rfl, ?_⟩) hHeld ?_ ?_
              rotate_left
              ·rintro w' ⟨s0, s1, s2, s3⟩
               go_simp
               with_reducible rfl
              rotate_left
              ·simp only [Act.put, List.setIfInBounds_toArray, List.set_cons_zero, List.set_cons_succ, i64_w, i32_w]
               rfl
              refine pure_ (i := 3) (N := some 76) (v := ?_) (a' := ?_) #[true, true, true, true, false, false, false, false, false, false, false, false, false, true, true, false, false, false] rfl rfl (any_of HT_.out sq2) (fun _ _ _ h => h) (Or.inl ⟨by rfl, ?_⟩) ?_ ?_
              rotate_left
              ·intro w'
               go_simp
               with_reducible rfl
              rotate_left
              ·simp only [Act.put, List.setIfInBounds_toArray, List.set_cons_zero, List.set_cons_succ, i64_w, i32_w]
               rfl
              refine pure_ (i := 4) (N := some 77) (v := ?_) (a' := ?_) #[true, true, true, true, true, false, false, false, false, false, false, false, false, true, true, false, false, false] rfl rfl (any_of HT_.out sq2) (fun _ _ _ h => h) (Or.inl ⟨by rfl, ?_⟩) ?_ ?_
              rotate_left
              ·intro w'
               go_simp
               with_reducible rfl
              rotate_left
              ·simp only [Act.put, List.setIfInBounds_toArray, List.set_cons_zero, List.set_cons_succ, i64_w, i32_w]
               rfl
              refine pure_ (i := 5) (N := some 78) (v := ?_) (a' := ?_) #[true, true, true, true, true, true, false, false, false, false, false, false, false, true, true, false, false, false] rfl rfl (any_of HT_.out sq2) (fun _ _ _ h => h) (Or.inl ⟨by rfl, ?_⟩) ?_ ?_
              rotate_left
              ·intro w'
               go_simp
               with_reducible rfl
              rotate_left
              ·simp only [Act.put, List.setIfInBounds_toArray, List.set_cons_zero, List.set_cons_succ, i64_w, i32_w]
               rfl
              refine pure_ (i := 6) (N := some 79) (v := ?_) (a' := ?_) #[true, true, true, true, true, true, true, false, false, false, false, false, false, true, true, false, false, false] rfl rfl (any_of HT_.out sq2) (fun _ _ _ h => h) (Or.inl ⟨by rfl, ?_⟩) ?_ ?_
              rotate_left
              ·intro w'
               go_simp
               with_reducible rfl
              rotate_left
              ·simp only [Act.put, List.setIfInBounds_toArray, List.set_cons_zero, List.set_cons_succ, i64_w, i32_w]
               rfl
              refine pure_ (i := 8) (N := some 81) (v := ?_) (a' := ?_) #[true, true, true, true, true, true, true, false, true, false, false, false, false, true, true, false, false, false] rfl rfl (any_of HT_.out sq2) (fun _ _ _ h => h) (Or.inl ⟨by rfl, ?_⟩) ?_ ?_
              rotate_left
              ·intro w'
               go_simp
               with_reducible rfl
              rotate_left
              ·simp only [Act.put, List.setIfInBounds_toArray, List.set_cons_zero, List.set_cons_succ, i64_w, i32_w]
               rfl
              refine pure_ (i := 9) (N := some 82) (v := ?_) (a' := ?_) #[true, true, true, true, true, true, true, false, true, true, false, false, false, true, true, false, false, false] rfl rfl (any_of HT_.out sq2) (fun _ _ _ h => h) (Or.inl ⟨by rfl, ?_⟩) ?_ ?_
              rotate_left
              ·intro w'
               go_simp
               with_reducible rfl
              rotate_left
              ·simp only [Act.put, List.setIfInBounds_toArray, List.set_cons_zero, List.set_cons_succ, i64_w, i32_w]
               rfl
              refine take_ (i := 7) (N := some 80) (v := ?_) (a' := ?_) #[true, true, true, true, true, true, true, true, true, true, false, false, false, true, true, false, false, false] rfl rfl (take_ofW HT_.out HW_.out sq2) (fun _ _ _ h => h) (Or.inl ⟨by rfl, ?_⟩) hHeld ?_ ?_
              rotate_left
              ·rintro w' ⟨s0, s1, s2, s3⟩
               go_simp
               with_reducible rfl
              rotate_left
              ·simp only [Act.put, List.setIfInBounds_toArray, List.set_cons_zero, List.set_cons_succ, i64_w, i32_w]
               rfl
              refine take_ (i := 10) (N := some 83) (v := ?_) (a' := ?_) #[true, true, true, true, true, true, true, true, true, true, true, false, false, true, true, false, false, false] rfl rfl (take_ofW HT_.out HW_.out sq2) (fun _ _ _ h => h) (Or.inl ⟨by rfl, ?_⟩) hHeld ?_ ?_
              rotate_left
              ·rintro w' ⟨s0, s1, s2, s3⟩
               go_simp
               with_reducible rfl
              rotate_left
              ·simp only [Act.put, List.setIfInBounds_toArray, List.set_cons_zero, List.set_cons_succ, i64_w, i32_w]
               rfl
              refine pure_ (i := 11) (N := some 84) (v := ?_) (a' := ?_) #[true, true, true, true, true, true, true, true, true, true, true, true, false, true, true, false, false, false] rfl rfl (any_of HT_.out sq2) (fun _ _ _ h => h) (Or.inl ⟨by rfl, ?_⟩) ?_ ?_
              rotate_left
              ·intro w'
               go_simp
               with_reducible rfl
              rotate_left
              ·simp only [Act.put, List.setIfInBounds_toArray, List.set_cons_zero, List.set_cons_succ, i64_w, i32_w]
               rfl
              refine pure_ (i := 12) (N := some 85) (v := ?_) (a' := ?_) #[true, true, true, true, true, true, true, true, true, true, true, true, true, true, true, false, false, false] rfl rfl (any_of HT_.out sq2) (fun _ _ _ h => h) (Or.inl ⟨by rfl, ?_⟩) ?_ ?_
              rotate_left
              ·intro w'
               go_simp
               with_reducible rfl
              rotate_left
              ·simp only [Act.put, List.setIfInBounds_toArray, List.set_cons_zero, List.set_cons_succ, i64_w, i32_w]
               rfl
              refine take_ (i := 15) (N := some 88) (v := ?_) (a' := ?_) #[true, true, true, true, true, true, true, true, true, true, true, true, true, true, true, true, false, false] rfl rfl (take_ofW HT_.out HW_.out sq2) (fun _ _ _ h => h) (Or.inl ⟨by rfl, ?_⟩) hHeld ?_ ?_
              rotate_left
              ·rintro w' ⟨s0, s1, s2, s3⟩
               go_simp
               with_reducible rfl
              rotate_left
              ·simp only [Act.put, List.setIfInBounds_toArray, List.set_cons_zero, List.set_cons_succ, i64_w, i32_w]
               rfl
              refine one_ (i := 16) (N := some 89) #[true, true, true, true, true, true, true, true, true, true, true, true, true, true, true, true, true, false] rfl rfl (one_of HT_.out sq2) sq1 (fun K hK => ?_)
              refine goes_ Try.func52 sq2 rfl #[.bool ((rd l1 1) == (rd l1 2)), .int .i64 (rd l1 1)] (by rfl) rfl rfl sq51 ?_
              with_reducible refine (kind_when.calls ((rd l1 1) == (rd l1 2)) (rd l1 1) t125 _ A49.out).mono ?_
              rintro e w' ⟨rfl, ⟨nd, rfl⟩⟩
              refine ⟨_, rfl, ?_⟩
              refine hK.out _ _ ⟨((HB.out.cell (World.block_lt_of_cell? w _ hw121_0)).trans hw121_0), ((HB.out.cell (World.block_lt_of_cell? w _ hw122_0)).trans hw122_0), ((HB.out.cell (World.block_lt_of_cell? w _ hw123_0)).trans hw123_0), ((HB.out.cell (World.block_lt_of_cell? w _ hw124_0)).trans hw124_0)⟩ (fun hHeld => ?_)
              clear hK K
              refine norm_ (a' := ?_) ?_ ?_
              rotate_left
              ·show Act.put _ (some 89) _ = _
               simp only [Act.put, List.setIfInBounds_toArray, List.set_cons_zero, List.set_cons_succ, i64_w, i32_w]
               rfl
              refine pure_ (i := 17) (N := some 4) (v := ?_) (a' := ?_) #[true, true, true, true, true, true, true, true, true, true, true, true, true, true, true, true, true, true] rfl rfl (any_of HT_.out sq2) (fun _ _ _ h => h) (Or.inl ⟨by rfl, ?_⟩) ?_ ?_
              rotate_left
              ·intro w'
               go_simp
               with_reducible rfl
              rotate_left
              ·simp only [Act.put, List.setIfInBounds_toArray, List.set_cons_zero, List.set_cons_succ, i64_w, i32_w]
               rfl
              refine done_ (done_of HT_.out sq2) ?_
              try go_wp2
              go_ret
              exact ⟨sq11, sq50⟩
             rw [if_neg c48] at H
             exact absurd H (by simp)
            rw [if_neg c47] at H
            exact absurd H (by simp)
           rw [if_neg c46] at H
           have c46b0 : ((rd l1 0) == 3) = false := beq_eq_false_iff_ne.mpr c46
           have c46b1 : ((rd l1 0) != 3) = true := bne_iff_ne.mpr c46
           by_cases c51 : 1 < (l1.length : Int)
           ·rw [if_pos c51] at H
            have c51b0 : decide (1 < (l1.length : Int)) = true := decide_eq_true c51
            have c51b1 : decide (1 < l1.length) = true := decide_eq_true sq0
            clear c51
            replace H := Option.bind_eq_some_iff.mp H
            obtain ⟨t127, A520, H⟩ := H
            replace H : (some t127) = some r := H
            have A52 := Aside0.mk A520
            clear A520
            obtain rfl := Option.some.inj H
            try go_wp2
            have n0_ := Aside0.mk (below_drew1 HB.out)
            clear HB
            have HB := n0_
            clear n0_
            have p121 : 0 ≤ (0 : Int) := sq0
            have q121 : 0 < (l1.length : Int) := of_decide_eq_true sq6
            obtain ⟨ad121, e121, hx121_0⟩ := Kd.at_int HR1.out 0 p121 q121
            have hw121_0 := hx121_0
            (try rw [show ((0 : Int)).toNat = 0 from rfl] at hw121_0)
            (try rw [show 0 * 1 = 0 from rfl] at hw121_0)
            (try rw [Addr.add_zero'] at hw121_0)
            cases e121
            have qi121 : (0 < l1.length) = True := eq_true sq0
            (try rw [show ((0 : Int)).toNat = 0 from rfl] at hx121_0)
            (try rw [Addr.add_zero'] at hx121_0)
            try replace hx121_0 := (HB.out.cell (World.block_lt_of_cell? w _ hx121_0)).trans hx121_0
            replace p121 := eq_true p121
            replace q121 := eq_true q121
            have p126 : 0 ≤ (1 : Int) := sq0
            have q126 : 1 < (l1.length : Int) := of_decide_eq_true sq6
            obtain ⟨ad126, e126, hx126_0⟩ := Kd.at_int HR1.out 1 p126 q126
            have hw126_0 := hx126_0
            (try rw [show ((1 : Int)).toNat = 1 from rfl] at hw126_0)
            (try rw [show 1 * 1 = 1 from rfl] at hw126_0)
            (try simp only [Nat.reduceMul, Nat.reduceEqDiff, Go.Addr.add, ↓reduceIte] at hw126_0)
            obtain rfl : ad121 = ad126 := (by injection e126)
            (try simp only [show (1 : Int).toNat = 1 from rfl, Nat.reduceMul, Nat.reduceEqDiff, Go.Addr.add, ↓reduceIte] at hx126_0)
            have qi126 : (1 < l1.length) = True := eq_true sq0
            (try rw [show ((1 : Int)).toNat = 1 from rfl] at hx126_0)
            try replace hx126_0 := (HB.out.cell (World.block_lt_of_cell? w _ hx126_0)).trans hx126_0
            replace p126 := eq_true p126
            replace q126 := eq_true q126
            refine start_ (n := 18) (S := fun w' => w'.cell? ad121 = some (.int .i64 (rd l1 0)) ∧ w'.cell? ⟨ad121.block, ad121.off + 1, none⟩ = some (.int .i64 (rd l1 1))) (ds := []) #[false, false, false, false, false, false, false, false, false, false, false, false, false, false, false, false, false, false] sq2 rfl rfl ⟨((HB.out.cell (World.block_lt_of_cell? w _ hw121_0)).trans hw121_0), ((HB.out.cell (World.block_lt_of_cell? w _ hw126_0)).trans hw126_0)⟩ (fun hHeld => ?_); refine with_tabW kind_node.tab27 kind_node.bits27 (fun HT_ HW_ => ?_)
            generalize wc.drew = w53 at HB hx121_0 hx126_0 hHeld ⊢
            refine pure_ (i := 0) (N := some 73) (v := ?_) (a' := ?_) #[true, false, false, false, false, false, false, false, false, false, false, false, false, false, false, false, false, false] rfl rfl (any_of HT_.out sq2) (fun _ _ _ h => h) (Or.inl ⟨by rfl, ?_⟩) ?_ ?_
            rotate_left
            ·intro w'
             go_simp
             with_reducible rfl
            rotate_left
            ·simp only [Act.put, List.setIfInBounds_toArray, List.set_cons_zero, List.set_cons_succ, i64_w, i32_w]
             rfl
            refine pure_ (i := 1) (N := some 74) (v := ?_) (a' := ?_) #[true, true, false, false, false, false, false, false, false, false, false, false, false, false, false, false, false, false] rfl rfl (any_of HT_.out sq2) (fun _ _ _ h => h) (Or.inl ⟨by rfl, ?_⟩) ?_ ?_
            rotate_left
            ·intro w'
             go_simp
             with_reducible rfl
            rotate_left
            ·simp only [Act.put, List.setIfInBounds_toArray, List.set_cons_zero, List.set_cons_succ, i64_w, i32_w]
             rfl
            refine pure_ (i := 13) (N := some 86) (v := ?_) (a' := ?_) #[true, true, false, false, false, false, false, false, false, false, false, false, false, true, false, false, false, false] rfl rfl (any_of HT_.out sq2) (fun _ _ _ h => h) (Or.inl ⟨by rfl, ?_⟩) ?_ ?_
            rotate_left
            ·intro w'
             go_simp
             with_reducible rfl
            rotate_left
            ·simp only [Act.put, List.setIfInBounds_toArray, List.set_cons_zero, List.set_cons_succ, i64_w, i32_w]
             rfl
            refine pure_ (i := 14) (N := some 87) (v := ?_) (a' := ?_) #[true, true, false, false, false, false, false, false, false, false, false, false, false, true, true, false, false, false] rfl rfl (any_of HT_.out sq2) (fun _ _ _ h => h) (Or.inl ⟨by rfl, ?_⟩) ?_ ?_
            rotate_left
            ·intro w'
             go_simp
             with_reducible rfl
            rotate_left
            ·simp only [Act.put, List.setIfInBounds_toArray, List.set_cons_zero, List.set_cons_succ, i64_w, i32_w]
             rfl
            refine take_ (i := 2) (N := some 75) (v := ?_) (a' := ?_) #[true, true, true, false, false, false, false, false, false, false, false, false, false, true, true, false, false, false] rfl rfl (take_ofW HT_.out HW_.out sq2) (fun _ _ _ h => h) (Or.inl ⟨by rfl, ?_⟩) hHeld ?_ ?_
            rotate_left
            ·rintro w' ⟨s0, s1⟩
             go_simp
             with_reducible rfl
            rotate_left
            ·simp only [Act.put, List.setIfInBounds_toArray, List.set_cons_zero, List.set_cons_succ, i64_w, i32_w]
             rfl
            refine pure_ (i := 3) (N := some 76) (v := ?_) (a' := ?_) #[true, true, true, true, false, false, false, false, false, false, false, false, false, true, true, false, false, false] rfl rfl (any_of HT_.out sq2) (fun _ _ _ h => h) (Or.inl ⟨by rfl, ?_⟩) ?_ ?_
            rotate_left
            ·intro w'
             go_simp
             with_reducible rfl
            rotate_left
            ·simp only [Act.put, List.setIfInBounds_toArray, List.set_cons_zero, List.set_cons_succ, i64_w, i32_w]
             rfl
            refine pure_ (i := 4) (N := some 77) (v := ?_) (a' := ?_) #[true, true, true, true, true, false, false, false, false, false, false, false, false, true, true, false, false, false] rfl rfl (any_of HT_.out sq2) (fun _ _ _ h => h) (Or.inl ⟨by rfl, ?_⟩) ?_ ?_
            rotate_left
            ·intro w'
             go_simp
             with_reducible rfl
            rotate_left
            ·simp only [Act.put, List.setIfInBounds_toArray, List.set_cons_zero, List.set_cons_succ, i64_w, i32_w]
             rfl
            refine pure_ (i := 5) (N := some 78) (v := undef) (a' := ?_) #[true, true, true, true, true, true, false, false, false, false, false, false, false, true, true, false, false, false] rfl rfl (any_of HT_.out sq2) (fun _ _ _ h => h) (Or.inr ⟨by rfl, rfl⟩) ?_ ?_
            rotate_left
            ·simp only [Act.put, List.setIfInBounds_toArray, List.set_cons_zero, List.set_cons_succ, i64_w, i32_w]
             rfl
            refine pure_ (i := 6) (N := some 79) (v := undef) (a' := ?_) #[true, true, true, true, true, true, true, false, false, false, false, false, false, true, true, false, false, false] rfl rfl (any_of HT_.out sq2) (fun _ _ _ h => h) (Or.inr ⟨by rfl, rfl⟩) ?_ ?_
            rotate_left
            ·simp only [Act.put, List.setIfInBounds_toArray, List.set_cons_zero, List.set_cons_succ, i64_w, i32_w]
             rfl
            refine pure_ (i := 7) (N := some 80) (v := undef) (a' := ?_) #[true, true, true, true, true, true, true, true, false, false, false, false, false, true, true, false, false, false] rfl rfl (any_of HT_.out sq2) (fun _ _ _ h => h) (Or.inr ⟨by rfl, rfl⟩) ?_ ?_
            rotate_left
            ·simp only [Act.put, List.setIfInBounds_toArray, List.set_cons_zero, List.set_cons_succ, i64_w, i32_w]
             rfl
            refine pure_ (i := 8) (N := some 81) (v := undef) (a' := ?_) #[true, true, true, true, true, true, true, true, true, false, false, false, false, true, true, false, false, false] rfl rfl (any_of HT_.out sq2) (fun _ _ _ h => h) (Or.inr ⟨by rfl, rfl⟩) ?_ ?_
            rotate_left
            ·simp only [Act.put, List.setIfInBounds_toArray, List.set_cons_zero, List.set_cons_succ, i64_w, i32_w]
             rfl
            refine pure_ (i := 9) (N := some 82) (v := undef) (a' := ?_) #[true, true, true, true, true, true, true, true, true, true, false, false, false, true, true, false, false, false] rfl rfl (any_of HT_.out sq2) (fun _ _ _ h => h) (Or.inr ⟨by rfl, rfl⟩) ?_ ?_
            rotate_left
            ·simp only [Act.put, List.setIfInBounds_toArray, List.set_cons_zero, List.set_cons_succ, i64_w, i32_w]
             rfl
            refine pure_ (i := 10) (N := some 83) (v := undef) (a' := ?_) #[true, true, true, true, true, true, true, true, true, true, true, false, false, true, true, false, false, false] rfl rfl (any_of HT_.out sq2) (fun _ _ _ h => h) (Or.inr ⟨by rfl, rfl⟩) ?_ ?_
            rotate_left
            ·simp only [Act.put, List.setIfInBounds_toArray, List.set_cons_zero, List.set_cons_succ, i64_w, i32_w]
             rfl
            refine pure_ (i := 11) (N := some 84) (v := undef) (a' := ?_) #[true, true, true, true, true, true, true, true, true, true, true, true, false, true, true, false, false, false] rfl rfl (any_of HT_.out sq2) (fun _ _ _ h => h) (Or.inr ⟨by rfl, rfl⟩) ?_ ?_
            rotate_left
            ·simp only [Act.put, List.setIfInBounds_toArray, List.set_cons_zero, List.set_cons_succ, i64_w, i32_w]
             rfl
            refine pure_ (i := 12) (N := some 85) (v := ?_) (a' := ?_) #[true, true, true, true, true, true, true, true, true, true, true, true, true, true, true, false, false, false] rfl rfl (any_of HT_.out sq2) (fun _ _ _ h => h) (Or.inl ⟨by rfl, ?_⟩) ?_ ?_
            rotate_left
            ·intro w'
             go_simp
             with_reducible rfl
            rotate_left
            ·simp only [Act.put, List.setIfInBounds_toArray, List.set_cons_zero, List.set_cons_succ, i64_w, i32_w]
             rfl
            refine take_ (i := 15) (N := some 88) (v := ?_) (a' := ?_) #[true, true, true, true, true, true, true, true, true, true, true, true, true, true, true, true, false, false] rfl rfl (take_ofW HT_.out HW_.out sq2) (fun _ _ _ h => h) (Or.inl ⟨by rfl, ?_⟩) hHeld ?_ ?_
            rotate_left
            ·rintro w' ⟨s0, s1⟩
             go_simp
             with_reducible rfl
            rotate_left
            ·simp only [Act.put, List.setIfInBounds_toArray, List.set_cons_zero, List.set_cons_succ, i64_w, i32_w]
             rfl
            refine one_ (i := 16) (N := some 89) #[true, true, true, true, true, true, true, true, true, true, true, true, true, true, true, true, true, false] rfl rfl (one_of HT_.out sq2) sq1 (fun K hK => ?_)
            refine goes_ Try.func52 sq2 rfl #[.bool false, .int .i64 (rd l1 1)] (by rfl) rfl rfl sq51 ?_
            with_reducible refine (kind_when.calls false (rd l1 1) t127 _ A52.out).mono ?_
            rintro e w' ⟨rfl, ⟨nd, rfl⟩⟩
            refine ⟨_, rfl, ?_⟩
            refine hK.out _ _ ⟨((HB.out.cell (World.block_lt_of_cell? w _ hw121_0)).trans hw121_0), ((HB.out.cell (World.block_lt_of_cell? w _ hw126_0)).trans hw126_0)⟩ (fun hHeld => ?_)
            clear hK K
            refine norm_ (a' := ?_) ?_ ?_
            rotate_left
            ·show Act.put _ (some 89) _ = _
             simp only [Act.put, List.setIfInBounds_toArray, List.set_cons_zero, List.set_cons_succ, i64_w, i32_w]
             rfl
            refine pure_ (i := 17) (N := some 4) (v := ?_) (a' := ?_) #[true, true, true, true, true, true, true, true, true, true, true, true, true, true, true, true, true, true] rfl rfl (any_of HT_.out sq2) (fun _ _ _ h => h) (Or.inl ⟨by rfl, ?_⟩) ?_ ?_
            rotate_left
            ·intro w'
             go_simp
             with_reducible rfl
            rotate_left
            ·simp only [Act.put, List.setIfInBounds_toArray, List.set_cons_zero, List.set_cons_succ, i64_w, i32_w]
             rfl
            refine done_ (done_of HT_.out sq2) ?_
            try go_wp2
            go_ret
            exact ⟨sq11, sq50⟩
           rw [if_neg c51] at H
           exact absurd H (by simp)
          rw [if_neg c45] at H
          exact absurd H (by simp)
         rw [if_neg c44] at H
         have c44b0 : (a0 == 20) = false := beq_eq_false_iff_ne.mpr c44
         have c44b1 : (a0 != 20) = true := bne_iff_ne.mpr c44
         replace H := Option.bind_eq_some_iff.mp H
         obtain ⟨t128, A540, H⟩ := H
         replace H : (if 0 < (l1.length : Int) then ((kind_when.f t128 (rd l1 0)).bind fun t130 => (some t130)) else (none)) = some r := H
         have A54 := Aside0.mk A540
         clear A540
         by_cases c55 : 0 < (l1.length : Int)
         ·rw [if_pos c55] at H
          have c55b0 : decide (0 < (l1.length : Int)) = true := decide_eq_true c55
          have c55b1 : decide (0 < l1.length) = true := decide_eq_true sq0
          clear c55
          replace H := Option.bind_eq_some_iff.mp H
          obtain ⟨t130, A560, H⟩ := H
          replace H : (some t130) = some r := H
          have A56 := Aside0.mk A560
          clear A560
          obtain rfl := Option.some.inj H
          try go_wp2
          have n0_ := Aside0.mk (below_drew1 HB.out)
          clear HB
          have HB := n0_
          clear n0_
          have p129 : 0 ≤ (0 : Int) := sq0
          have q129 : 0 < (l1.length : Int) := of_decide_eq_true sq6
          obtain ⟨ad129, e129, hx129_0⟩ := Kd.at_int HR1.out 0 p129 q129
          have hw129_0 := hx129_0
          (try rw [show ((0 : Int)).toNat = 0 from rfl] at hw129_0)
          (try rw [show 0 * 1 = 0 from rfl] at hw129_0)
          (try rw [Addr.add_zero'] at hw129_0)
          cases e129
          have qi129 : (0 < l1.length) = True := eq_true sq0
          (try rw [show ((0 : Int)).toNat = 0 from rfl] at hx129_0)
          (try rw [Addr.add_zero'] at hx129_0)
          try replace hx129_0 := (HB.out.cell (World.block_lt_of_cell? w _ hx129_0)).trans hx129_0
          replace p129 := eq_true p129
          replace q129 := eq_true q129
          refine start_ (n := 7) (S := fun w' => w'.cell? ad129 = some (.int .i64 (rd l1 0))) (ds := []) #[false, false, false, false, false, false, false] sq2 rfl rfl (((HB.out.cell (World.block_lt_of_cell? w _ hw129_0)).trans hw129_0)) (fun hHeld => ?_)
          generalize wc.drew = w57 at HB hx129_0 hHeld ⊢
          refine pure_ (i := 0) (N := some 90) (v := ?_) (a' := ?_) #[true, false, false, false, false, false, false] rfl rfl sq2 (fun _ _ _ h => h) (Or.inl ⟨by rfl, ?_⟩) ?_ ?_
          rotate_left
          ·intro w'
           go_simp
           with_reducible rfl
          rotate_left
          ·simp only [Act.put, List.setIfInBounds_toArray, List.set_cons_zero, List.set_cons_succ, i64_w, i32_w]
           rfl
          refine pure_ (i := 2) (N := some 92) (v := ?_) (a' := ?_) #[true, false, true, false, false, false, false] rfl rfl sq2 (fun _ _ _ h => h) (Or.inl ⟨by rfl, ?_⟩) ?_ ?_
          rotate_left
          ·intro w'
           go_simp
           with_reducible rfl
          rotate_left
          ·simp only [Act.put, List.setIfInBounds_toArray, List.set_cons_zero, List.set_cons_succ, i64_w, i32_w]
           rfl
          refine pure_ (i := 3) (N := some 93) (v := ?_) (a' := ?_) #[true, false, true, true, false, false, false] rfl rfl sq2 (fun _ _ _ h => h) (Or.inl ⟨by rfl, ?_⟩) ?_ ?_
          rotate_left
          ·intro w'
           go_simp
           with_reducible rfl
          rotate_left
          ·simp only [Act.put, List.setIfInBounds_toArray, List.set_cons_zero, List.set_cons_succ, i64_w, i32_w]
           rfl
          refine take_ (i := 4) (N := some 94) (v := ?_) (a' := ?_) #[true, false, true, true, true, false, false] rfl rfl sq2 (fun _ _ _ h => h) (Or.inl ⟨by rfl, ?_⟩) hHeld ?_ ?_
          rotate_left
          ·intro w' s0
           go_simp
           with_reducible rfl
          rotate_left
          ·simp only [Act.put, List.setIfInBounds_toArray, List.set_cons_zero, List.set_cons_succ, i64_w, i32_w]
           rfl
          refine one_ (i := 1) (N := some 91) #[true, true, true, true, true, false, false] rfl rfl sq2 sq1 (fun K hK => ?_)
          refine goes_ Try.func55 sq2 rfl #[.slice (some ad129) l1.length c1] (by rfl) rfl rfl sq51 ?_
          with_reducible refine (kind_alike.calls _ _ l1 t128 _ ?side1 ?side2 A54.out).mono ?_
          (case side1 => repeat (first | exact (Kd.C_below HR1.out HB.out) | (with_reducible refine Kd.C_alloc ?_ _) | (with_reducible refine Kd.C_drewN ?_ _) | (with_reducible refine Kd.C_drew ?_)))
          (case side2 => exact HC1.out)
          rintro e w58 ⟨rfl, hb⟩
          refine ⟨_, rfl, ?_⟩
          have n0_ := Aside0.mk (below_step sq50 hb)
          clear HB
          have HB := n0_
          clear n0_
          (try clear hb)
          (try clear hb2)
          (try clear hk)
          (try clear hi)
          refine hK.out _ _ (((HB.out.cell (World.block_lt_of_cell? w _ hw129_0)).trans hw129_0)) (fun hHeld => ?_)
          clear hK K
          refine norm_ (a' := ?_) ?_ ?_
          rotate_left
          ·show Act.put _ (some 91) _ = _
           simp only [Act.put, List.setIfInBounds_toArray, List.set_cons_zero, List.set_cons_succ, i64_w, i32_w]
           rfl
          refine one_ (i := 5) (N := some 95) #[true, true, true, true, true, true, false] rfl rfl sq2 sq1 (fun K hK => ?_)
          refine goes_ Try.func52 sq2 rfl #[.bool t128, .int .i64 (rd l1 0)] (by rfl) rfl rfl sq51 ?_
          with_reducible refine (kind_when.calls t128 (rd l1 0) t130 _ A56.out).mono ?_
          rintro e w' ⟨rfl, ⟨nd, rfl⟩⟩
          refine ⟨_, rfl, ?_⟩
          refine hK.out _ _ (((HB.out.cell (World.block_lt_of_cell? w _ hw129_0)).trans hw129_0)) (fun hHeld => ?_)
          clear hK K
          refine norm_ (a' := ?_) ?_ ?_
          rotate_left
          ·show Act.put _ (some 95) _ = _
           simp only [Act.put, List.setIfInBounds_toArray, List.set_cons_zero, List.set_cons_succ, i64_w, i32_w]
           rfl
          refine pure_ (i := 6) (N := some 4) (v := ?_) (a' := ?_) #[true, true, true, true, true, true, true] rfl rfl sq2 (fun _ _ _ h => h) (Or.inl ⟨by rfl, ?_⟩) ?_ ?_
          rotate_left
          ·intro w'
           go_simp
           with_reducible rfl
          rotate_left
          ·simp only [Act.put, List.setIfInBounds_toArray, List.set_cons_zero, List.set_cons_succ, i64_w, i32_w]
           rfl
          refine done_ sq2 ?_
          try go_wp2
          go_ret
          exact ⟨sq11, sq50⟩
         rw [if_neg c55] at H
         exact absurd H (by simp)

end Go.Proofs.Ytpfnnamicbbobaa.PAll
