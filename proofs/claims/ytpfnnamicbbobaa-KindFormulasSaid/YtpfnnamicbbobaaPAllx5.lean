-- Written by a program of this session (wip/tools/print2.sh): functions as plain Lean, and that the machine's calls do what they say.
import Derived.Test.YtpfnnamicbbobaaPAllx0
import Derived.Test.YtpfnnamicbbobaaPAllx4
namespace Go.Proofs.Ytpfnnamicbbobaa.PAll
open Go.RowKit Go.Proofs.YtpfnnamicbbobaaW.PrintWords Go.Proofs.YtpfnnamicbbobaaW.PrintLast Go.Proofs.YtpfnnamicbbobaaW.PrintMore
attribute [local go_sem] max2_int min2_int max_two min_two max_three min_three max_four min_four   -- for this text's walks alone
set_option linter.unusedVariables false
set_option linter.unusedSimpArgs false

/-! ### kind_node: function 42 -/
mutual
def kind_node.j0 : Nat → List Int → Int → Bool → Option (Int)
 | 0, _, _, _ => none
 | k + 1, x1, x5, x10 => if x10 = true then (some 3) else (if x5 = 7 then (if 0 < (x1.length : Int) then ((kind_when.f ((rd x1 0) == 3) 3).bind fun t111 => (some t111)) else (none)) else (if x5 = 8 then (if 0 < (x1.length : Int) then (if 1 < (x1.length : Int) then ((kind_product.f k (rd x1 0) (rd x1 1)).bind fun t114 => (some t114)) else (none)) else (none)) else (if x5 = 9 then (if 0 < (x1.length : Int) then (if 1 < (x1.length : Int) then ((kind_quotient.f k (rd x1 0) (rd x1 1)).bind fun t117 => (some t117)) else (none)) else (none)) else (if x5 = 12 then (kind_node.j1 k x1 x5 (x5 == 12)) else (if x5 = 13 then (kind_node.j1 k x1 x5 (x5 == 13)) else (if x5 = 14 then (kind_node.j1 k x1 x5 (x5 == 14)) else (kind_node.j1 k x1 x5 (x5 == 15))))))))
def kind_node.j1 : Nat → List Int → Int → Bool → Option (Int)
 | 0, _, _, _ => none
 | k + 1, x1, x5, x38 => if x38 = true then ((kind_alike.f x1).bind fun t118 => ((kind_when.f t118 3).bind fun t119 => (some t119))) else (if x5 = 16 then (kind_node.j2 k x1 x5 (x5 == 16)) else (kind_node.j2 k x1 x5 (x5 == 17)))
def kind_node.j2 : Nat → List Int → Int → Bool → Option (Int)
 | 0, _, _, _ => none
 | k + 1, x1, x5, x46 => if x46 = true then (if 0 < (x1.length : Int) then (if 1 < (x1.length : Int) then ((kind_when.f ((rd x1 0) == (rd x1 1)) 3).bind fun t122 => (some t122)) else (none)) else (none)) else (if x5 = 18 then (kind_node.j3 k x1 x5 (x5 == 18)) else (kind_node.j3 k x1 x5 (x5 == 19)))
def kind_node.j3 : Nat → List Int → Int → Bool → Option (Int)
 | 0, _, _, _ => none
 | k + 1, x1, x5, x57 => if x57 = true then (if 0 < (x1.length : Int) then (if (rd x1 0) = 3 then (if 1 < (x1.length : Int) then ((kind_when.f ((rd x1 1) == 3) 3).bind fun t125 => (some t125)) else (none)) else ((kind_when.f false 3).bind fun t126 => (some t126))) else (none)) else (if x5 = 20 then (if 0 < (x1.length : Int) then (if (rd x1 0) = 3 then (if 1 < (x1.length : Int) then (if 2 < (x1.length : Int) then ((kind_when.f ((rd x1 1) == (rd x1 2)) (rd x1 1)).bind fun t131 => (some t131)) else (none)) else (none)) else (if 1 < (x1.length : Int) then ((kind_when.f false (rd x1 1)).bind fun t133 => (some t133)) else (none))) else (none)) else ((kind_alike.f x1).bind fun t134 => (if 0 < (x1.length : Int) then ((kind_when.f t134 (rd x1 0)).bind fun t136 => (some t136)) else (none))))
end
def kind_node.f (k : Nat) (a0 : Int) (l1 : List Int) : Option (Int) := if a0 = 1 then (some 1) else (if a0 = 2 then (some 2) else (if a0 = 3 then (kind_node.j0 k l1 a0 (a0 == 3)) else (kind_node.j0 k l1 a0 (a0 == 4))))
theorem kind_node.mono_l : ∀ k, (∀ y0 y1 y2, LeO (kind_node.j0 k y0 y1 y2) (kind_node.j0 (k + 1) y0 y1 y2)) ∧ (∀ y0 y1 y2, LeO (kind_node.j1 k y0 y1 y2) (kind_node.j1 (k + 1) y0 y1 y2)) ∧ (∀ y0 y1 y2, LeO (kind_node.j2 k y0 y1 y2) (kind_node.j2 (k + 1) y0 y1 y2)) ∧ (∀ y0 y1 y2, LeO (kind_node.j3 k y0 y1 y2) (kind_node.j3 (k + 1) y0 y1 y2))
 | 0 => ⟨fun _ _ _ r h => by simp [kind_node.j0] at h, fun _ _ _ r h => by simp [kind_node.j1] at h, fun _ _ _ r h => by simp [kind_node.j2] at h, fun _ _ _ r h => by simp [kind_node.j3] at h⟩
 | k + 1 => by
  obtain ⟨ih0, ih1, ih2, ih3⟩ := kind_node.mono_l k
  refine ⟨?_, ?_, ?_, ?_⟩
  ·intro y0 y1 y2
   unfold kind_node.j0
   exact sq144
  ·intro y0 y1 y2
   unfold kind_node.j1
   exact sq144
  ·intro y0 y1 y2
   unfold kind_node.j2
   exact sq144
  intro y0 y1 y2
  unfold kind_node.j3
  exact sq144
theorem kind_node.mono : ∀ a0 a1 k, LeO (kind_node.f k a0 a1) (kind_node.f (k + 1) a0 a1) := by
 intro a0 a1 k
 obtain ⟨ih0, ih1, ih2, ih3⟩ := kind_node.mono_l k
 unfold kind_node.f
 exact sq144
def kind_node.T12 : Bool × List (List Nat × List Nat) := (true, [([], []), ([0], [0]), ([1], [1]), ([], []), ([3], [3]), ([4], [4]), ([2, 5], [2, 5]), ([6, 6, 0, 1, 2, 3, 4, 5, 6], [6])])
def kind_node.B12 : List Nat := [0, 1, 3, 0, 8, 24, 63, 127]
theorem kind_node.tab12 : rtab .any (opsOf Try.f42 12) = kind_node.T12 := by kernel_rfl
theorem kind_node.bits12 : waitsOk kind_node.T12.2 kind_node.B12 = true := by kernel_rfl
def kind_node.T14 : Bool × List (List Nat × List Nat) := (true, [([], []), ([0], [0]), ([1], [1]), ([], []), ([3], [3]), ([4], [4]), ([2, 5], [2, 5]), ([6, 6, 0, 1, 2, 3, 4, 5, 6], [6])])
def kind_node.B14 : List Nat := [0, 1, 3, 0, 8, 24, 63, 127]
theorem kind_node.tab14 : rtab .any (opsOf Try.f42 14) = kind_node.T14 := by kernel_rfl
theorem kind_node.bits14 : waitsOk kind_node.T14.2 kind_node.B14 = true := by kernel_rfl
def kind_node.T22 : Bool × List (List Nat × List Nat) := (true, [([], []), ([0], [0]), ([1], [1]), ([], []), ([3], [3]), ([4], [4]), ([2, 5], [2, 5]), ([6], [6]), ([7, 7, 0, 1, 2, 3, 4, 5, 6, 7], [7])])
def kind_node.B22 : List Nat := [0, 1, 3, 0, 8, 24, 63, 127, 255]
theorem kind_node.tab22 : rtab .any (opsOf Try.f42 22) = kind_node.T22 := by kernel_rfl
theorem kind_node.bits22 : waitsOk kind_node.T22.2 kind_node.B22 = true := by kernel_rfl
def kind_node.T27 : Bool × List (List Nat × List Nat) := (true, [([], []), ([0], [0]), ([1], [1]), ([2], [2]), ([3], [3]), ([4], [4]), ([5, 4], [4, 5]), ([6, 4], [4, 6]), ([4], [4]), ([8, 4], [4, 8]), ([9, 4], [4, 9]), ([7, 10, 4], [4, 7, 10]), ([4, 11], [4, 11]), ([], []), ([13], [13]), ([14], [14]), ([12, 15, 4], [12, 15]), ([16, 16, 0, 1, 2, 3, 4, 5, 6, 7, 8, 9, 10, 11, 12, 13, 14, 15, 16], [16])])
def kind_node.B27 : List Nat := [0, 1, 3, 7, 15, 31, 63, 127, 31, 287, 799, 2047, 4095, 0, 8192, 24576, 65535, 131071]
theorem kind_node.tab27 : rtab .any (opsOf Try.f42 27) = kind_node.T27 := by kernel_rfl
theorem kind_node.bits27 : waitsOk kind_node.T27.2 kind_node.B27 = true := by kernel_rfl
set_option maxHeartbeats 8000000 in
set_option maxRecDepth 100000 in
theorem kind_node.calls (k : Nat) (a0 : Int) (A1 : Option Addr) (c1 : Nat) (l1 : List Int) (r : Int) (w : World) (hr1 : Kd.C (Kd.int .i64) w A1 l1.length l1) (hc1 : l1.length ≤ c1) (h : kind_node.f k a0 l1 = some r) :
  Calls Try.prog 42 #[.int .i64 a0, .slice A1 l1.length c1] w fun e w' => e = .returned (.int .i64 r) ∧ Below w.heap.size w w' := by
 have HR1 := Aside0.mk hr1
 have HC1 := Aside0.mk hc1
 clear hr1 hc1
 have HB := Aside0.mk (Below.refl w.heap.size w)
 have H : (if a0 = 1 then (some 1) else (if a0 = 2 then (some 2) else (if a0 = 3 then (kind_node.j0 k l1 a0 (a0 == 3)) else (kind_node.j0 k l1 a0 (a0 == 4))))) = some r := h
 clear h
 by_cases c3 : a0 = 1
 ·rw [if_pos c3] at H
  have c3b0 : (a0 == 1) = true := beq_iff_eq.mpr c3
  have c3b1 : (a0 != 1) = false := bne_eq_false_iff_eq.mpr c3
  clear c3
  obtain rfl := Option.some.inj H
  go_enter Try.func42, Try.ntmps42
  go_wp2
  go_ret
  exact ⟨sq13, sq49⟩
 rw [if_neg c3] at H
 have c3b0 : (a0 == 1) = false := beq_eq_false_iff_ne.mpr c3
 have c3b1 : (a0 != 1) = true := bne_iff_ne.mpr c3
 by_cases c4 : a0 = 2
 ·rw [if_pos c4] at H
  have c4b0 : (a0 == 2) = true := beq_iff_eq.mpr c4
  have c4b1 : (a0 != 2) = false := bne_eq_false_iff_eq.mpr c4
  clear c4
  obtain rfl := Option.some.inj H
  go_enter Try.func42, Try.ntmps42
  go_wp2
  go_ret
  exact ⟨sq13, sq49⟩
 rw [if_neg c4] at H
 have c4b0 : (a0 == 2) = false := beq_eq_false_iff_ne.mpr c4
 have c4b1 : (a0 != 2) = true := bne_iff_ne.mpr c4
 have HC5 := Aside0.mk H
 clear H
 go_enter Try.func42, Try.ntmps42
 go_upto_if 10 with (fail)
 go_cut [10] (fun v10 wc => ∃ (kq : Nat) (x10_4 : Bool), v10 = .bool x10_4 ∧ Aside0 (kind_node.j0 kq l1 a0 x10_4 = some r) ∧ Aside0 (kq ≤ k) ∧ Aside0 (Below w.heap.size w wc))
 case first =>
  have H := HC5.out
  clear HC5
  by_cases c6 : a0 = 3
  ·rw [if_pos c6] at H
   have c6b0 : (a0 == 3) = true := beq_iff_eq.mpr c6
   have c6b1 : (a0 != 3) = false := bne_eq_false_iff_eq.mpr c6
   clear c6
   (first | rw [c6b0] | (simp only [i64_w, i32_w]; rw [c6b0]) | skip)
   have H' := Aside0.mk H
   clear H
   go_wp2
   go_meet
   case rel => exact ⟨_, ((a0 == 3)), sq6, H', ⟨sq4⟩, ⟨sq49⟩⟩
  rw [if_neg c6] at H
  have c6b0 : (a0 == 3) = false := beq_eq_false_iff_ne.mpr c6
  have c6b1 : (a0 != 3) = true := bne_iff_ne.mpr c6
  (first | rw [c6b0] | (simp only [i64_w, i32_w]; rw [c6b0]) | skip)
  have H' := Aside0.mk H
  clear H
  go_wp2
  go_meet
  case rel => exact ⟨_, ((a0 == 4)), sq6, H', ⟨sq4⟩, ⟨sq49⟩⟩
 case rest =>
  clear HC5; try clear c1; try clear p2; try clear c3; try clear c3b0; try clear c3b1; try clear c4; try clear c4b0; try clear c4b1; try clear c6; try clear c6b0; try clear c6b1
  obtain ⟨kq, x10_4, rfl, HA, HJ4, HB⟩ := hcut
  cases kq with
  | zero => exact absurd HA.out (by simp [kind_node.j0])
  | succ kj4 =>
   have H := HA.out
   clear HA
   simp only [kind_node.j0] at H
   by_cases c7 : x10_4 = true
   ·subst c7
    replace H := (itT_ _ _).symm.trans H
    obtain rfl := Option.some.inj H
    go_wp2
    go_ret
    exact ⟨sq13, sq49⟩
   replace c7 := Bool.eq_false_iff.mpr c7
   subst c7
   replace H := (itF_ _ _).symm.trans H
   by_cases c8 : a0 = 7
   ·rw [if_pos c8] at H
    have c8b0 : (a0 == 7) = true := beq_iff_eq.mpr c8
    have c8b1 : (a0 != 7) = false := bne_eq_false_iff_eq.mpr c8
    clear c8
    by_cases c9 : 0 < (l1.length : Int)
    ·rw [if_pos c9] at H
     have c9b0 : decide (0 < (l1.length : Int)) = true := decide_eq_true c9
     have c9b1 : decide (0 < l1.length) = true := decide_eq_true sq0
     clear c9
     replace H := Option.bind_eq_some_iff.mp H
     obtain ⟨t111, A100, H⟩ := H
     replace H : (some t111) = some r := H
     have A10 := Aside0.mk A100
     clear A100
     obtain rfl := Option.some.inj H
     have p110 : 0 ≤ (0 : Int) := sq0
     have q110 : 0 < (l1.length : Int) := of_decide_eq_true sq7
     obtain ⟨ad110, e110, hx110_0⟩ := Kd.at_int HR1.out 0 p110 q110
     cases e110
     have qi110 : (0 < l1.length) = True := eq_true sq0
     (try rw [show ((0 : Int)).toNat = 0 from rfl] at hx110_0)
     (try rw [Addr.add_zero'] at hx110_0)
     try replace hx110_0 := (HB.out.cell (World.block_lt_of_cell? w _ hx110_0)).trans hx110_0
     replace p110 := eq_true p110
     replace q110 := eq_true q110
     go_wp2_with (first | ((with_reducible refine gate_callee (f := 52) rfl ?_); refine goesL_ (some 19) rfl rfl Try.func52 sq2 rfl #[.bool ((rd l1 0) == 3), .int .i64 3] rfl sq50 ?_; (with_reducible refine (kind_when.calls ((rd l1 0) == 3) 3 t111 _ A10.out).mono ?_); rintro e w' ⟨rfl, ⟨nd, rfl⟩⟩; refine ⟨_, rfl, ?_⟩))
     go_ret
     exact ⟨sq13, sq49⟩
    rw [if_neg c9] at H
    exact absurd H (by simp)
   rw [if_neg c8] at H
   have c8b0 : (a0 == 7) = false := beq_eq_false_iff_ne.mpr c8
   have c8b1 : (a0 != 7) = true := bne_iff_ne.mpr c8
   by_cases c11 : a0 = 8
   ·rw [if_pos c11] at H
    have c11b0 : (a0 == 8) = true := beq_iff_eq.mpr c11
    have c11b1 : (a0 != 8) = false := bne_eq_false_iff_eq.mpr c11
    clear c11
    by_cases c12 : 0 < (l1.length : Int)
    ·rw [if_pos c12] at H
     have c12b0 : decide (0 < (l1.length : Int)) = true := decide_eq_true c12
     have c12b1 : decide (0 < l1.length) = true := decide_eq_true sq0
     clear c12
     by_cases c13 : 1 < (l1.length : Int)
     ·rw [if_pos c13] at H
      have c13b0 : decide (1 < (l1.length : Int)) = true := decide_eq_true c13
      have c13b1 : decide (1 < l1.length) = true := decide_eq_true sq0
      clear c13
      replace H := Option.bind_eq_some_iff.mp H
      obtain ⟨t114, A140, H⟩ := H
      replace H : (some t114) = some r := H
      have A14 := Aside0.mk A140
      clear A140
      obtain rfl := Option.some.inj H
      try go_wp2
      have n0_ := Aside0.mk (below_drew1 HB.out)
      clear HB
      have HB := n0_
      clear n0_
      have p112 : 0 ≤ (0 : Int) := sq0
      have q112 : 0 < (l1.length : Int) := of_decide_eq_true sq7
      obtain ⟨ad112, e112, hx112_0⟩ := Kd.at_int HR1.out 0 p112 q112
      have hw112_0 := hx112_0
      (try rw [show ((0 : Int)).toNat = 0 from rfl] at hw112_0)
      (try rw [show 0 * 1 = 0 from rfl] at hw112_0)
      (try rw [Addr.add_zero'] at hw112_0)
      cases e112
      have qi112 : (0 < l1.length) = True := eq_true sq0
      (try rw [show ((0 : Int)).toNat = 0 from rfl] at hx112_0)
      (try rw [Addr.add_zero'] at hx112_0)
      try replace hx112_0 := (HB.out.cell (World.block_lt_of_cell? w _ hx112_0)).trans hx112_0
      replace p112 := eq_true p112
      replace q112 := eq_true q112
      have p113 : 0 ≤ (1 : Int) := sq0
      have q113 : 1 < (l1.length : Int) := of_decide_eq_true sq7
      obtain ⟨ad113, e113, hx113_0⟩ := Kd.at_int HR1.out 1 p113 q113
      have hw113_0 := hx113_0
      (try rw [show ((1 : Int)).toNat = 1 from rfl] at hw113_0)
      (try rw [show 1 * 1 = 1 from rfl] at hw113_0)
      (try simp only [Nat.reduceMul, Nat.reduceEqDiff, Go.Addr.add, ↓reduceIte] at hw113_0)
      obtain rfl : ad112 = ad113 := (by injection e113)
      (try simp only [show (1 : Int).toNat = 1 from rfl, Nat.reduceMul, Nat.reduceEqDiff, Go.Addr.add, ↓reduceIte] at hx113_0)
      have qi113 : (1 < l1.length) = True := eq_true sq0
      (try rw [show ((1 : Int)).toNat = 1 from rfl] at hx113_0)
      try replace hx113_0 := (HB.out.cell (World.block_lt_of_cell? w _ hx113_0)).trans hx113_0
      replace p113 := eq_true p113
      replace q113 := eq_true q113
      refine start_ (n := 8) (S := fun w' => w'.cell? ad112 = some (.int .i64 (rd l1 0)) ∧ w'.cell? ⟨ad112.block, ad112.off + 1, none⟩ = some (.int .i64 (rd l1 1))) (ds := []) #[false, false, false, false, false, false, false, false] sq2 rfl rfl ⟨((HB.out.cell (World.block_lt_of_cell? w _ hw112_0)).trans hw112_0), ((HB.out.cell (World.block_lt_of_cell? w _ hw113_0)).trans hw113_0)⟩ (fun hHeld => ?_); refine with_tabW kind_node.tab12 kind_node.bits12 (fun HT_ HW_ => ?_)
      generalize wc.drew = w15 at HB hx112_0 hx113_0 hHeld ⊢
      refine pure_ (i := 0) (N := some 22) (v := ?_) (a' := ?_) #[true, false, false, false, false, false, false, false] rfl rfl (any_of HT_.out sq2) (fun _ _ _ h => h) (Or.inl ⟨by rfl, ?_⟩) ?_ ?_
      rotate_left
      ·intro w'
       go_simp
       with_reducible rfl
      rotate_left
      ·simp only [Act.put, List.setIfInBounds_toArray, List.set_cons_zero, List.set_cons_succ, i64_w, i32_w]
       rfl
      refine pure_ (i := 1) (N := some 23) (v := ?_) (a' := ?_) #[true, true, false, false, false, false, false, false] rfl rfl (any_of HT_.out sq2) (fun _ _ _ h => h) (Or.inl ⟨by rfl, ?_⟩) ?_ ?_
      rotate_left
      ·intro w'
       go_simp
       with_reducible rfl
      rotate_left
      ·simp only [Act.put, List.setIfInBounds_toArray, List.set_cons_zero, List.set_cons_succ, i64_w, i32_w]
       rfl
      refine pure_ (i := 3) (N := some 25) (v := ?_) (a' := ?_) #[true, true, false, true, false, false, false, false] rfl rfl (any_of HT_.out sq2) (fun _ _ _ h => h) (Or.inl ⟨by rfl, ?_⟩) ?_ ?_
      rotate_left
      ·intro w'
       go_simp
       with_reducible rfl
      rotate_left
      ·simp only [Act.put, List.setIfInBounds_toArray, List.set_cons_zero, List.set_cons_succ, i64_w, i32_w]
       rfl
      refine pure_ (i := 4) (N := some 26) (v := ?_) (a' := ?_) #[true, true, false, true, true, false, false, false] rfl rfl (any_of HT_.out sq2) (fun _ _ _ h => h) (Or.inl ⟨by rfl, ?_⟩) ?_ ?_
      rotate_left
      ·intro w'
       go_simp
       with_reducible rfl
      rotate_left
      ·simp only [Act.put, List.setIfInBounds_toArray, List.set_cons_zero, List.set_cons_succ, i64_w, i32_w]
       rfl
      refine take_ (i := 2) (N := some 24) (v := ?_) (a' := ?_) #[true, true, true, true, true, false, false, false] rfl rfl (take_ofW HT_.out HW_.out sq2) (fun _ _ _ h => h) (Or.inl ⟨by rfl, ?_⟩) hHeld ?_ ?_
      rotate_left
      ·rintro w' ⟨s0, s1⟩
       go_simp
       with_reducible rfl
      rotate_left
      ·simp only [Act.put, List.setIfInBounds_toArray, List.set_cons_zero, List.set_cons_succ, i64_w, i32_w]
       rfl
      refine take_ (i := 5) (N := some 27) (v := ?_) (a' := ?_) #[true, true, true, true, true, true, false, false] rfl rfl (take_ofW HT_.out HW_.out sq2) (fun _ _ _ h => h) (Or.inl ⟨by rfl, ?_⟩) hHeld ?_ ?_
      rotate_left
      ·rintro w' ⟨s0, s1⟩
       go_simp
       with_reducible rfl
      rotate_left
      ·simp only [Act.put, List.setIfInBounds_toArray, List.set_cons_zero, List.set_cons_succ, i64_w, i32_w]
       rfl
      refine one_ (i := 6) (N := some 28) #[true, true, true, true, true, true, true, false] rfl rfl (one_of HT_.out sq2) sq1 (fun K hK => ?_)
      refine goes_ Try.func53 sq2 rfl #[.int .i64 (rd l1 0), .int .i64 (rd l1 1)] (by rfl) rfl rfl sq50 ?_
      with_reducible refine (kind_product.calls kj4 (rd l1 0) (rd l1 1) t114 _ A14.out).mono ?_
      rintro e w' ⟨rfl, ⟨nd, rfl⟩⟩
      refine ⟨_, rfl, ?_⟩
      refine hK.out _ _ ⟨((HB.out.cell (World.block_lt_of_cell? w _ hw112_0)).trans hw112_0), ((HB.out.cell (World.block_lt_of_cell? w _ hw113_0)).trans hw113_0)⟩ (fun hHeld => ?_)
      clear hK K
      refine norm_ (a' := ?_) ?_ ?_
      rotate_left
      ·show Act.put _ (some 28) _ = _
       simp only [Act.put, List.setIfInBounds_toArray, List.set_cons_zero, List.set_cons_succ, i64_w, i32_w]
       rfl
      refine pure_ (i := 7) (N := some 4) (v := ?_) (a' := ?_) #[true, true, true, true, true, true, true, true] rfl rfl (any_of HT_.out sq2) (fun _ _ _ h => h) (Or.inl ⟨by rfl, ?_⟩) ?_ ?_
      rotate_left
      ·intro w'
       go_simp
       with_reducible rfl
      rotate_left
      ·simp only [Act.put, List.setIfInBounds_toArray, List.set_cons_zero, List.set_cons_succ, i64_w, i32_w]
       rfl
      refine done_ (done_of HT_.out sq2) ?_
      try go_wp2
      go_ret
      exact ⟨sq13, sq49⟩
     rw [if_neg c13] at H
     exact absurd H (by simp)
    rw [if_neg c12] at H
    exact absurd H (by simp)
   rw [if_neg c11] at H
   have c11b0 : (a0 == 8) = false := beq_eq_false_iff_ne.mpr c11
   have c11b1 : (a0 != 8) = true := bne_iff_ne.mpr c11
   by_cases c16 : a0 = 9
   ·rw [if_pos c16] at H
    have c16b0 : (a0 == 9) = true := beq_iff_eq.mpr c16
    have c16b1 : (a0 != 9) = false := bne_eq_false_iff_eq.mpr c16
    clear c16
    by_cases c17 : 0 < (l1.length : Int)
    ·rw [if_pos c17] at H
     have c17b0 : decide (0 < (l1.length : Int)) = true := decide_eq_true c17
     have c17b1 : decide (0 < l1.length) = true := decide_eq_true sq0
     clear c17
     by_cases c18 : 1 < (l1.length : Int)
     ·rw [if_pos c18] at H
      have c18b0 : decide (1 < (l1.length : Int)) = true := decide_eq_true c18
      have c18b1 : decide (1 < l1.length) = true := decide_eq_true sq0
      clear c18
      replace H := Option.bind_eq_some_iff.mp H
      obtain ⟨t117, A190, H⟩ := H
      replace H : (some t117) = some r := H
      have A19 := Aside0.mk A190
      clear A190
      obtain rfl := Option.some.inj H
      try go_wp2
      have n0_ := Aside0.mk (below_drew1 HB.out)
      clear HB
      have HB := n0_
      clear n0_
      have p115 : 0 ≤ (0 : Int) := sq0
      have q115 : 0 < (l1.length : Int) := of_decide_eq_true sq7
      obtain ⟨ad115, e115, hx115_0⟩ := Kd.at_int HR1.out 0 p115 q115
      have hw115_0 := hx115_0
      (try rw [show ((0 : Int)).toNat = 0 from rfl] at hw115_0)
      (try rw [show 0 * 1 = 0 from rfl] at hw115_0)
      (try rw [Addr.add_zero'] at hw115_0)
      cases e115
      have qi115 : (0 < l1.length) = True := eq_true sq0
      (try rw [show ((0 : Int)).toNat = 0 from rfl] at hx115_0)
      (try rw [Addr.add_zero'] at hx115_0)
      try replace hx115_0 := (HB.out.cell (World.block_lt_of_cell? w _ hx115_0)).trans hx115_0
      replace p115 := eq_true p115
      replace q115 := eq_true q115
      have p116 : 0 ≤ (1 : Int) := sq0
      have q116 : 1 < (l1.length : Int) := of_decide_eq_true sq7
      obtain ⟨ad116, e116, hx116_0⟩ := Kd.at_int HR1.out 1 p116 q116
      have hw116_0 := hx116_0
      (try rw [show ((1 : Int)).toNat = 1 from rfl] at hw116_0)
      (try rw [show 1 * 1 = 1 from rfl] at hw116_0)
      (try simp only [Nat.reduceMul, Nat.reduceEqDiff, Go.Addr.add, ↓reduceIte] at hw116_0)
      obtain rfl : ad115 = ad116 := (by injection e116)
      (try simp only [show (1 : Int).toNat = 1 from rfl, Nat.reduceMul, Nat.reduceEqDiff, Go.Addr.add, ↓reduceIte] at hx116_0)
      have qi116 : (1 < l1.length) = True := eq_true sq0
      (try rw [show ((1 : Int)).toNat = 1 from rfl] at hx116_0)
      try replace hx116_0 := (HB.out.cell (World.block_lt_of_cell? w _ hx116_0)).trans hx116_0
      replace p116 := eq_true p116
      replace q116 := eq_true q116
      refine start_ (n := 8) (S := fun w' => w'.cell? ad115 = some (.int .i64 (rd l1 0)) ∧ w'.cell? ⟨ad115.block, ad115.off + 1, none⟩ = some (.int .i64 (rd l1 1))) (ds := []) #[false, false, false, false, false, false, false, false] sq2 rfl rfl ⟨((HB.out.cell (World.block_lt_of_cell? w _ hw115_0)).trans hw115_0), ((HB.out.cell (World.block_lt_of_cell? w _ hw116_0)).trans hw116_0)⟩ (fun hHeld => ?_); refine with_tabW kind_node.tab14 kind_node.bits14 (fun HT_ HW_ => ?_)
      generalize wc.drew = w20 at HB hx115_0 hx116_0 hHeld ⊢
      refine pure_ (i := 0) (N := some 31) (v := ?_) (a' := ?_) #[true, false, false, false, false, false, false, false] rfl rfl (any_of HT_.out sq2) (fun _ _ _ h => h) (Or.inl ⟨by rfl, ?_⟩) ?_ ?_
      rotate_left
      ·intro w'
       go_simp
       with_reducible rfl
      rotate_left
      ·simp only [Act.put, List.setIfInBounds_toArray, List.set_cons_zero, List.set_cons_succ, i64_w, i32_w]
       rfl
      refine pure_ (i := 1) (N := some 32) (v := ?_) (a' := ?_) #[true, true, false, false, false, false, false, false] rfl rfl (any_of HT_.out sq2) (fun _ _ _ h => h) (Or.inl ⟨by rfl, ?_⟩) ?_ ?_
      rotate_left
      ·intro w'
       go_simp
       with_reducible rfl
      rotate_left
      ·simp only [Act.put, List.setIfInBounds_toArray, List.set_cons_zero, List.set_cons_succ, i64_w, i32_w]
       rfl
      refine pure_ (i := 3) (N := some 34) (v := ?_) (a' := ?_) #[true, true, false, true, false, false, false, false] rfl rfl (any_of HT_.out sq2) (fun _ _ _ h => h) (Or.inl ⟨by rfl, ?_⟩) ?_ ?_
      rotate_left
      ·intro w'
       go_simp
       with_reducible rfl
      rotate_left
      ·simp only [Act.put, List.setIfInBounds_toArray, List.set_cons_zero, List.set_cons_succ, i64_w, i32_w]
       rfl
      refine pure_ (i := 4) (N := some 35) (v := ?_) (a' := ?_) #[true, true, false, true, true, false, false, false] rfl rfl (any_of HT_.out sq2) (fun _ _ _ h => h) (Or.inl ⟨by rfl, ?_⟩) ?_ ?_
      rotate_left
      ·intro w'
       go_simp
       with_reducible rfl
      rotate_left
      ·simp only [Act.put, List.setIfInBounds_toArray, List.set_cons_zero, List.set_cons_succ, i64_w, i32_w]
       rfl
      refine take_ (i := 2) (N := some 33) (v := ?_) (a' := ?_) #[true, true, true, true, true, false, false, false] rfl rfl (take_ofW HT_.out HW_.out sq2) (fun _ _ _ h => h) (Or.inl ⟨by rfl, ?_⟩) hHeld ?_ ?_
      rotate_left
      ·rintro w' ⟨s0, s1⟩
       go_simp
       with_reducible rfl
      rotate_left
      ·simp only [Act.put, List.setIfInBounds_toArray, List.set_cons_zero, List.set_cons_succ, i64_w, i32_w]
       rfl
      refine take_ (i := 5) (N := some 36) (v := ?_) (a' := ?_) #[true, true, true, true, true, true, false, false] rfl rfl (take_ofW HT_.out HW_.out sq2) (fun _ _ _ h => h) (Or.inl ⟨by rfl, ?_⟩) hHeld ?_ ?_
      rotate_left
      ·rintro w' ⟨s0, s1⟩
       go_simp
       with_reducible rfl
      rotate_left
      ·simp only [Act.put, List.setIfInBounds_toArray, List.set_cons_zero, List.set_cons_succ, i64_w, i32_w]
       rfl
      refine one_ (i := 6) (N := some 37) #[true, true, true, true, true, true, true, false] rfl rfl (one_of HT_.out sq2) sq1 (fun K hK => ?_)
      refine goes_ Try.func54 sq2 rfl #[.int .i64 (rd l1 0), .int .i64 (rd l1 1)] (by rfl) rfl rfl sq50 ?_
      with_reducible refine (kind_quotient.calls kj4 (rd l1 0) (rd l1 1) t117 _ A19.out).mono ?_
      rintro e w' ⟨rfl, ⟨nd, rfl⟩⟩
      refine ⟨_, rfl, ?_⟩
      refine hK.out _ _ ⟨((HB.out.cell (World.block_lt_of_cell? w _ hw115_0)).trans hw115_0), ((HB.out.cell (World.block_lt_of_cell? w _ hw116_0)).trans hw116_0)⟩ (fun hHeld => ?_)
      clear hK K
      refine norm_ (a' := ?_) ?_ ?_
      rotate_left
      ·show Act.put _ (some 37) _ = _
       simp only [Act.put, List.setIfInBounds_toArray, List.set_cons_zero, List.set_cons_succ, i64_w, i32_w]
       rfl
      refine pure_ (i := 7) (N := some 4) (v := ?_) (a' := ?_) #[true, true, true, true, true, true, true, true] rfl rfl (any_of HT_.out sq2) (fun _ _ _ h => h) (Or.inl ⟨by rfl, ?_⟩) ?_ ?_
      rotate_left
      ·intro w'
       go_simp
       with_reducible rfl
      rotate_left
      ·simp only [Act.put, List.setIfInBounds_toArray, List.set_cons_zero, List.set_cons_succ, i64_w, i32_w]
       rfl
      refine done_ (done_of HT_.out sq2) ?_
      try go_wp2
      go_ret
      exact ⟨sq13, sq49⟩
     rw [if_neg c18] at H
     exact absurd H (by simp)
    rw [if_neg c17] at H
    exact absurd H (by simp)
   rw [if_neg c16] at H
   have c16b0 : (a0 == 9) = false := beq_eq_false_iff_ne.mpr c16
   have c16b1 : (a0 != 9) = true := bne_iff_ne.mpr c16
   have HC21 := Aside0.mk H
   clear H
   go_upto_if 38 with (fail)
   go_cut [38] (fun v38 wc => ∃ (kq : Nat) (x38_20 : Bool), v38 = .bool x38_20 ∧ Aside0 (kind_node.j1 kq l1 a0 x38_20 = some r) ∧ Aside0 (kq ≤ kj4) ∧ Aside0 (Below w.heap.size w wc))
   case first =>
    have H := HC21.out
    clear HC21
    by_cases c22 : a0 = 12
    ·rw [if_pos c22] at H
     have c22b0 : (a0 == 12) = true := beq_iff_eq.mpr c22
     have c22b1 : (a0 != 12) = false := bne_eq_false_iff_eq.mpr c22
     clear c22
     (first | rw [c22b0] | (simp only [i64_w, i32_w]; rw [c22b0]) | skip)
     have H' := Aside0.mk H
     clear H
     go_wp2
     go_meet
     case rel => exact ⟨_, ((a0 == 12)), sq6, H', ⟨by have := HJ4.out; first | omega | exact Nat.le_refl _⟩, ⟨sq49⟩⟩
    rw [if_neg c22] at H
    have c22b0 : (a0 == 12) = false := beq_eq_false_iff_ne.mpr c22
    have c22b1 : (a0 != 12) = true := bne_iff_ne.mpr c22
    (first | rw [c22b0] | (simp only [i64_w, i32_w]; rw [c22b0]) | skip)
    by_cases c23 : a0 = 13
    ·rw [if_pos c23] at H
     have c23b0 : (a0 == 13) = true := beq_iff_eq.mpr c23
     have c23b1 : (a0 != 13) = false := bne_eq_false_iff_eq.mpr c23
     clear c23
     have H' := Aside0.mk H
     clear H
     go_wp2
     go_meet
     case rel => exact ⟨_, ((a0 == 13)), sq6, H', ⟨by have := HJ4.out; first | omega | exact Nat.le_refl _⟩, ⟨sq49⟩⟩
    rw [if_neg c23] at H
    have c23b0 : (a0 == 13) = false := beq_eq_false_iff_ne.mpr c23
    have c23b1 : (a0 != 13) = true := bne_iff_ne.mpr c23
    by_cases c24 : a0 = 14
    ·rw [if_pos c24] at H
     have c24b0 : (a0 == 14) = true := beq_iff_eq.mpr c24
     have c24b1 : (a0 != 14) = false := bne_eq_false_iff_eq.mpr c24
     clear c24
     have H' := Aside0.mk H
     clear H
     go_wp2
     go_meet
     case rel => exact ⟨_, ((a0 == 14)), sq6, H', ⟨by have := HJ4.out; first | omega | exact Nat.le_refl _⟩, ⟨sq49⟩⟩
    rw [if_neg c24] at H
    have c24b0 : (a0 == 14) = false := beq_eq_false_iff_ne.mpr c24
    have c24b1 : (a0 != 14) = true := bne_iff_ne.mpr c24
    have H' := Aside0.mk H
    clear H
    go_wp2
    go_meet
    case rel => exact ⟨_, ((a0 == 15)), sq6, H', ⟨by have := HJ4.out; first | omega | exact Nat.le_refl _⟩, ⟨sq49⟩⟩
   case rest =>
    clear HC21; try clear c1; try clear p1; try clear q1; try clear hx1; try clear qi1; try clear c2; try clear p2; try clear c3; try clear c3b0; try clear c3b1; try clear c4; try clear c4b0; try clear c4b1; try clear c5; try clear c6; try clear c6b0; try clear c6b1; try clear c7; try clear c8; try clear c8b0; try clear c8b1; try clear c9; try clear c9b0; try clear c9b1; try clear c11; try clear c11b0; try clear c11b1; try clear p11; try clear q11; try clear hx11; try clear qi11; try clear c12; try clear c12b0; try clear c12b1; try clear c13; try clear c13b0; try clear c13b1; try clear c16; try clear c16b0; try clear c16b1; try clear c17; try clear c17b0; try clear c17b1; try clear c18; try clear c18b0; try clear c18b1; try clear c22; try clear c22b0; try clear c22b1; try clear c23; try clear c23b0; try clear c23b1; try clear c24; try clear c24b0; try clear c24b1; try clear hx110_0; try clear hx112_0; try clear hx113_0; try clear hx115_0; try clear hx116_0; try clear p110; try clear p112; try clear p113; try clear p115; try clear p116; try clear p2; try clear q110; try clear q112; try clear q113; try clear q115; try clear q116
    obtain ⟨kq, x38_20, rfl, HA, HJ20, HB⟩ := hcut
    cases kq with
    | zero => exact absurd HA.out (by simp [kind_node.j1])
    | succ kj20 =>
     have H := HA.out
     clear HA
     simp only [kind_node.j1] at H
     by_cases c25 : x38_20 = true
     ·subst c25
      replace H := (itT_ _ _).symm.trans H
      replace H := Option.bind_eq_some_iff.mp H
      obtain ⟨t118, A260, H⟩ := H
      replace H : ((kind_when.f t118 3).bind fun t119 => (some t119)) = some r := H
      have A26 := Aside0.mk A260
      clear A260
      replace H := Option.bind_eq_some_iff.mp H
      obtain ⟨t119, A270, H⟩ := H
      replace H : (some t119) = some r := H
      have A27 := Aside0.mk A270
      clear A270
      obtain rfl := Option.some.inj H
      go_wp2_with (first | ((with_reducible refine gate_callee (f := 55) rfl ?_); refine goesL_ (some 44) rfl rfl Try.func55 sq2 rfl #[.slice A1 l1.length c1] rfl sq50 ?_; (with_reducible refine (kind_alike.calls _ _ l1 t118 _ ?side1 ?side2 A26.out).mono ?_); (case side1 => repeat (first | exact (Kd.C_below HR1.out HB.out) | (with_reducible refine Kd.C_alloc ?_ _) | (with_reducible refine Kd.C_drewN ?_ _) | (with_reducible refine Kd.C_drew ?_))); (case side2 => exact HC1.out); rintro e w28 ⟨rfl, hb⟩; refine ⟨_, rfl, ?_⟩; have n0_ := Aside0.mk (below_step sq49 hb); clear HB; have HB := n0_; clear n0_; (try clear hb); (try clear hb2); (try clear hk); (try clear hi)) | ((with_reducible refine gate_callee (f := 52) rfl ?_); refine goesL_ (some 45) rfl rfl Try.func52 sq2 rfl #[.bool t118, .int .i64 3] rfl sq50 ?_; (with_reducible refine (kind_when.calls t118 3 t119 _ A27.out).mono ?_); rintro e w' ⟨rfl, ⟨nd, rfl⟩⟩; refine ⟨_, rfl, ?_⟩))
      go_ret
      exact ⟨sq13, sq49⟩
     replace c25 := Bool.eq_false_iff.mpr c25
     subst c25
     replace H := (itF_ _ _).symm.trans H
     have HC29 := Aside0.mk H
     clear H
     go_upto_if 46 with (fail)
     go_cut [46] (fun v46 wc => ∃ (kq : Nat) (x46_28 : Bool), v46 = .bool x46_28 ∧ Aside0 (kind_node.j2 kq l1 a0 x46_28 = some r) ∧ Aside0 (kq ≤ kj20) ∧ Aside0 (Below w.heap.size w wc))
     case first =>
      have H := HC29.out
      clear HC29
      by_cases c30 : a0 = 16
      ·rw [if_pos c30] at H
       have c30b0 : (a0 == 16) = true := beq_iff_eq.mpr c30
       have c30b1 : (a0 != 16) = false := bne_eq_false_iff_eq.mpr c30
       clear c30
       (first | rw [c30b0] | (simp only [i64_w, i32_w]; rw [c30b0]) | skip)
       have H' := Aside0.mk H
       clear H
       go_wp2
       go_meet
       case rel => exact ⟨_, ((a0 == 16)), sq6, H', ⟨by have := HJ4.out; have := HJ20.out; first | omega | exact Nat.le_refl _⟩, ⟨sq49⟩⟩
      rw [if_neg c30] at H
      have c30b0 : (a0 == 16) = false := beq_eq_false_iff_ne.mpr c30
      have c30b1 : (a0 != 16) = true := bne_iff_ne.mpr c30
      (first | rw [c30b0] | (simp only [i64_w, i32_w]; rw [c30b0]) | skip)
      have H' := Aside0.mk H
      clear H
      go_wp2
      go_meet
      case rel => exact ⟨_, ((a0 == 17)), sq6, H', ⟨by have := HJ4.out; have := HJ20.out; first | omega | exact Nat.le_refl _⟩, ⟨sq49⟩⟩
     case rest =>
      clear HC29; try clear c1; try clear p1; try clear q1; try clear hx1; try clear qi1; try clear c2; try clear p2; try clear c3; try clear c3b0; try clear c3b1; try clear c4; try clear c4b0; try clear c4b1; try clear c5; try clear c6; try clear c6b0; try clear c6b1; try clear c7; try clear c8; try clear c8b0; try clear c8b1; try clear c9; try clear c9b0; try clear c9b1; try clear c11; try clear c11b0; try clear c11b1; try clear p11; try clear q11; try clear hx11; try clear qi11; try clear c12; try clear c12b0; try clear c12b1; try clear c13; try clear c13b0; try clear c13b1; try clear c16; try clear c16b0; try clear c16b1; try clear c17; try clear c17b0; try clear c17b1; try clear c18; try clear c18b0; try clear c18b1; try clear c22; try clear c22b0; try clear c22b1; try clear c23; try clear c23b0; try clear c23b1; try clear c24; try clear c24b0; try clear c24b1; try clear c25; try clear c30; try clear c30b0; try clear c30b1; try clear hx110_0; try clear hx112_0; try clear hx113_0; try clear hx115_0; try clear hx116_0; try clear p1; try clear p11; try clear p110; try clear p112; try clear p113; try clear p115; try clear p116; try clear p2; try clear q1; try clear q11; try clear q110; try clear q112; try clear q113; try clear q115; try clear q116
      obtain ⟨kq, x46_28, rfl, HA, HJ28, HB⟩ := hcut
      cases kq with
      | zero => exact absurd HA.out (by simp [kind_node.j2])
      | succ kj28 =>
       have H := HA.out
       clear HA
       simp only [kind_node.j2] at H
       by_cases c31 : x46_28 = true
       ·subst c31
        replace H := (itT_ _ _).symm.trans H
        by_cases c32 : 0 < (l1.length : Int)
        ·rw [if_pos c32] at H
         have c32b0 : decide (0 < (l1.length : Int)) = true := decide_eq_true c32
         have c32b1 : decide (0 < l1.length) = true := decide_eq_true sq0
         clear c32
         by_cases c33 : 1 < (l1.length : Int)
         ·rw [if_pos c33] at H
          have c33b0 : decide (1 < (l1.length : Int)) = true := decide_eq_true c33
          have c33b1 : decide (1 < l1.length) = true := decide_eq_true sq0
          clear c33
          replace H := Option.bind_eq_some_iff.mp H
          obtain ⟨t122, A340, H⟩ := H
          replace H : (some t122) = some r := H
          have A34 := Aside0.mk A340
          clear A340
          obtain rfl := Option.some.inj H
          try go_wp2
          have n0_ := Aside0.mk (below_drew1 HB.out)
          clear HB
          have HB := n0_
          clear n0_
          have p120 : 0 ≤ (0 : Int) := sq0
          have q120 : 0 < (l1.length : Int) := of_decide_eq_true sq7
          obtain ⟨ad120, e120, hx120_0⟩ := Kd.at_int HR1.out 0 p120 q120
          have hw120_0 := hx120_0
          (try rw [show ((0 : Int)).toNat = 0 from rfl] at hw120_0)
          (try rw [show 0 * 1 = 0 from rfl] at hw120_0)
          (try rw [Addr.add_zero'] at hw120_0)
          cases e120
          have qi120 : (0 < l1.length) = True := eq_true sq0
          (try rw [show ((0 : Int)).toNat = 0 from rfl] at hx120_0)
          (try rw [Addr.add_zero'] at hx120_0)
          try replace hx120_0 := (HB.out.cell (World.block_lt_of_cell? w _ hx120_0)).trans hx120_0
          replace p120 := eq_true p120
          replace q120 := eq_true q120
          have p121 : 0 ≤ (1 : Int) := sq0
          have q121 : 1 < (l1.length : Int) := of_decide_eq_true sq7
          obtain ⟨ad121, e121, hx121_0⟩ := Kd.at_int HR1.out 1 p121 q121
          have hw121_0 := hx121_0
          (try rw [show ((1 : Int)).toNat = 1 from rfl] at hw121_0)
          (try rw [show 1 * 1 = 1 from rfl] at hw121_0)
          (try simp only [Nat.reduceMul, Nat.reduceEqDiff, Go.Addr.add, ↓reduceIte] at hw121_0)
          obtain rfl : ad120 = ad121 := (by injection e121)
          (try simp only [show (1 : Int).toNat = 1 from rfl, Nat.reduceMul, Nat.reduceEqDiff, Go.Addr.add, ↓reduceIte] at hx121_0)
          have qi121 : (1 < l1.length) = True := eq_true sq0
          (try rw [show ((1 : Int)).toNat = 1 from rfl] at hx121_0)
          try replace hx121_0 := (HB.out.cell (World.block_lt_of_cell? w _ hx121_0)).trans hx121_0
          replace p121 := eq_true p121
          replace q121 := eq_true q121
          refine start_ (n := 9) (S := fun w' => w'.cell? ad120 = some (.int .i64 (rd l1 0)) ∧ w'.cell? ⟨ad120.block, ad120.off + 1, none⟩ = some (.int .i64 (rd l1 1))) (ds := []) #[false, false, false, false, false, false, false, false, false] sq2 rfl rfl ⟨((HB.out.cell (World.block_lt_of_cell? w _ hw120_0)).trans hw120_0), ((HB.out.cell (World.block_lt_of_cell? w _ hw121_0)).trans hw121_0)⟩ (fun hHeld => ?_); refine with_tabW kind_node.tab22 kind_node.bits22 (fun HT_ HW_ => ?_)
          generalize wc.drew = w35 at HB hx120_0 hx121_0 hHeld ⊢
          refine pure_ (i := 0) (N := some 49) (v := ?_) (a' := ?_) #[true, false, false, false, false, false, false, false, false] rfl rfl (any_of HT_.out sq2) (fun _ _ _ h => h) (Or.inl ⟨by rfl, ?_⟩) ?_ ?_
          rotate_left
          ·intro w'
           go_simp
           with_reducible rfl
          rotate_left
          ·simp only [Act.put, List.setIfInBounds_toArray, List.set_cons_zero, List.set_cons_succ, i64_w, i32_w]
           rfl
          refine pure_ (i := 1) (N := some 50) (v := ?_) (a' := ?_) #[true, true, false, false, false, false, false, false, false] rfl rfl (any_of HT_.out sq2) (fun _ _ _ h => h) (Or.inl ⟨by rfl, ?_⟩) ?_ ?_
          rotate_left
          ·intro w'
           go_simp
           with_reducible rfl
          rotate_left
          ·simp only [Act.put, List.setIfInBounds_toArray, List.set_cons_zero, List.set_cons_succ, i64_w, i32_w]
           rfl
          refine pure_ (i := 3) (N := some 52) (v := ?_) (a' := ?_) #[true, true, false, true, false, false, false, false, false] rfl rfl (any_of HT_.out sq2) (fun _ _ _ h => h) (Or.inl ⟨by rfl, ?_⟩) ?_ ?_
          rotate_left
          ·intro w'
           go_simp
           with_reducible rfl
          rotate_left
          ·simp only [Act.put, List.setIfInBounds_toArray, List.set_cons_zero, List.set_cons_succ, i64_w, i32_w]
           rfl
          refine pure_ (i := 4) (N := some 53) (v := ?_) (a' := ?_) #[true, true, false, true, true, false, false, false, false] rfl rfl (any_of HT_.out sq2) (fun _ _ _ h => h) (Or.inl ⟨by rfl, ?_⟩) ?_ ?_
          rotate_left
          ·intro w'
           go_simp
           with_reducible rfl
          rotate_left
          ·simp only [Act.put, List.setIfInBounds_toArray, List.set_cons_zero, List.set_cons_succ, i64_w, i32_w]
           rfl
          refine take_ (i := 2) (N := some 51) (v := ?_) (a' := ?_) #[true, true, true, true, true, false, false, false, false] rfl rfl (take_ofW HT_.out HW_.out sq2) (fun _ _ _ h => h) (Or.inl ⟨by rfl, ?_⟩) hHeld ?_ ?_
          rotate_left
          ·rintro w' ⟨s0, s1⟩
           go_simp
           with_reducible rfl
          rotate_left
          ·simp only [Act.put, List.setIfInBounds_toArray, List.set_cons_zero, List.set_cons_succ, i64_w, i32_w]
           rfl
          refine take_ (i := 5) (N := some 54) (v := ?_) (a' := ?_) #[true, true, true, true, true, true, false, false, false] rfl rfl (take_ofW HT_.out HW_.out sq2) (fun _ _ _ h => h) (Or.inl ⟨by rfl, ?_⟩) hHeld ?_ ?_
          rotate_left
          ·rintro w' ⟨s0, s1⟩
           go_simp
           with_reducible rfl
          rotate_left
          ·simp only [Act.put, List.setIfInBounds_toArray, List.set_cons_zero, List.set_cons_succ, i64_w, i32_w]
           rfl
          refine pure_ (i := 6) (N := some 55) (v := ?_) (a' := ?_) #[true, true, true, true, true, true, true, false, false] rfl rfl (any_of HT_.out sq2) (fun _ _ _ h => h) (Or.inl ⟨by rfl, ?_⟩) ?_ ?_
          rotate_left
          ·intro w'
           go_simp
           with_reducible rfl
          rotate_left
          ·simp only [Act.put, List.setIfInBounds_toArray, List.set_cons_zero, List.set_cons_succ, i64_w, i32_w]
           rfl
          refine one_ (i := 7) (N := some 56) #[true, true, true, true, true, true, true, true, false] rfl rfl (one_of HT_.out sq2) sq1 (fun K hK => ?_)
          refine goes_ Try.func52 sq2 rfl #[.bool ((rd l1 0) == (rd l1 1)), .int .i64 3] (by rfl) rfl rfl sq50 ?_
          with_reducible refine (kind_when.calls ((rd l1 0) == (rd l1 1)) 3 t122 _ A34.out).mono ?_
          rintro e w' ⟨rfl, ⟨nd, rfl⟩⟩
          refine ⟨_, rfl, ?_⟩
          refine hK.out _ _ ⟨((HB.out.cell (World.block_lt_of_cell? w _ hw120_0)).trans hw120_0), ((HB.out.cell (World.block_lt_of_cell? w _ hw121_0)).trans hw121_0)⟩ (fun hHeld => ?_)
          clear hK K
          refine norm_ (a' := ?_) ?_ ?_
          rotate_left
          ·show Act.put _ (some 56) _ = _
           simp only [Act.put, List.setIfInBounds_toArray, List.set_cons_zero, List.set_cons_succ, i64_w, i32_w]
           rfl
          refine pure_ (i := 8) (N := some 4) (v := ?_) (a' := ?_) #[true, true, true, true, true, true, true, true, true] rfl rfl (any_of HT_.out sq2) (fun _ _ _ h => h) (Or.inl ⟨by rfl, ?_⟩) ?_ ?_
          rotate_left
          ·intro w'
           go_simp
           with_reducible rfl
          rotate_left
          ·simp only [Act.put, List.setIfInBounds_toArray, List.set_cons_zero, List.set_cons_succ, i64_w, i32_w]
           rfl
          refine done_ (done_of HT_.out sq2) ?_
          try go_wp2
          go_ret
          exact ⟨sq13, sq49⟩
         rw [if_neg c33] at H
         exact absurd H (by simp)
        rw [if_neg c32] at H
        exact absurd H (by simp)
       replace c31 := Bool.eq_false_iff.mpr c31
       subst c31
       replace H := (itF_ _ _).symm.trans H
       have HC36 := Aside0.mk H
       clear H
       go_upto_if 57 with (fail)
       go_cut [57] (fun v57 wc => ∃ (kq : Nat) (x57_35 : Bool), v57 = .bool x57_35 ∧ Aside0 (kind_node.j3 kq l1 a0 x57_35 = some r) ∧ Aside0 (kq ≤ kj28) ∧ Aside0 (Below w.heap.size w wc))
       case first =>
        have H := HC36.out
        clear HC36
        by_cases c37 : a0 = 18
        ·rw [if_pos c37] at H
         have c37b0 : (a0 == 18) = true := beq_iff_eq.mpr c37
         have c37b1 : (a0 != 18) = false := bne_eq_false_iff_eq.mpr c37
         clear c37
         (first | rw [c37b0] | (simp only [i64_w, i32_w]; rw [c37b0]) | skip)
         have H' := Aside0.mk H
         clear H
         go_wp2
         go_meet
         case rel => exact ⟨_, ((a0 == 18)), sq6, H', ⟨by have := HJ4.out; have := HJ20.out; have := HJ28.out; first | omega | exact Nat.le_refl _⟩, ⟨sq49⟩⟩
        rw [if_neg c37] at H
        have c37b0 : (a0 == 18) = false := beq_eq_false_iff_ne.mpr c37
        have c37b1 : (a0 != 18) = true := bne_iff_ne.mpr c37
        (first | rw [c37b0] | (simp only [i64_w, i32_w]; rw [c37b0]) | skip)
        have H' := Aside0.mk H
        clear H
        go_wp2
        go_meet
        case rel => exact ⟨_, ((a0 == 19)), sq6, H', ⟨by have := HJ4.out; have := HJ20.out; have := HJ28.out; first | omega | exact Nat.le_refl _⟩, ⟨sq49⟩⟩
       case rest =>
        clear HC36; try clear c1; try clear p1; try clear q1; try clear hx1; try clear qi1; try clear c2; try clear p2; try clear c3; try clear c3b0; try clear c3b1; try clear c4; try clear c4b0; try clear c4b1; try clear c5; try clear c6; try clear c6b0; try clear c6b1; try clear c7; try clear c8; try clear c8b0; try clear c8b1; try clear c9; try clear c9b0; try clear c9b1; try clear c11; try clear c11b0; try clear c11b1; try clear p11; try clear q11; try clear hx11; try clear qi11; try clear c12; try clear c12b0; try clear c12b1; try clear p12; try clear q12; try clear hx12; try clear qi12; try clear c13; try clear c13b0; try clear c13b1; try clear c16; try clear c16b0; try clear c16b1; try clear c17; try clear c17b0; try clear c17b1; try clear c18; try clear c18b0; try clear c18b1; try clear c22; try clear c22b0; try clear c22b1; try clear c23; try clear c23b0; try clear c23b1; try clear c24; try clear c24b0; try clear c24b1; try clear c25; try clear c30; try clear c30b0; try clear c30b1; try clear c31; try clear c32; try clear c32b0; try clear c32b1; try clear c33; try clear c33b0; try clear c33b1; try clear c37; try clear c37b0; try clear c37b1; try clear hx110_0; try clear hx112_0; try clear hx113_0; try clear hx115_0; try clear hx116_0; try clear hx120_0; try clear hx121_0; try clear p1; try clear p11; try clear p110; try clear p112; try clear p113; try clear p115; try clear p116; try clear p120; try clear p121; try clear p2; try clear q1; try clear q11; try clear q110; try clear q112; try clear q113; try clear q115; try clear q116; try clear q120; try clear q121
        obtain ⟨kq, x57_35, rfl, HA, HJ35, HB⟩ := hcut
        cases kq with
        | zero => exact absurd HA.out (by simp [kind_node.j3])
        | succ kj35 =>
         have H := HA.out
         clear HA
         simp only [kind_node.j3] at H
         by_cases c38 : x57_35 = true
         ·subst c38
          replace H := (itT_ _ _).symm.trans H
          by_cases c39 : 0 < (l1.length : Int)
          ·rw [if_pos c39] at H
           have c39b0 : decide (0 < (l1.length : Int)) = true := decide_eq_true c39
           have c39b1 : decide (0 < l1.length) = true := decide_eq_true sq0
           clear c39
           by_cases c40 : (rd l1 0) = 3
           ·rw [if_pos c40] at H
            have c40b0 : ((rd l1 0) == 3) = true := beq_iff_eq.mpr c40
            have c40b1 : ((rd l1 0) != 3) = false := bne_eq_false_iff_eq.mpr c40
            clear c40
            by_cases c41 : 1 < (l1.length : Int)
            ·rw [if_pos c41] at H
             have c41b0 : decide (1 < (l1.length : Int)) = true := decide_eq_true c41
             have c41b1 : decide (1 < l1.length) = true := decide_eq_true sq0
             clear c41
             replace H := Option.bind_eq_some_iff.mp H
             obtain ⟨t125, A420, H⟩ := H
             replace H : (some t125) = some r := H
             have A42 := Aside0.mk A420
             clear A420
             obtain rfl := Option.some.inj H
             have p123 : 0 ≤ (0 : Int) := sq0
             have q123 : 0 < (l1.length : Int) := of_decide_eq_true sq7
             obtain ⟨ad123, e123, hx123_0⟩ := Kd.at_int HR1.out 0 p123 q123
             cases e123
             have qi123 : (0 < l1.length) = True := eq_true sq0
             (try rw [show ((0 : Int)).toNat = 0 from rfl] at hx123_0)
             (try rw [Addr.add_zero'] at hx123_0)
             try replace hx123_0 := (HB.out.cell (World.block_lt_of_cell? w _ hx123_0)).trans hx123_0
             replace p123 := eq_true p123
             replace q123 := eq_true q123
             have p124 : 0 ≤ (1 : Int) := sq0
             have q124 : 1 < (l1.length : Int) := of_decide_eq_true sq7
             obtain ⟨ad124, e124, hx124_0⟩ := Kd.at_int HR1.out 1 p124 q124
             obtain rfl : ad123 = ad124 := (by injection e124)
             (try simp only [show (1 : Int).toNat = 1 from rfl, Nat.reduceMul, Nat.reduceEqDiff, Go.Addr.add, ↓reduceIte] at hx124_0)
             have qi124 : (1 < l1.length) = True := eq_true sq0
             (try rw [show ((1 : Int)).toNat = 1 from rfl] at hx124_0)
             try replace hx124_0 := (HB.out.cell (World.block_lt_of_cell? w _ hx124_0)).trans hx124_0
             replace p124 := eq_true p124
             replace q124 := eq_true q124
             go_wp2_with (first | ((with_reducible refine gate_callee (f := 52) rfl ?_); refine goesL_ (some 70) rfl rfl Try.func52 sq2 rfl #[.bool ((rd l1 1) == 3), .int .i64 3] rfl sq50 ?_; (with_reducible refine (kind_when.calls ((rd l1 1) == 3) 3 t125 _ A42.out).mono ?_); rintro e w' ⟨rfl, ⟨nd, rfl⟩⟩; refine ⟨_, rfl, ?_⟩))
             go_ret
             exact ⟨sq13, sq49⟩
            rw [if_neg c41] at H
            exact absurd H (by simp)
           rw [if_neg c40] at H
           have c40b0 : ((rd l1 0) == 3) = false := beq_eq_false_iff_ne.mpr c40
           have c40b1 : ((rd l1 0) != 3) = true := bne_iff_ne.mpr c40
           replace H := Option.bind_eq_some_iff.mp H
           obtain ⟨t126, A430, H⟩ := H
           replace H : (some t126) = some r := H
           have A43 := Aside0.mk A430
           clear A430
           obtain rfl := Option.some.inj H
           have p123 : 0 ≤ (0 : Int) := sq0
           have q123 : 0 < (l1.length : Int) := of_decide_eq_true sq7
           obtain ⟨ad123, e123, hx123_0⟩ := Kd.at_int HR1.out 0 p123 q123
           cases e123
           have qi123 : (0 < l1.length) = True := eq_true sq0
           (try rw [show ((0 : Int)).toNat = 0 from rfl] at hx123_0)
           (try rw [Addr.add_zero'] at hx123_0)
           try replace hx123_0 := (HB.out.cell (World.block_lt_of_cell? w _ hx123_0)).trans hx123_0
           replace p123 := eq_true p123
           replace q123 := eq_true q123
           go_wp2_with (first | ((with_reducible refine gate_callee (f := 52) rfl ?_); refine goesL_ (some 70) rfl rfl Try.func52 sq2 rfl #[.bool false, .int .i64 3] rfl sq50 ?_; (with_reducible refine (kind_when.calls false 3 t126 _ A43.out).mono ?_); rintro e w' ⟨rfl, ⟨nd, rfl⟩⟩; refine ⟨_, rfl, ?_⟩))
           go_ret
           exact ⟨sq13, sq49⟩
          rw [if_neg c39] at H
          exact absurd H (by simp)
         replace c38 := Bool.eq_false_iff.mpr c38
         subst c38
         replace H := (itF_ _ _).symm.trans H
         by_cases c44 : a0 = 20
         ·rw [if_pos c44] at H
          have c44b0 : (a0 == 20) = true := beq_iff_eq.mpr c44
          have c44b1 : (a0 != 20) = false := bne_eq_false_iff_eq.mpr c44
          clear c44
          by_cases c45 : 0 < (l1.length : Int)
          ·rw [if_pos c45] at H
           have c45b0 : decide (0 < (l1.length : Int)) = true := decide_eq_true c45
           have c45b1 : decide (0 < l1.length) = true := decide_eq_true sq0
           clear c45
           by_cases c46 : (rd l1 0) = 3
           ·rw [if_pos c46] at H
            have c46b0 : ((rd l1 0) == 3) = true := beq_iff_eq.mpr c46
            have c46b1 : ((rd l1 0) != 3) = false := bne_eq_false_iff_eq.mpr c46
            clear c46
            by_cases c47 : 1 < (l1.length : Int)
            ·rw [if_pos c47] at H
             have c47b0 : decide (1 < (l1.length : Int)) = true := decide_eq_true c47
             have c47b1 : decide (1 < l1.length) = true := decide_eq_true sq0
             clear c47
             by_cases c48 : 2 < (l1.length : Int)
             ·rw [if_pos c48] at H
              have c48b0 : decide (2 < (l1.length : Int)) = true := decide_eq_true c48
              have c48b1 : decide (2 < l1.length) = true := decide_eq_true sq0
              clear c48
              replace H := Option.bind_eq_some_iff.mp H
              obtain ⟨t131, A490, H⟩ := H
              replace H : (some t131) = some r := H
              have A49 := Aside0.mk A490
              clear A490
              obtain rfl := Option.some.inj H
              try go_wp2
              have n0_ := Aside0.mk (below_drew1 HB.out)
              clear HB
              have HB := n0_
              clear n0_
              have p127 : 0 ≤ (0 : Int) := sq0
              have q127 : 0 < (l1.length : Int) := of_decide_eq_true sq7
              obtain ⟨ad127, e127, hx127_0⟩ := Kd.at_int HR1.out 0 p127 q127
              have hw127_0 := hx127_0
              (try rw [show ((0 : Int)).toNat = 0 from rfl] at hw127_0)
              (try rw [show 0 * 1 = 0 from rfl] at hw127_0)
              (try rw [Addr.add_zero'] at hw127_0)
              cases e127
              have qi127 : (0 < l1.length) = True := eq_true sq0
              (try rw [show ((0 : Int)).toNat = 0 from rfl] at hx127_0)
              (try rw [Addr.add_zero'] at hx127_0)
              try replace hx127_0 := (HB.out.cell (World.block_lt_of_cell? w _ hx127_0)).trans hx127_0
              replace p127 := eq_true p127
              replace q127 := eq_true q127
              have p128 : 0 ≤ (1 : Int) := sq0
              have q128 : 1 < (l1.length : Int) := of_decide_eq_true sq7
              obtain ⟨ad128, e128, hx128_0⟩ := Kd.at_int HR1.out 1 p128 q128
              have hw128_0 := hx128_0
              (try rw [show ((1 : Int)).toNat = 1 from rfl] at hw128_0)
              (try rw [show 1 * 1 = 1 from rfl] at hw128_0)
              (try simp only [Nat.reduceMul, Nat.reduceEqDiff, Go.Addr.add, ↓reduceIte] at hw128_0)
              obtain rfl : ad127 = ad128 := (by injection e128)
              (try simp only [show (1 : Int).toNat = 1 from rfl, Nat.reduceMul, Nat.reduceEqDiff, Go.Addr.add, ↓reduceIte] at hx128_0)
              have qi128 : (1 < l1.length) = True := eq_true sq0
              (try rw [show ((1 : Int)).toNat = 1 from rfl] at hx128_0)
              try replace hx128_0 := (HB.out.cell (World.block_lt_of_cell? w _ hx128_0)).trans hx128_0
              replace p128 := eq_true p128
              replace q128 := eq_true q128
              have p129 : 0 ≤ (2 : Int) := sq0
              have q129 : 2 < (l1.length : Int) := of_decide_eq_true sq7
              obtain ⟨ad129, e129, hx129_0⟩ := Kd.at_int HR1.out 2 p129 q129
              have hw129_0 := hx129_0
              (try rw [show ((2 : Int)).toNat = 2 from rfl] at hw129_0)
              (try rw [show 2 * 1 = 2 from rfl] at hw129_0)
              (try simp only [Nat.reduceMul, Nat.reduceEqDiff, Go.Addr.add, ↓reduceIte] at hw129_0)
              obtain rfl : ad127 = ad129 := (by injection e129)
              (try simp only [show (2 : Int).toNat = 2 from rfl, Nat.reduceMul, Nat.reduceEqDiff, Go.Addr.add, ↓reduceIte] at hx129_0)
              have qi129 : (2 < l1.length) = True := eq_true sq0
              (try rw [show ((2 : Int)).toNat = 2 from rfl] at hx129_0)
              try replace hx129_0 := (HB.out.cell (World.block_lt_of_cell? w _ hx129_0)).trans hx129_0
              replace p129 := eq_true p129
              replace q129 := eq_true q129
              have p130 : 0 ≤ (1 : Int) := sq0
              have q130 : 1 < (l1.length : Int) := of_decide_eq_true sq7
              obtain ⟨ad130, e130, hx130_0⟩ := Kd.at_int HR1.out 1 p130 q130
              have hw130_0 := hx130_0
              (try rw [show ((1 : Int)).toNat = 1 from rfl] at hw130_0)
              (try rw [show 1 * 1 = 1 from rfl] at hw130_0)
              (try simp only [Nat.reduceMul, Nat.reduceEqDiff, Go.Addr.add, ↓reduceIte] at hw130_0)
              obtain rfl : ad127 = ad130 := (by injection e130)
              (try simp only [show (1 : Int).toNat = 1 from rfl, Nat.reduceMul, Nat.reduceEqDiff, Go.Addr.add, ↓reduceIte] at hx130_0)
              have qi130 : (1 < l1.length) = True := eq_true sq0
              (try rw [show ((1 : Int)).toNat = 1 from rfl] at hx130_0)
              try replace hx130_0 := (HB.out.cell (World.block_lt_of_cell? w _ hx130_0)).trans hx130_0
              replace p130 := eq_true p130
              replace q130 := eq_true q130
              refine start_ (n := 18) (S := fun w' => w'.cell? ad127 = some (.int .i64 (rd l1 0)) ∧ w'.cell? ⟨ad127.block, ad127.off + 1, none⟩ = some (.int .i64 (rd l1 1)) ∧ w'.cell? ⟨ad127.block, ad127.off + 2, none⟩ = some (.int .i64 (rd l1 2)) ∧ w'.cell? ⟨ad127.block, ad127.off + 1, none⟩ = some (.int .i64 (rd l1 1))) (ds := []) #[false, false, false, false, false, false, false, false, false, false, false, false, false, false, false, false, false, false] sq2 rfl rfl ⟨((HB.out.cell (World.block_lt_of_cell? w _ hw127_0)).trans hw127_0), ((HB.out.cell (World.block_lt_of_cell? w _ hw128_0)).trans hw128_0), ((HB.out.cell (World.block_lt_of_cell? w _ hw129_0)).trans hw129_0), ((HB.out.cell (World.block_lt_of_cell? w _ hw130_0)).trans hw130_0)⟩ (fun hHeld => ?_); refine with_tabW kind_node.tab27 kind_node.bits27 (fun HT_ HW_ => ?_)
              generalize wc.drew = w50 at HB hx127_0 hx128_0 hx129_0 hx130_0 hHeld ⊢
              refine pure_ (i := 0) (N := some 73) (v := ?_) (a' := ?_) #[true, false, false, false, false, false, false, false, false, false, false, false, false, false, false, false, false, false] rfl rfl (any_of HT_.out sq2) (fun _ _ _ h => h) (Or.inl ⟨by rfl, ?_⟩) ?_ ?_
              rotate_left
              ·intro w'
               go_simp
               with_reducible rfl
              rotate_left
              ·simp only [Act.put, List.setIfInBounds_toArray, List.set_cons_zero, List.set_cons_succ, i64_w, i32_w]
               rfl
              refine pure_ (i := 1) (N := some 74) (v := ?_) (a' := ?_) #[true, true, false, false, false, false, false, false, false, false, false, false, false, false, false, false, false, false] rfl rfl (any_of HT_.out sq2) (fun _ _ _ h => h) (Or.inl ⟨by rfl, ?_⟩) ?_ ?_
              rotate_left
              ·intro w'
               go_simp
               with_reducible rfl
              rotate_left
              ·simp only [Act.put, List.setIfInBounds_toArray, List.set_cons_zero, List.set_cons_succ, i64_w, i32_w]
               rfl
              refine pure_ (i := 13) (N := some 86) (v := ?_) (a' := ?_) #[true, true, false, false, false, false, false, false, false, false, false, false, false, true, false, false, false, false] rfl rfl (any_of HT_.out sq2) (fun _ _ _ h => h) (Or.inl ⟨by rfl, ?_⟩) ?_ ?_
              rotate_left
              ·intro w'
               go_simp
               with_reducible rfl
              rotate_left
              ·simp only [Act.put, List.setIfInBounds_toArray, List.set_cons_zero, List.set_cons_succ, i64_w, i32_w]
               rfl
              refine pure_ (i := 14) (N := some 87) (v := ?_) (a' := ?_) #[true, true, false, false, false, false, false, false, false, false, false, false, false, true, true, false, false, false] rfl rfl (any_of HT_.out sq2) (fun _ _ _ h => h) (Or.inl ⟨by rfl, ?_⟩) ?_ ?_
              rotate_left
              ·intro w'
               go_simp
               with_reducible rfl
              rotate_left
              ·simp only [Act.put, List.setIfInBounds_toArray, List.set_cons_zero, List.set_cons_succ, i64_w, i32_w]
               rfl
              refine take_ (i := 2) (N := some 75) (v := ?_) (a' := ?_) #[true, true, true, false, false, false, false, false, false, false, false, false, false, true, true, false, false, false] rfl rfl (take_ofW HT_.out HW_.out sq2) (fun _ _ _ h => h) (Or.inl ⟨by rfl, ?_⟩) hHeld ?_ ?_
              rotate_left
              ·rintro w' ⟨s0, s1, s2, s3⟩
               go_simp
               with_reducible rfl
              rotate_left
              ·simp only [Act.put, List.setIfInBounds_toArray, List.set_cons_zero, List.set_cons_succ, i64_w, i32_w]
               rfl
              refine pure_ (i := 3) (N := some 76) (v := ?_) (a' := ?_) #[true, true, true, true, false, false, false, false, false, false, false, false, false, true, true, false, false, false] rfl rfl (any_of HT_.out sq2) (fun _ _ _ h => h) (Or.inl ⟨by rfl, ?_⟩) ?_ ?_
              rotate_left
              ·intro w'
               go_simp
               with_reducible rfl
              rotate_left
              ·simp only [Act.put, List.setIfInBounds_toArray, List.set_cons_zero, List.set_cons_succ, i64_w, i32_w]
               rfl
              refine pure_ (i := 4) (N := some 77) (v := ?_) (a' := ?_) #[true, true, true, true, true, false, false, false, false, false, false, false, false, true, true, false, false, false] rfl rfl (any_of HT_.out sq2) (fun _ _ _ h => h) (Or.inl ⟨by rfl, ?_⟩) ?_ ?_
              rotate_left
              ·intro w'
               go_simp
               with_reducible rfl
              rotate_left
              ·simp only [Act.put, List.setIfInBounds_toArray, List.set_cons_zero, List.set_cons_succ, i64_w, i32_w]
               rfl
              refine pure_ (i := 5) (N := some 78) (v := ?_) (a' := ?_) #[true, true, true, true, true, true, false, false, false, false, false, false, false, true, true, false, false, false] rfl rfl (any_of HT_.out sq2) (fun _ _ _ h => h) (Or.inl ⟨by rfl, ?_⟩) ?_ ?_
              rotate_left
              ·intro w'
               go_simp
               with_reducible rfl
              rotate_left
              ·simp only [Act.put, List.setIfInBounds_toArray, List.set_cons_zero, List.set_cons_succ, i64_w, i32_w]
               rfl
              refine pure_ (i := 6) (N := some 79) (v := ?_) (a' := ?_) #[true, true, true, true, true, true, true, false, false, false, false, false, false, true, true, false, false, false] rfl rfl (any_of HT_.out sq2) (fun _ _ _ h => h) (Or.inl ⟨by rfl, ?_⟩) ?_ ?_
              rotate_left
              ·intro w'
               go_simp
               with_reducible rfl
              rotate_left
              ·simp only [Act.put, List.setIfInBounds_toArray, List.set_cons_zero, List.set_cons_succ, i64_w, i32_w]
               rfl
              refine pure_ (i := 8) (N := some 81) (v := ?_) (a' := ?_) #[true, true, true, true, true, true, true, false, true, false, false, false, false, true, true, false, false, false] rfl rfl (any_of HT_.out sq2) (fun _ _ _ h => h) (Or.inl ⟨by rfl, ?_⟩) ?_ ?_
              rotate_left
              ·intro w'
               go_simp
               with_reducible rfl
              rotate_left
              ·simp only [Act.put, List.setIfInBounds_toArray, List.set_cons_zero, List.set_cons_succ, i64_w, i32_w]
               rfl
              refine pure_ (i := 9) (N := some 82) (v := ?_) (a' := ?_) #[true, true, true, true, true, true, true, false, true, true, false, false, false, true, true, false, false, false] rfl rfl (any_of HT_.out sq2) (fun _ _ _ h => h) (Or.inl ⟨by rfl, ?_⟩) ?_ ?_
              rotate_left
              ·intro w'
               go_simp
               with_reducible rfl
              rotate_left
              ·simp only [Act.put, List.setIfInBounds_toArray, List.set_cons_zero, List.set_cons_succ, i64_w, i32_w]
               rfl
              refine take_ (i := 7) (N := some 80) (v := ?_) (a' := ?_) #[true, true, true, true, true, true, true, true, true, true, false, false, false, true, true, false, false, false] rfl rfl (take_ofW HT_.out HW_.out sq2) (fun _ _ _ h => h) (Or.inl ⟨by rfl, ?_⟩) hHeld ?_ ?_
              rotate_left
              ·rintro w' ⟨s0, s1, s2, s3⟩
               go_simp
               with_reducible rfl
              rotate_left
              ·simp only [Act.put, List.setIfInBounds_toArray, List.set_cons_zero, List.set_cons_succ, i64_w, i32_w]
               rfl
              refine take_ (i := 10) (N := some 83) (v := ?_) (a' := ?_) #[true, true, true, true, true, true, true, true, true, true, true, false, false, true, true, false, false, false] rfl rfl (take_ofW HT_.out HW_.out sq2) (fun _ _ _ h => h) (Or.inl ⟨by rfl, ?_⟩) hHeld ?_ ?_
              rotate_left
              ·rintro w' ⟨s0, s1, s2, s3⟩
               go_simp
               with_reducible rfl
              rotate_left
              ·simp only [Act.put, List.setIfInBounds_toArray, List.set_cons_zero, List.set_cons_succ, i64_w, i32_w]
               rfl
              refine pure_ (i := 11) (N := some 84) (v := ?_) (a' := ?_) #[true, true, true, true, true, true, true, true, true, true, true, true, false, true, true, false, false, false] rfl rfl (any_of HT_.out sq2) (fun _ _ _ h => h) (Or.inl ⟨by rfl, ?_⟩) ?_ ?_
              rotate_left
              ·intro w'
               go_simp
               with_reducible rfl
              rotate_left
              ·simp only [Act.put, List.setIfInBounds_toArray, List.set_cons_zero, List.set_cons_succ, i64_w, i32_w]
               rfl
              refine pure_ (i := 12) (N := some 85) (v := ?_) (a' := ?_) #[true, true, true, true, true, true, true, true, true, true, true, true, true, true, true, false, false, false] rfl rfl (any_of HT_.out sq2) (fun _ _ _ h => h) (Or.inl ⟨by rfl, ?_⟩) ?_ ?_
              rotate_left
              ·intro w'
               go_simp
               with_reducible rfl
              rotate_left
              ·simp only [Act.put, List.setIfInBounds_toArray, List.set_cons_zero, List.set_cons_succ, i64_w, i32_w]
               rfl
              refine take_ (i := 15) (N := some 88) (v := ?_) (a' := ?_) #[true, true, true, true, true, true, true, true, true, true, true, true, true, true, true, true, false, false] rfl rfl (take_ofW HT_.out HW_.out sq2) (fun _ _ _ h => h) (Or.inl ⟨by rfl, ?_⟩) hHeld ?_ ?_
              rotate_left
              ·rintro w' ⟨s0, s1, s2, s3⟩
               go_simp
               with_reducible rfl
              rotate_left
              ·simp only [Act.put, List.setIfInBounds_toArray, List.set_cons_zero, List.set_cons_succ, i64_w, i32_w]
               rfl
              refine one_ (i := 16) (N := some 89) #[true, true, true, true, true, true, true, true, true, true, true, true, true, true, true, true, true, false] rfl rfl (one_of HT_.out sq2) sq1 (fun K hK => ?_)
              refine goes_ Try.func52 sq2 rfl #[.bool ((rd l1 1) == (rd l1 2)), .int .i64 (rd l1 1)] (by rfl) rfl rfl sq50 ?_
              with_reducible refine (kind_when.calls ((rd l1 1) == (rd l1 2)) (rd l1 1) t131 _ A49.out).mono ?_
              rintro e w' ⟨rfl, ⟨nd, rfl⟩⟩
              refine ⟨_, rfl, ?_⟩
              refine hK.out _ _ ⟨((HB.out.cell (World.block_lt_of_cell? w _ hw127_0)).trans hw127_0), ((HB.out.cell (World.block_lt_of_cell? w _ hw128_0)).trans hw128_0), ((HB.out.cell (World.block_lt_of_cell? w _ hw129_0)).trans hw129_0), ((HB.out.cell (World.block_lt_of_cell? w _ hw130_0)).trans hw130_0)⟩ (fun hHeld => ?_)
              clear hK K
              refine norm_ (a' := ?_) ?_ ?_
              rotate_left
              ·show Act.put _ (some 89) _ = _
               simp only [Act.put, List.setIfInBounds_toArray, List.set_cons_zero, List.set_cons_succ, i64_w, i32_w]
               rfl
              refine pure_ (i := 17) (N := some 4) (v := ?_) (a' := ?_) #[true, true, true, true, true, true, true, true, true, true, true, true, true, true, true, true, true, true] rfl rfl (any_of HT_.out sq2) (fun _ _ _ h => h) (Or.inl ⟨by rfl, ?_⟩) ?_ ?_
              rotate_left
              ·intro w'
               go_simp
               with_reducible rfl
              rotate_left
              ·simp only [Act.put, List.setIfInBounds_toArray, List.set_cons_zero, List.set_cons_succ, i64_w, i32_w]
               rfl
              refine done_ (done_of HT_.out sq2) ?_
              try go_wp2
              go_ret
              exact ⟨sq13, sq49⟩
             rw [if_neg c48] at H
             exact absurd H (by simp)
            rw [if_neg c47] at H
            exact absurd H (by simp)
           rw [if_neg c46] at H
           have c46b0 : ((rd l1 0) == 3) = false := beq_eq_false_iff_ne.mpr c46
           have c46b1 : ((rd l1 0) != 3) = true := bne_iff_ne.mpr c46
           by_cases c51 : 1 < (l1.length : Int)
           ·rw [if_pos c51] at H
            have c51b0 : decide (1 < (l1.length : Int)) = true := decide_eq_true c51
            have c51b1 : decide (1 < l1.length) = true := decide_eq_true sq0
            clear c51
            replace H := Option.bind_eq_some_iff.mp H
            obtain ⟨t133, A520, H⟩ := H
            replace H : (some t133) = some r := H
            have A52 := Aside0.mk A520
            clear A520
            obtain rfl := Option.some.inj H
            try go_wp2
            have n0_ := Aside0.mk (below_drew1 HB.out)
            clear HB
            have HB := n0_
            clear n0_
            have p127 : 0 ≤ (0 : Int) := sq0
            have q127 : 0 < (l1.length : Int) := of_decide_eq_true sq7
            obtain ⟨ad127, e127, hx127_0⟩ := Kd.at_int HR1.out 0 p127 q127
            have hw127_0 := hx127_0
            (try rw [show ((0 : Int)).toNat = 0 from rfl] at hw127_0)
            (try rw [show 0 * 1 = 0 from rfl] at hw127_0)
            (try rw [Addr.add_zero'] at hw127_0)
            cases e127
            have qi127 : (0 < l1.length) = True := eq_true sq0
            (try rw [show ((0 : Int)).toNat = 0 from rfl] at hx127_0)
            (try rw [Addr.add_zero'] at hx127_0)
            try replace hx127_0 := (HB.out.cell (World.block_lt_of_cell? w _ hx127_0)).trans hx127_0
            replace p127 := eq_true p127
            replace q127 := eq_true q127
            have p132 : 0 ≤ (1 : Int) := sq0
            have q132 : 1 < (l1.length : Int) := of_decide_eq_true sq7
            obtain ⟨ad132, e132, hx132_0⟩ := Kd.at_int HR1.out 1 p132 q132
            have hw132_0 := hx132_0
            (try rw [show ((1 : Int)).toNat = 1 from rfl] at hw132_0)
            (try rw [show 1 * 1 = 1 from rfl] at hw132_0)
            (try simp only [Nat.reduceMul, Nat.reduceEqDiff, Go.Addr.add, ↓reduceIte] at hw132_0)
            obtain rfl : ad127 = ad132 := (by injection e132)
            (try simp only [show (1 : Int).toNat = 1 from rfl, Nat.reduceMul, Nat.reduceEqDiff, Go.Addr.add, ↓reduceIte] at hx132_0)
            have qi132 : (1 < l1.length) = True := eq_true sq0
            (try rw [show ((1 : Int)).toNat = 1 from rfl] at hx132_0)
            try replace hx132_0 := (HB.out.cell (World.block_lt_of_cell? w _ hx132_0)).trans hx132_0
            replace p132 := eq_true p132
            replace q132 := eq_true q132
            refine start_ (n := 18) (S := fun w' => w'.cell? ad127 = some (.int .i64 (rd l1 0)) ∧ w'.cell? ⟨ad127.block, ad127.off + 1, none⟩ = some (.int .i64 (rd l1 1))) (ds := []) #[false, false, false, false, false, false, false, false, false, false, false, false, false, false, false, false, false, false] sq2 rfl rfl ⟨((HB.out.cell (World.block_lt_of_cell? w _ hw127_0)).trans hw127_0), ((HB.out.cell (World.block_lt_of_cell? w _ hw132_0)).trans hw132_0)⟩ (fun hHeld => ?_); refine with_tabW kind_node.tab27 kind_node.bits27 (fun HT_ HW_ => ?_)
            generalize wc.drew = w53 at HB hx127_0 hx132_0 hHeld ⊢
            refine pure_ (i := 0) (N := some 73) (v := ?_) (a' := ?_) #[true, false, false, false, false, false, false, false, false, false, false, false, false, false, false, false, false, false] rfl rfl (any_of HT_.out sq2) (fun _ _ _ h => h) (Or.inl ⟨by rfl, ?_⟩) ?_ ?_
            rotate_left
            ·intro w'
             go_simp
             with_reducible rfl
            rotate_left
            ·simp only [Act.put, List.setIfInBounds_toArray, List.set_cons_zero, List.set_cons_succ, i64_w, i32_w]
             rfl
            refine pure_ (i := 1) (N := some 74) (v := ?_) (a' := ?_) #[true, true, false, false, false, false, false, false, false, false, false, false, false, false, false, false, false, false] rfl rfl (any_of HT_.out sq2) (fun _ _ _ h => h) (Or.inl ⟨by rfl, ?_⟩) ?_ ?_
            rotate_left
            ·intro w'
             go_simp
             with_reducible rfl
            rotate_left
            ·simp only [Act.put, List.setIfInBounds_toArray, List.set_cons_zero, List.set_cons_succ, i64_w, i32_w]
             rfl
            refine pure_ (i := 13) (N := some 86) (v := ?_) (a' := ?_) #[true, true, false, false, false, false, false, false, false, false, false, false, false, true, false, false, false, false] rfl rfl (any_of HT_.out sq2) (fun _ _ _ h => h) (Or.inl ⟨by rfl, ?_⟩) ?_ ?_
            rotate_left
            ·intro w'
             go_simp
             with_reducible rfl
            rotate_left
            ·simp only [Act.put, List.setIfInBounds_toArray, List.set_cons_zero, List.set_cons_succ, i64_w, i32_w]
             rfl
            refine pure_ (i := 14) (N := some 87) (v := ?_) (a' := ?_) #[true, true, false, false, false, false, false, false, false, false, false, false, false, true, true, false, false, false] rfl rfl (any_of HT_.out sq2) (fun _ _ _ h => h) (Or.inl ⟨by rfl, ?_⟩) ?_ ?_
            rotate_left
            ·intro w'
             go_simp
             with_reducible rfl
            rotate_left
            ·simp only [Act.put, List.setIfInBounds_toArray, List.set_cons_zero, List.set_cons_succ, i64_w, i32_w]
             rfl
            refine take_ (i := 2) (N := some 75) (v := ?_) (a' := ?_) #[true, true, true, false, false, false, false, false, false, false, false, false, false, true, true, false, false, false] rfl rfl (take_ofW HT_.out HW_.out sq2) (fun _ _ _ h => h) (Or.inl ⟨by rfl, ?_⟩) hHeld ?_ ?_
            rotate_left
            ·rintro w' ⟨s0, s1⟩
             go_simp
             with_reducible rfl
            rotate_left
            ·simp only [Act.put, List.setIfInBounds_toArray, List.set_cons_zero, List.set_cons_succ, i64_w, i32_w]
             rfl
            refine pure_ (i := 3) (N := some 76) (v := ?_) (a' := ?_) #[true, true, true, true, false, false, false, false, false, false, false, false, false, true, true, false, false, false] rfl rfl (any_of HT_.out sq2) (fun _ _ _ h => h) (Or.inl ⟨by rfl, ?_⟩) ?_ ?_
            rotate_left
            ·intro w'
             go_simp
             with_reducible rfl
            rotate_left
            ·simp only [Act.put, List.setIfInBounds_toArray, List.set_cons_zero, List.set_cons_succ, i64_w, i32_w]
             rfl
            refine pure_ (i := 4) (N := some 77) (v := ?_) (a' := ?_) #[true, true, true, true, true, false, false, false, false, false, false, false, false, true, true, false, false, false] rfl rfl (any_of HT_.out sq2) (fun _ _ _ h => h) (Or.inl ⟨by rfl, ?_⟩) ?_ ?_
            rotate_left
            ·intro w'
             go_simp
             with_reducible rfl
            rotate_left
            ·simp only [Act.put, List.setIfInBounds_toArray, List.set_cons_zero, List.set_cons_succ, i64_w, i32_w]
             rfl
            refine pure_ (i := 5) (N := some 78) (v := undef) (a' := ?_) #[true, true, true, true, true, true, false, false, false, false, false, false, false, true, true, false, false, false] rfl rfl (any_of HT_.out sq2) (fun _ _ _ h => h) (Or.inr ⟨by rfl, rfl⟩) ?_ ?_
            rotate_left
            ·simp only [Act.put, List.setIfInBounds_toArray, List.set_cons_zero, List.set_cons_succ, i64_w, i32_w]
             rfl
            refine pure_ (i := 6) (N := some 79) (v := undef) (a' := ?_) #[true, true, true, true, true, true, true, false, false, false, false, false, false, true, true, false, false, false] rfl rfl (any_of HT_.out sq2) (fun _ _ _ h => h) (Or.inr ⟨by rfl, rfl⟩) ?_ ?_
            rotate_left
            ·simp only [Act.put, List.setIfInBounds_toArray, List.set_cons_zero, List.set_cons_succ, i64_w, i32_w]
             rfl
            refine pure_ (i := 7) (N := some 80) (v := undef) (a' := ?_) #[true, true, true, true, true, true, true, true, false, false, false, false, false, true, true, false, false, false] rfl rfl (any_of HT_.out sq2) (fun _ _ _ h => h) (Or.inr ⟨by rfl, rfl⟩) ?_ ?_
            rotate_left
            ·simp only [Act.put, List.setIfInBounds_toArray, List.set_cons_zero, List.set_cons_succ, i64_w, i32_w]
             rfl
            refine pure_ (i := 8) (N := some 81) (v := undef) (a' := ?_) #[true, true, true, true, true, true, true, true, true, false, false, false, false, true, true, false, false, false] rfl rfl (any_of HT_.out sq2) (fun _ _ _ h => h) (Or.inr ⟨by rfl, rfl⟩) ?_ ?_
            rotate_left
            ·simp only [Act.put, List.setIfInBounds_toArray, List.set_cons_zero, List.set_cons_succ, i64_w, i32_w]
             rfl
            refine pure_ (i := 9) (N := some 82) (v := undef) (a' := ?_) #[true, true, true, true, true, true, true, true, true, true, false, false, false, true, true, false, false, false] rfl rfl (any_of HT_.out sq2) (fun _ _ _ h => h) (Or.inr ⟨by rfl, rfl⟩) ?_ ?_
            rotate_left
            ·simp only [Act.put, List.setIfInBounds_toArray, List.set_cons_zero, List.set_cons_succ, i64_w, i32_w]
             rfl
            refine pure_ (i := 10) (N := some 83) (v := undef) (a' := ?_) #[true, true, true, true, true, true, true, true, true, true, true, false, false, true, true, false, false, false] rfl rfl (any_of HT_.out sq2) (fun _ _ _ h => h) (Or.inr ⟨by rfl, rfl⟩) ?_ ?_
            rotate_left
            ·simp only [Act.put, List.setIfInBounds_toArray, List.set_cons_zero, List.set_cons_succ, i64_w, i32_w]
             rfl
            refine pure_ (i := 11) (N := some 84) (v := undef) (a' := ?_) #[true, true, true, true, true, true, true, true, true, true, true, true, false, true, true, false, false, false] rfl rfl (any_of HT_.out sq2) (fun _ _ _ h => h) (Or.inr ⟨by rfl, rfl⟩) ?_ ?_
            rotate_left
            ·simp only [Act.put, List.setIfInBounds_toArray, List.set_cons_zero, List.set_cons_succ, i64_w, i32_w]
             rfl
            refine pure_ (i := 12) (N := some 85) (v := ?_) (a' := ?_) #[true, true, true, true, true, true, true, true, true, true, true, true, true, true, true, false, false, false] rfl rfl (any_of HT_.out sq2) (fun _ _ _ h => h) (Or.inl ⟨by rfl, ?_⟩) ?_ ?_
            rotate_left
            ·intro w'
             go_simp
             with_reducible rfl
            rotate_left
            ·simp only [Act.put, List.setIfInBounds_toArray, List.set_cons_zero, List.set_cons_succ, i64_w, i32_w]
             rfl
            refine take_ (i := 15) (N := some 88) (v := ?_) (a' := ?_) #[true, true, true, true, true, true, true, true, true, true, true, true, true, true, true, true, false, false] rfl rfl (take_ofW HT_.out HW_.out sq2) (fun _ _ _ h => h) (Or.inl ⟨by rfl, ?_⟩) hHeld ?_ ?_
            rotate_left
            ·rintro w' ⟨s0, s1⟩
             go_simp
             with_reducible rfl
            rotate_left
            ·simp only [Act.put, List.setIfInBounds_toArray, List.set_cons_zero, List.set_cons_succ, i64_w, i32_w]
             rfl
            refine one_ (i := 16) (N := some 89) #[true, true, true, true, true, true, true, true, true, true, true, true, true, true, true, true, true, false] rfl rfl (one_of HT_.out sq2) sq1 (fun K hK => ?_)
            refine goes_ Try.func52 sq2 rfl #[.bool false, .int .i64 (rd l1 1)] (by rfl) rfl rfl sq50 ?_
            with_reducible refine (kind_when.calls false (rd l1 1) t133 _ A52.out).mono ?_
            rintro e w' ⟨rfl, ⟨nd, rfl⟩⟩
            refine ⟨_, rfl, ?_⟩
            refine hK.out _ _ ⟨((HB.out.cell (World.block_lt_of_cell? w _ hw127_0)).trans hw127_0), ((HB.out.cell (World.block_lt_of_cell? w _ hw132_0)).trans hw132_0)⟩ (fun hHeld => ?_)
            clear hK K
            refine norm_ (a' := ?_) ?_ ?_
            rotate_left
            ·show Act.put _ (some 89) _ = _
             simp only [Act.put, List.setIfInBounds_toArray, List.set_cons_zero, List.set_cons_succ, i64_w, i32_w]
             rfl
            refine pure_ (i := 17) (N := some 4) (v := ?_) (a' := ?_) #[true, true, true, true, true, true, true, true, true, true, true, true, true, true, true, true, true, true] rfl rfl (any_of HT_.out sq2) (fun _ _ _ h => h) (Or.inl ⟨by rfl, ?_⟩) ?_ ?_
            rotate_left
            ·intro w'
             go_simp
             with_reducible rfl
            rotate_left
            ·simp only [Act.put, List.setIfInBounds_toArray, List.set_cons_zero, List.set_cons_succ, i64_w, i32_w]
             rfl
            refine done_ (done_of HT_.out sq2) ?_
            try go_wp2
            go_ret
            exact ⟨sq13, sq49⟩
           rw [if_neg c51] at H
           exact absurd H (by simp)
          rw [if_neg c45] at H
          exact absurd H (by simp)
         rw [if_neg c44] at H
         have c44b0 : (a0 == 20) = false := beq_eq_false_iff_ne.mpr c44
         have c44b1 : (a0 != 20) = true := bne_iff_ne.mpr c44
         replace H := Option.bind_eq_some_iff.mp H
         obtain ⟨t134, A540, H⟩ := H
         replace H : (if 0 < (l1.length : Int) then ((kind_when.f t134 (rd l1 0)).bind fun t136 => (some t136)) else (none)) = some r := H
         have A54 := Aside0.mk A540
         clear A540
         by_cases c55 : 0 < (l1.length : Int)
         ·rw [if_pos c55] at H
          have c55b0 : decide (0 < (l1.length : Int)) = true := decide_eq_true c55
          have c55b1 : decide (0 < l1.length) = true := decide_eq_true sq0
          clear c55
          replace H := Option.bind_eq_some_iff.mp H
          obtain ⟨t136, A560, H⟩ := H
          replace H : (some t136) = some r := H
          have A56 := Aside0.mk A560
          clear A560
          obtain rfl := Option.some.inj H
          try go_wp2
          have n0_ := Aside0.mk (below_drew1 HB.out)
          clear HB
          have HB := n0_
          clear n0_
          have p135 : 0 ≤ (0 : Int) := sq0
          have q135 : 0 < (l1.length : Int) := of_decide_eq_true sq7
          obtain ⟨ad135, e135, hx135_0⟩ := Kd.at_int HR1.out 0 p135 q135
          have hw135_0 := hx135_0
          (try rw [show ((0 : Int)).toNat = 0 from rfl] at hw135_0)
          (try rw [show 0 * 1 = 0 from rfl] at hw135_0)
          (try rw [Addr.add_zero'] at hw135_0)
          cases e135
          have qi135 : (0 < l1.length) = True := eq_true sq0
          (try rw [show ((0 : Int)).toNat = 0 from rfl] at hx135_0)
          (try rw [Addr.add_zero'] at hx135_0)
          try replace hx135_0 := (HB.out.cell (World.block_lt_of_cell? w _ hx135_0)).trans hx135_0
          replace p135 := eq_true p135
          replace q135 := eq_true q135
          refine start_ (n := 7) (S := fun w' => w'.cell? ad135 = some (.int .i64 (rd l1 0))) (ds := []) #[false, false, false, false, false, false, false] sq2 rfl rfl (((HB.out.cell (World.block_lt_of_cell? w _ hw135_0)).trans hw135_0)) (fun hHeld => ?_)
          generalize wc.drew = w57 at HB hx135_0 hHeld ⊢
          refine pure_ (i := 0) (N := some 90) (v := ?_) (a' := ?_) #[true, false, false, false, false, false, false] rfl rfl sq2 (fun _ _ _ h => h) (Or.inl ⟨by rfl, ?_⟩) ?_ ?_
          rotate_left
          ·intro w'
           go_simp
           with_reducible rfl
          rotate_left
          ·simp only [Act.put, List.setIfInBounds_toArray, List.set_cons_zero, List.set_cons_succ, i64_w, i32_w]
           rfl
          refine pure_ (i := 2) (N := some 92) (v := ?_) (a' := ?_) #[true, false, true, false, false, false, false] rfl rfl sq2 (fun _ _ _ h => h) (Or.inl ⟨by rfl, ?_⟩) ?_ ?_
          rotate_left
          ·intro w'
           go_simp
           with_reducible rfl
          rotate_left
          ·simp only [Act.put, List.setIfInBounds_toArray, List.set_cons_zero, List.set_cons_succ, i64_w, i32_w]
           rfl
          refine pure_ (i := 3) (N := some 93) (v := ?_) (a' := ?_) #[true, false, true, true, false, false, false] rfl rfl sq2 (fun _ _ _ h => h) (Or.inl ⟨by rfl, ?_⟩) ?_ ?_
          rotate_left
          ·intro w'
           go_simp
           with_reducible rfl
          rotate_left
          ·simp only [Act.put, List.setIfInBounds_toArray, List.set_cons_zero, List.set_cons_succ, i64_w, i32_w]
           rfl
          refine take_ (i := 4) (N := some 94) (v := ?_) (a' := ?_) #[true, false, true, true, true, false, false] rfl rfl sq2 (fun _ _ _ h => h) (Or.inl ⟨by rfl, ?_⟩) hHeld ?_ ?_
          rotate_left
          ·intro w' s0
           go_simp
           with_reducible rfl
          rotate_left
          ·simp only [Act.put, List.setIfInBounds_toArray, List.set_cons_zero, List.set_cons_succ, i64_w, i32_w]
           rfl
          refine one_ (i := 1) (N := some 91) #[true, true, true, true, true, false, false] rfl rfl sq2 sq1 (fun K hK => ?_)
          refine goes_ Try.func55 sq2 rfl #[.slice (some ad135) l1.length c1] (by rfl) rfl rfl sq50 ?_
          with_reducible refine (kind_alike.calls _ _ l1 t134 _ ?side1 ?side2 A54.out).mono ?_
          (case side1 => repeat (first | exact (Kd.C_below HR1.out HB.out) | (with_reducible refine Kd.C_alloc ?_ _) | (with_reducible refine Kd.C_drewN ?_ _) | (with_reducible refine Kd.C_drew ?_)))
          (case side2 => exact HC1.out)
          rintro e w58 ⟨rfl, hb⟩
          refine ⟨_, rfl, ?_⟩
          have n0_ := Aside0.mk (below_step sq49 hb)
          clear HB
          have HB := n0_
          clear n0_
          (try clear hb)
          (try clear hb2)
          (try clear hk)
          (try clear hi)
          refine hK.out _ _ (((HB.out.cell (World.block_lt_of_cell? w _ hw135_0)).trans hw135_0)) (fun hHeld => ?_)
          clear hK K
          refine norm_ (a' := ?_) ?_ ?_
          rotate_left
          ·show Act.put _ (some 91) _ = _
           simp only [Act.put, List.setIfInBounds_toArray, List.set_cons_zero, List.set_cons_succ, i64_w, i32_w]
           rfl
          refine one_ (i := 5) (N := some 95) #[true, true, true, true, true, true, false] rfl rfl sq2 sq1 (fun K hK => ?_)
          refine goes_ Try.func52 sq2 rfl #[.bool t134, .int .i64 (rd l1 0)] (by rfl) rfl rfl sq50 ?_
          with_reducible refine (kind_when.calls t134 (rd l1 0) t136 _ A56.out).mono ?_
          rintro e w' ⟨rfl, ⟨nd, rfl⟩⟩
          refine ⟨_, rfl, ?_⟩
          refine hK.out _ _ (((HB.out.cell (World.block_lt_of_cell? w _ hw135_0)).trans hw135_0)) (fun hHeld => ?_)
          clear hK K
          refine norm_ (a' := ?_) ?_ ?_
          rotate_left
          ·show Act.put _ (some 95) _ = _
           simp only [Act.put, List.setIfInBounds_toArray, List.set_cons_zero, List.set_cons_succ, i64_w, i32_w]
           rfl
          refine pure_ (i := 6) (N := some 4) (v := ?_) (a' := ?_) #[true, true, true, true, true, true, true] rfl rfl sq2 (fun _ _ _ h => h) (Or.inl ⟨by rfl, ?_⟩) ?_ ?_
          rotate_left
          ·intro w'
           go_simp
           with_reducible rfl
          rotate_left
          ·simp only [Act.put, List.setIfInBounds_toArray, List.set_cons_zero, List.set_cons_succ, i64_w, i32_w]
           rfl
          refine done_ sq2 ?_
          try go_wp2
          go_ret
          exact ⟨sq13, sq49⟩
         rw [if_neg c55] at H
         exact absurd H (by simp)

end Go.Proofs.Ytpfnnamicbbobaa.PAll
