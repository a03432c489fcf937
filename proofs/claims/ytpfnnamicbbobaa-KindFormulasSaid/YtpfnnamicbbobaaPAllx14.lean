-- Written by a program of this session (wip/tools/print2.sh): functions as plain Lean, and that the machine's calls do what they say.
import Derived.Test.YtpfnnamicbbobaaPAllx0
import Derived.Test.YtpfnnamicbbobaaPAllx12
import Derived.Test.YtpfnnamicbbobaaPAllx13
namespace Go.Proofs.Ytpfnnamicbbobaa.PAll
open Go.RowKit Go.Proofs.YtpfnnamicbbobaaW.PrintWords Go.Proofs.YtpfnnamicbbobaaW.PrintLast Go.Proofs.YtpfnnamicbbobaaW.PrintMore
attribute [local go_sem] max2_int min2_int max_two min_two max_three min_three max_four min_four   -- for this text's walks alone
set_option linter.unusedVariables false
set_option linter.unusedSimpArgs false

/-! ### tontineref17_CheckFormula: function 33 -/
def tontineref17_CheckFormula.f (k : Nat) (l0 : List (S56)) : Option (Int) := if (l0.length : Int) > 1024 then (some 3) else ((tontineref17_Right.f k l0).bind fun bt255 => (if bt255.1 = true then (if bt255.2 > 64 then (some 173) else (some 0)) else (some 5)))
theorem tontineref17_CheckFormula.mono : ∀ a0 k, LeO (tontineref17_CheckFormula.f k a0) (tontineref17_CheckFormula.f (k + 1) a0) := by
 intro a0 k
 unfold tontineref17_CheckFormula.f
 exact (by repeat' first | (with_reducible exact tontineref17_Right.mono _ _) | (with_reducible exact LeO.refl _) | (with_reducible exact LeO.none _) | (with_reducible refine LeO.ite ?_ ?_) | (with_reducible refine LeO.bind ?_ (fun _ => ?_)) | exact tontineref17_Right.mono _ _ | exact LeO.none _ | refine LeO.ite ?_ ?_ | refine LeO.bind ?_ (fun _ => ?_))
set_option maxHeartbeats 8000000 in
set_option maxRecDepth 100000 in
theorem tontineref17_CheckFormula.calls (k : Nat) (A0 : Option Addr) (c0 : Nat) (l0 : List (S56)) (r : Int) (w : World) (hr0 : Kd.C k56 w A0 l0.length l0) (hc0 : l0.length ≤ c0) (h : tontineref17_CheckFormula.f k l0 = some r) :
  Calls Try.prog 33 #[.slice A0 l0.length c0] w fun e w' => e = .returned (.int .i64 r) ∧ Below w.heap.size w w' := by
 have HR0 := Aside0.mk hr0
 have HC0 := Aside0.mk hc0
 clear hr0 hc0
 have HB := Aside0.mk (Below.refl w.heap.size w)
 have H : (if (l0.length : Int) > 1024 then (some 3) else ((tontineref17_Right.f k l0).bind fun bt255 => (if bt255.1 = true then (if bt255.2 > 64 then (some 173) else (some 0)) else (some 5)))) = some r := h
 clear h
 by_cases c2 : (l0.length : Int) > 1024
 ·rw [if_pos c2] at H
  have c2b0 : decide (1024 < (l0.length : Int)) = true := decide_eq_true c2
  have c2b1 : decide (1024 < l0.length) = true := decide_eq_true sq0
  clear c2
  obtain rfl := Option.some.inj H
  go_enter Try.func33, Try.ntmps33
  go_wp2
  go_ret
  exact ⟨sq13, sq49⟩
 rw [if_neg c2] at H
 have c2b0 : decide (1024 < (l0.length : Int)) = false := decide_eq_false c2
 have c2b1 : decide (1024 < l0.length) = false := decide_eq_false sq0
 clear c2
 replace H := Option.bind_eq_some_iff.mp H
 obtain ⟨⟨t255, t256⟩, A30, H⟩ := H
 replace H : (if t255 = true then (if t256 > 64 then (some 173) else (some 0)) else (some 5)) = some r := H
 have A3 := Aside0.mk A30
 clear A30
 by_cases c4 : t255 = true
 ·subst c4
  replace H := (itT_ _ _).symm.trans H
  by_cases c5 : t256 > 64
  ·rw [if_pos c5] at H
   have c5b0 : decide (64 < t256) = true := decide_eq_true c5; clear c5
   obtain rfl := Option.some.inj H
   go_enter Try.func33, Try.ntmps33
   go_wp2_with (first | ((with_reducible refine gate_callee (f := 48) rfl ?_); refine goesL_ (some 10) rfl rfl Try.func48 sq2 rfl #[.slice A0 l0.length c0] rfl sq50 ?_; (with_reducible refine (tontineref17_Right.calls k _ _ l0 true t256 _ ?side1 ?side2 A3.out).mono ?_); (case side1 => repeat (first | exact HR0.out | (with_reducible refine Kd.C_alloc ?_ _) | (with_reducible refine Kd.C_drewN ?_ _) | (with_reducible refine Kd.C_drew ?_))); (case side2 => exact HC0.out); rintro e w6 ⟨rfl, hb⟩; refine ⟨_, rfl, ?_⟩; have n0_ := Aside0.mk (below_step sq49 hb); clear HB; have HB := n0_; clear n0_; (try clear hb); (try clear hb2); (try clear hk); (try clear hi)))
   go_ret
   exact ⟨sq13, sq49⟩
  rw [if_neg c5] at H
  have c5b0 : decide (64 < t256) = false := decide_eq_false c5; clear c5
  obtain rfl := Option.some.inj H
  go_enter Try.func33, Try.ntmps33
  go_wp2_with (first | ((with_reducible refine gate_callee (f := 48) rfl ?_); refine goesL_ (some 10) rfl rfl Try.func48 sq2 rfl #[.slice A0 l0.length c0] rfl sq50 ?_; (with_reducible refine (tontineref17_Right.calls k _ _ l0 true t256 _ ?side1 ?side2 A3.out).mono ?_); (case side1 => repeat (first | exact HR0.out | (with_reducible refine Kd.C_alloc ?_ _) | (with_reducible refine Kd.C_drewN ?_ _) | (with_reducible refine Kd.C_drew ?_))); (case side2 => exact HC0.out); rintro e w7 ⟨rfl, hb⟩; refine ⟨_, rfl, ?_⟩; have n0_ := Aside0.mk (below_step sq49 hb); clear HB; have HB := n0_; clear n0_; (try clear hb); (try clear hb2); (try clear hk); (try clear hi)))
  go_ret
  exact ⟨sq13, sq49⟩
 replace c4 := Bool.eq_false_iff.mpr c4
 subst c4
 replace H := (itF_ _ _).symm.trans H
 obtain rfl := Option.some.inj H
 go_enter Try.func33, Try.ntmps33
 go_wp2_with (first | ((with_reducible refine gate_callee (f := 48) rfl ?_); refine goesL_ (some 10) rfl rfl Try.func48 sq2 rfl #[.slice A0 l0.length c0] rfl sq50 ?_; (with_reducible refine (tontineref17_Right.calls k _ _ l0 false t256 _ ?side1 ?side2 A3.out).mono ?_); (case side1 => repeat (first | exact HR0.out | (with_reducible refine Kd.C_alloc ?_ _) | (with_reducible refine Kd.C_drewN ?_ _) | (with_reducible refine Kd.C_drew ?_))); (case side2 => exact HC0.out); rintro e w8 ⟨rfl, hb⟩; refine ⟨_, rfl, ?_⟩; have n0_ := Aside0.mk (below_step sq49 hb); clear HB; have HB := n0_; clear n0_; (try clear hb); (try clear hb2); (try clear hk); (try clear hi)))
 go_ret
 exact ⟨sq13, sq49⟩

/-! ### tontineref18_looked: function 29 -/
def tontineref18_looked.l0 : Nat → List (S59) → Int → Option (Int)
 | 0, _, _ => none
 | k + 1, x1, x6 => if x6 < (x1.length : Int) then (if 0 ≤ x6 then ((tontinebase_Name.f k ((rd_T59 x1 x6).f0)).bind fun t259 => (if t259 = true then (if ((rd_T59 x1 x6).f1) < 1 then (some 5) else (if ((rd_T59 x1 x6).f1) > 3 then (some 5) else (tontineref18_looked.l0 k x1 (wrap64 (x6 + 1))))) else (some 5))) else (none)) else (some 0)
def tontineref18_looked.f (k : Nat) (l0 : List (S56)) (l1 : List (S59)) : Option (Int) := (tontineref17_CheckFormula.f k l0).bind fun t257 => (if t257 = 0 then (if (l1.length : Int) > 4096 then (some 3) else (tontineref18_looked.l0 k l1 0)) else (some t257))
theorem tontineref18_looked.mono_l : ∀ k, (∀ y0 y1, LeO (tontineref18_looked.l0 k y0 y1) (tontineref18_looked.l0 (k + 1) y0 y1))
 | 0 => fun _ _ r h => by simp [tontineref18_looked.l0] at h
 | k + 1 => by
  have ih0 := tontineref18_looked.mono_l k
  ·intro y0 y1
   unfold tontineref18_looked.l0
   exact sq136
theorem tontineref18_looked.mono : ∀ a0 a1 k, LeO (tontineref18_looked.f k a0 a1) (tontineref18_looked.f (k + 1) a0 a1) := by
 intro a0 a1 k
 have ih0 := tontineref18_looked.mono_l k
 unfold tontineref18_looked.f
 exact sq136
set_option maxHeartbeats 8000000 in
set_option maxRecDepth 100000 in
theorem tontineref18_looked.calls (k : Nat) (A0 : Option Addr) (c0 : Nat) (l0 : List (S56)) (A1 : Option Addr) (c1 : Nat) (l1 : List (S59)) (r : Int) (w : World) (hr0 : Kd.C k56 w A0 l0.length l0) (hc0 : l0.length ≤ c0) (hr1 : Kd.C k59 w A1 l1.length l1) (hc1 : l1.length ≤ c1) (h : tontineref18_looked.f k l0 l1 = some r) :
  Calls Try.prog 29 #[.slice A0 l0.length c0, .slice A1 l1.length c1] w fun e w' => e = .returned (.int .i64 r) ∧ Below w.heap.size w w' := by
 have HR0 := Aside0.mk hr0
 have HC0 := Aside0.mk hc0
 clear hr0 hc0
 have HR1 := Aside0.mk hr1
 have HC1 := Aside0.mk hc1
 clear hr1 hc1
 have HB := Aside0.mk (Below.refl w.heap.size w)
 have H : ((tontineref17_CheckFormula.f k l0).bind fun t257 => (if t257 = 0 then (if (l1.length : Int) > 4096 then (some 3) else (tontineref18_looked.l0 k l1 0)) else (some t257))) = some r := h
 clear h
 replace H := Option.bind_eq_some_iff.mp H
 obtain ⟨t257, A30, H⟩ := H
 replace H : (if t257 = 0 then (if (l1.length : Int) > 4096 then (some 3) else (tontineref18_looked.l0 k l1 0)) else (some t257)) = some r := H
 have A3 := Aside0.mk A30
 clear A30
 by_cases c4 : t257 = 0
 ·rw [if_pos c4] at H
  have c4b0 : (t257 == 0) = true := beq_iff_eq.mpr c4
  have c4b1 : (t257 != 0) = false := bne_eq_false_iff_eq.mpr c4
  clear c4
  by_cases c5 : (l1.length : Int) > 4096
  ·rw [if_pos c5] at H
   have c5b0 : decide (4096 < (l1.length : Int)) = true := decide_eq_true c5
   have c5b1 : decide (4096 < l1.length) = true := decide_eq_true sq0
   clear c5
   obtain rfl := Option.some.inj H
   go_enter Try.func29, Try.ntmps29
   go_wp2_with (first | ((with_reducible refine gate_callee (f := 33) rfl ?_); refine goesL_ (some 8) rfl rfl Try.func33 sq2 rfl #[.slice A0 l0.length c0] rfl sq50 ?_; (with_reducible refine (tontineref17_CheckFormula.calls k _ _ l0 t257 _ ?side1 ?side2 A3.out).mono ?_); (case side1 => repeat (first | exact HR0.out | (with_reducible refine Kd.C_alloc ?_ _) | (with_reducible refine Kd.C_drewN ?_ _) | (with_reducible refine Kd.C_drew ?_))); (case side2 => exact HC0.out); rintro e w6 ⟨rfl, hb⟩; refine ⟨_, rfl, ?_⟩; have n0_ := Aside0.mk (below_step sq49 hb); clear HB; have HB := n0_; clear n0_; (try clear hb); (try clear hb2); (try clear hk); (try clear hi)))
   go_ret
   exact ⟨sq13, sq49⟩
  rw [if_neg c5] at H
  have c5b0 : decide (4096 < (l1.length : Int)) = false := decide_eq_false c5
  have c5b1 : decide (4096 < l1.length) = false := decide_eq_false sq0
  clear c5
  have H' := Aside0.mk H
  clear H
  go_enter Try.func29, Try.ntmps29
  go_wp2_with (first | ((with_reducible refine gate_callee (f := 33) rfl ?_); refine goesL_ (some 8) rfl rfl Try.func33 sq2 rfl #[.slice A0 l0.length c0] rfl sq50 ?_; (with_reducible refine (tontineref17_CheckFormula.calls k _ _ l0 t257 _ ?side1 ?side2 A3.out).mono ?_); (case side1 => repeat (first | exact HR0.out | (with_reducible refine Kd.C_alloc ?_ _) | (with_reducible refine Kd.C_drewN ?_ _) | (with_reducible refine Kd.C_drew ?_))); (case side2 => exact HC0.out); rintro e w7 ⟨rfl, hb⟩; refine ⟨_, rfl, ?_⟩; have n0_ := Aside0.mk (below_step sq49 hb); clear HB; have HB := n0_; clear n0_; (try clear hb); (try clear hb2); (try clear hk); (try clear hi)))
  go_loopg [6] k (fun kq v6 w' => ∃ (x6_1 : Int), v6 = .int .i64 x6_1 ∧ Aside0 (tontineref18_looked.l0 kq l1 x6_1 = some r) ∧ Aside0 (kq ≤ k) ∧ Aside0 (Below w.heap.size w w'))
  case atStart => exact ⟨(0), sq6, H', ⟨Nat.le_refl _⟩, ⟨sq49⟩⟩
  case round =>
   clear H'
   try clear c1; try clear c2; try clear p2; try clear c3; try clear c4; try clear c4b0; try clear c4b1; try clear c5; try clear c5b0; try clear c5b1
   obtain ⟨x6_1, rfl, HA, HK1, HB⟩ := hrel
   cases gk with
   | zero => exact absurd HA.out (by simp [tontineref18_looked.l0])
   | succ k1 =>
    have H := HA.out
    clear HA
    simp only [tontineref18_looked.l0] at H
    by_cases c8 : x6_1 < (l1.length : Int)
    ·rw [if_pos c8] at H
     have c8b0 : decide (x6_1 < (l1.length : Int)) = true := decide_eq_true c8; clear c8
     by_cases c9 : 0 ≤ x6_1
     ·rw [if_pos c9] at H
      have c9b0 : decide (0 ≤ x6_1) = true := decide_eq_true c9; clear c9
      replace H := Option.bind_eq_some_iff.mp H
      obtain ⟨t259, A100, H⟩ := H
      replace H : (if t259 = true then (if ((rd_T59 l1 x6_1).f1) < 1 then (some 5) else (if ((rd_T59 l1 x6_1).f1) > 3 then (some 5) else (tontineref18_looked.l0 k1 l1 (wrap64 (x6_1 + 1))))) else (some 5)) = some r := H
      have A10 := Aside0.mk A100
      clear A100
      by_cases c11 : t259 = true
      ·subst c11
       replace H := (itT_ _ _).symm.trans H
       by_cases c12 : ((rd_T59 l1 x6_1).f1) < 1
       ·rw [if_pos c12] at H
        have c12b0 : decide (((rd_T59 l1 x6_1).f1) < 1) = true := decide_eq_true c12; clear c12
        obtain rfl := Option.some.inj H
        have p258 : 0 ≤ (x6_1 : Int) := of_decide_eq_true sq7
        have q258 : x6_1 < (l1.length : Int) := of_decide_eq_true sq7
        obtain ⟨ad258, e258, hx258_0, hx258_1⟩ := at_T59 HR1.out x6_1 p258 q258
        cases e258
        try replace hx258_0 := (HB.out.cell (World.block_lt_of_cell? w _ hx258_0)).trans hx258_0
        try replace hx258_1 := (HB.out.cell (World.block_lt_of_cell? w _ hx258_1)).trans hx258_1
        replace p258 := eq_true p258
        replace q258 := eq_true q258
        go_wp2_with (first | ((with_reducible refine gate_callee (f := 36) rfl ?_); refine goesL_ (some 26) rfl rfl Try.func36 sq2 rfl #[.string ((rd_T59 l1 x6_1).f0)] rfl sq50 ?_; (with_reducible refine (tontinebase_Name.calls k1 ((rd_T59 l1 x6_1).f0) true _ A10.out).mono ?_); rintro e w' ⟨rfl, ⟨nd, rfl⟩⟩; refine ⟨_, rfl, ?_⟩; have p260 : 0 ≤ (x6_1 : Int) := of_decide_eq_true sq7; have q260 : x6_1 < (l1.length : Int) := of_decide_eq_true sq7; obtain ⟨ad260, e260, hx260_0, hx260_1⟩ := at_T59 HR1.out x6_1 p260 q260; obtain rfl : ad258 = ad260 := (by injection e260); replace hx260_0 := (HB.out.cell (World.block_lt_of_cell? w _ hx260_0)).trans hx260_0; replace hx260_1 := (HB.out.cell (World.block_lt_of_cell? w _ hx260_1)).trans hx260_1; replace p260 := eq_true p260; replace q260 := eq_true q260))
        go_ret
        exact ⟨sq13, sq49⟩
       rw [if_neg c12] at H
       have c12b0 : decide (((rd_T59 l1 x6_1).f1) < 1) = false := decide_eq_false c12; clear c12
       by_cases c13 : ((rd_T59 l1 x6_1).f1) > 3
       ·rw [if_pos c13] at H
        have c13b0 : decide (3 < ((rd_T59 l1 x6_1).f1)) = true := decide_eq_true c13; clear c13
        obtain rfl := Option.some.inj H
        have p258 : 0 ≤ (x6_1 : Int) := of_decide_eq_true sq7
        have q258 : x6_1 < (l1.length : Int) := of_decide_eq_true sq7
        obtain ⟨ad258, e258, hx258_0, hx258_1⟩ := at_T59 HR1.out x6_1 p258 q258
        cases e258
        try replace hx258_0 := (HB.out.cell (World.block_lt_of_cell? w _ hx258_0)).trans hx258_0
        try replace hx258_1 := (HB.out.cell (World.block_lt_of_cell? w _ hx258_1)).trans hx258_1
        replace p258 := eq_true p258
        replace q258 := eq_true q258
        go_wp2_with (first | ((with_reducible refine gate_callee (f := 36) rfl ?_); refine goesL_ (some 26) rfl rfl Try.func36 sq2 rfl #[.string ((rd_T59 l1 x6_1).f0)] rfl sq50 ?_; (with_reducible refine (tontinebase_Name.calls k1 ((rd_T59 l1 x6_1).f0) true _ A10.out).mono ?_); rintro e w' ⟨rfl, ⟨nd, rfl⟩⟩; refine ⟨_, rfl, ?_⟩; have p260 : 0 ≤ (x6_1 : Int) := of_decide_eq_true sq7; have q260 : x6_1 < (l1.length : Int) := of_decide_eq_true sq7; obtain ⟨ad260, e260, hx260_0, hx260_1⟩ := at_T59 HR1.out x6_1 p260 q260; obtain rfl : ad258 = ad260 := (by injection e260); replace hx260_0 := (HB.out.cell (World.block_lt_of_cell? w _ hx260_0)).trans hx260_0; replace hx260_1 := (HB.out.cell (World.block_lt_of_cell? w _ hx260_1)).trans hx260_1; replace p260 := eq_true p260; replace q260 := eq_true q260; have p261 : 0 ≤ (x6_1 : Int) := of_decide_eq_true sq7; have q261 : x6_1 < (l1.length : Int) := of_decide_eq_true sq7; obtain ⟨ad261, e261, hx261_0, hx261_1⟩ := at_T59 HR1.out x6_1 p261 q261; obtain rfl : ad258 = ad261 := (by injection e261); replace hx261_0 := (HB.out.cell (World.block_lt_of_cell? w _ hx261_0)).trans hx261_0; replace hx261_1 := (HB.out.cell (World.block_lt_of_cell? w _ hx261_1)).trans hx261_1; replace p261 := eq_true p261; replace q261 := eq_true q261))
        go_ret
        exact ⟨sq13, sq49⟩
       rw [if_neg c13] at H
       have c13b0 : decide (3 < ((rd_T59 l1 x6_1).f1)) = false := decide_eq_false c13; clear c13
       have H' := Aside0.mk H
       clear H
       have p258 : 0 ≤ (x6_1 : Int) := of_decide_eq_true sq7
       have q258 : x6_1 < (l1.length : Int) := of_decide_eq_true sq7
       obtain ⟨ad258, e258, hx258_0, hx258_1⟩ := at_T59 HR1.out x6_1 p258 q258
       cases e258
       try replace hx258_0 := (HB.out.cell (World.block_lt_of_cell? w _ hx258_0)).trans hx258_0
       try replace hx258_1 := (HB.out.cell (World.block_lt_of_cell? w _ hx258_1)).trans hx258_1
       replace p258 := eq_true p258
       replace q258 := eq_true q258
       go_wp2_with (first | ((with_reducible refine gate_callee (f := 36) rfl ?_); refine goesL_ (some 26) rfl rfl Try.func36 sq2 rfl #[.string ((rd_T59 l1 x6_1).f0)] rfl sq50 ?_; (with_reducible refine (tontinebase_Name.calls k1 ((rd_T59 l1 x6_1).f0) true _ A10.out).mono ?_); rintro e w' ⟨rfl, ⟨nd, rfl⟩⟩; refine ⟨_, rfl, ?_⟩; have p260 : 0 ≤ (x6_1 : Int) := of_decide_eq_true sq7; have q260 : x6_1 < (l1.length : Int) := of_decide_eq_true sq7; obtain ⟨ad260, e260, hx260_0, hx260_1⟩ := at_T59 HR1.out x6_1 p260 q260; obtain rfl : ad258 = ad260 := (by injection e260); replace hx260_0 := (HB.out.cell (World.block_lt_of_cell? w _ hx260_0)).trans hx260_0; replace hx260_1 := (HB.out.cell (World.block_lt_of_cell? w _ hx260_1)).trans hx260_1; replace p260 := eq_true p260; replace q260 := eq_true q260; have p261 : 0 ≤ (x6_1 : Int) := of_decide_eq_true sq7; have q261 : x6_1 < (l1.length : Int) := of_decide_eq_true sq7; obtain ⟨ad261, e261, hx261_0, hx261_1⟩ := at_T59 HR1.out x6_1 p261 q261; obtain rfl : ad258 = ad261 := (by injection e261); replace hx261_0 := (HB.out.cell (World.block_lt_of_cell? w _ hx261_0)).trans hx261_0; replace hx261_1 := (HB.out.cell (World.block_lt_of_cell? w _ hx261_1)).trans hx261_1; replace p261 := eq_true p261; replace q261 := eq_true q261))
       go_roundg k1
       case measure => have := HK1.out; omega
       case rel => exact ⟨(wrap64 (x6_1 + 1)), sq6, H', ⟨sq3⟩, ⟨sq49⟩⟩
      replace c11 := Bool.eq_false_iff.mpr c11
      subst c11
      replace H := (itF_ _ _).symm.trans H
      obtain rfl := Option.some.inj H
      have p258 : 0 ≤ (x6_1 : Int) := of_decide_eq_true sq7
      have q258 : x6_1 < (l1.length : Int) := of_decide_eq_true sq7
      obtain ⟨ad258, e258, hx258_0, hx258_1⟩ := at_T59 HR1.out x6_1 p258 q258
      cases e258
      try replace hx258_0 := (HB.out.cell (World.block_lt_of_cell? w _ hx258_0)).trans hx258_0
      try replace hx258_1 := (HB.out.cell (World.block_lt_of_cell? w _ hx258_1)).trans hx258_1
      replace p258 := eq_true p258
      replace q258 := eq_true q258
      go_wp2_with (first | ((with_reducible refine gate_callee (f := 36) rfl ?_); refine goesL_ (some 26) rfl rfl Try.func36 sq2 rfl #[.string ((rd_T59 l1 x6_1).f0)] rfl sq50 ?_; (with_reducible refine (tontinebase_Name.calls k1 ((rd_T59 l1 x6_1).f0) false _ A10.out).mono ?_); rintro e w' ⟨rfl, ⟨nd, rfl⟩⟩; refine ⟨_, rfl, ?_⟩))
      go_ret
      exact ⟨sq13, sq49⟩
     rw [if_neg c9] at H
     exact absurd H (by simp)
    rw [if_neg c8] at H
    have c8b0 : decide (x6_1 < (l1.length : Int)) = false := decide_eq_false c8; clear c8
    obtain rfl := Option.some.inj H
    go_wp2
    go_ret
    exact ⟨sq13, sq49⟩
 rw [if_neg c4] at H
 have c4b0 : (t257 == 0) = false := beq_eq_false_iff_ne.mpr c4
 have c4b1 : (t257 != 0) = true := bne_iff_ne.mpr c4
 obtain rfl := Option.some.inj H
 go_enter Try.func29, Try.ntmps29
 go_wp2_with (first | ((with_reducible refine gate_callee (f := 33) rfl ?_); refine goesL_ (some 8) rfl rfl Try.func33 sq2 rfl #[.slice A0 l0.length c0] rfl sq50 ?_; (with_reducible refine (tontineref17_CheckFormula.calls k _ _ l0 t257 _ ?side1 ?side2 A3.out).mono ?_); (case side1 => repeat (first | exact HR0.out | (with_reducible refine Kd.C_alloc ?_ _) | (with_reducible refine Kd.C_drewN ?_ _) | (with_reducible refine Kd.C_drew ?_))); (case side2 => exact HC0.out); rintro e w14 ⟨rfl, hb⟩; refine ⟨_, rfl, ?_⟩; have n0_ := Aside0.mk (below_step sq49 hb); clear HB; have HB := n0_; clear n0_; (try clear hb); (try clear hb2); (try clear hk); (try clear hi)))
 go_ret
 exact ⟨sq13, sq49⟩

/-! ### tontineref18_parts: function 43 -/
mutual
def tontineref18_parts.j0 : Nat → Int → Bool → Int → Int → ByteArray → Option (Int)
 | 0, _, _, _, _, _ => none
 | k + 1, x4, x5, x263000, x263001, x263002 => if x5 = true then (some 0) else (if x4 = 6 then (tontineref18_parts.j1 k x4 (x4 == 6) x263000 x263001 x263002) else (tontineref18_parts.j1 k x4 (x4 == 7) x263000 x263001 x263002))
def tontineref18_parts.j1 : Nat → Int → Bool → Int → Int → ByteArray → Option (Int)
 | 0, _, _, _, _, _ => none
 | k + 1, x4, x11, x263000, x263001, x263002 => if x11 = true then (some 1) else (if x4 = 20 then (some 3) else (if x4 = 21 then (some x263001) else (if x4 = 22 then (some x263001) else (some 2))))
end
def tontineref18_parts.f (k : Nat) (a0_0 : Int) (a0_1 : Int) (a0_2 : ByteArray) : Option (Int) := if a0_0 = 1 then (tontineref18_parts.j0 k a0_0 (a0_0 == 1) a0_0 a0_1 a0_2) else (if a0_0 = 2 then (tontineref18_parts.j0 k a0_0 (a0_0 == 2) a0_0 a0_1 a0_2) else (if a0_0 = 3 then (tontineref18_parts.j0 k a0_0 (a0_0 == 3) a0_0 a0_1 a0_2) else (if a0_0 = 4 then (tontineref18_parts.j0 k a0_0 (a0_0 == 4) a0_0 a0_1 a0_2) else (tontineref18_parts.j0 k a0_0 (a0_0 == 5) a0_0 a0_1 a0_2))))
theorem tontineref18_parts.mono_l : ∀ k, (∀ y0 y1 y2 y3 y4, LeO (tontineref18_parts.j0 k y0 y1 y2 y3 y4) (tontineref18_parts.j0 (k + 1) y0 y1 y2 y3 y4)) ∧ (∀ y0 y1 y2 y3 y4, LeO (tontineref18_parts.j1 k y0 y1 y2 y3 y4) (tontineref18_parts.j1 (k + 1) y0 y1 y2 y3 y4))
 | 0 => ⟨fun _ _ _ _ _ r h => by simp [tontineref18_parts.j0] at h, fun _ _ _ _ _ r h => by simp [tontineref18_parts.j1] at h⟩
 | k + 1 => by
  obtain ⟨ih0, ih1⟩ := tontineref18_parts.mono_l k
  refine ⟨?_, ?_⟩
  ·intro y0 y1 y2 y3 y4
   unfold tontineref18_parts.j0
   exact sq114
  intro y0 y1 y2 y3 y4
  unfold tontineref18_parts.j1
  exact sq114
theorem tontineref18_parts.mono : ∀ a0 a1 a2 k, LeO (tontineref18_parts.f k a0 a1 a2) (tontineref18_parts.f (k + 1) a0 a1 a2) := by
 intro a0 a1 a2 k
 obtain ⟨ih0, ih1⟩ := tontineref18_parts.mono_l k
 unfold tontineref18_parts.f
 exact sq114
set_option maxHeartbeats 8000000 in
set_option maxRecDepth 100000 in
theorem tontineref18_parts.calls (k : Nat) (a0_0 : Int) (a0_1 : Int) (a0_2 : ByteArray) (r : Int) (w : World) (h : tontineref18_parts.f k a0_0 a0_1 a0_2 = some r) :
  Calls Try.prog 43 #[.agg #[.int .i64 a0_0, .int .i64 a0_1, .string a0_2]] w fun e w' => e = .returned (.int .i64 r) ∧ Below w.heap.size w w' := by
 have hu56 := Try.underlying56
 have HB := Aside0.mk (Below.refl w.heap.size w)
 have H : (if a0_0 = 1 then (tontineref18_parts.j0 k a0_0 (a0_0 == 1) a0_0 a0_1 a0_2) else (if a0_0 = 2 then (tontineref18_parts.j0 k a0_0 (a0_0 == 2) a0_0 a0_1 a0_2) else (if a0_0 = 3 then (tontineref18_parts.j0 k a0_0 (a0_0 == 3) a0_0 a0_1 a0_2) else (if a0_0 = 4 then (tontineref18_parts.j0 k a0_0 (a0_0 == 4) a0_0 a0_1 a0_2) else (tontineref18_parts.j0 k a0_0 (a0_0 == 5) a0_0 a0_1 a0_2))))) = some r := h
 clear h
 have HC2 := Aside0.mk H
 clear H
 go_enter Try.func43, Try.ntmps43
 go_upto_if 5 with (first | ((with_reducible refine gate_dst (N := 1) rfl ?_); refine box_event ?hg (N := 1) ?hd (cs := #[.int .i64 a0_0, .int .i64 a0_1, .string a0_2]) (t := 56) ?hr ?_; (case hd => rfl); (case hg => rfl); (case hr => first | (go_simp; done) | (go_simp; rfl)); intro gb262 hg w3 hbox hb; have n0_ := Aside0.mk (below_step sq49 hb); have n1_ := Aside0.mk (hbox); have n2_ := Aside0.mk ((by rw [hg]; exact (below_size sq49) : w.heap.size ≤ gb262)); have n3_ := Aside0.mk ((by rw [hg]; exact (below_size sq49) : w.heap.size ≤ gb262)); clear HB; have HB := n0_; have BK262 := n1_; have GW262 := n2_; have GE262 := n3_; clear n0_ n1_ n2_ n3_; clear hb hbox hg; have hcz4_0 : w3.cell? ⟨gb262, 0, none⟩ = some (.int .i64 a0_0) := (blk_cell BK262.out 0).trans rfl; have hcz4_1 : w3.cell? ⟨gb262, 1, none⟩ = some (.int .i64 a0_1) := (blk_cell BK262.out 1).trans rfl; have hcz4_2 : w3.cell? ⟨gb262, 2, none⟩ = some (.string a0_2) := (blk_cell BK262.out 2).trans rfl; have hfz4_0 := blk_frozen BK262.out 0; have hfz4_1 := blk_frozen BK262.out 1; have hfz4_2 := blk_frozen BK262.out 2))
 (try simp only [Act.put, List.setIfInBounds_toArray, List.set_cons_zero, List.set_cons_succ])
 go_cut [5] (fun v5 wc => ∃ (kq : Nat) (x5_1 : Bool), v5 = .bool x5_1 ∧ Aside0 (tontineref18_parts.j0 kq a0_0 x5_1 a0_0 a0_1 a0_2 = some r) ∧ Aside0 (kq ≤ k) ∧ Aside0 (wc.heap[gb262]? = some (.cells #[.int .i64 a0_0, .int .i64 a0_1, .string a0_2] 56 (0, 0))) ∧ Aside0 (Below w.heap.size w wc))
 case first =>
  have H := HC2.out
  clear HC2
  by_cases c5 : a0_0 = 1
  ·rw [if_pos c5] at H
   have c5b0 : (a0_0 == 1) = true := beq_iff_eq.mpr c5
   have c5b1 : (a0_0 != 1) = false := bne_eq_false_iff_eq.mpr c5
   clear c5
   (first | rw [c5b0] | (simp only [i64_w, i32_w]; rw [c5b0]) | skip)
   have H' := Aside0.mk H
   clear H
   go_wp2
   go_meet
   case rel => exact ⟨_, ((a0_0 == 1)), sq6, H', ⟨sq4⟩, ⟨sq41⟩, ⟨sq67⟩⟩
  rw [if_neg c5] at H
  have c5b0 : (a0_0 == 1) = false := beq_eq_false_iff_ne.mpr c5
  have c5b1 : (a0_0 != 1) = true := bne_iff_ne.mpr c5
  (first | rw [c5b0] | (simp only [i64_w, i32_w]; rw [c5b0]) | skip)
  by_cases c6 : a0_0 = 2
  ·rw [if_pos c6] at H
   have c6b0 : (a0_0 == 2) = true := beq_iff_eq.mpr c6
   have c6b1 : (a0_0 != 2) = false := bne_eq_false_iff_eq.mpr c6
   clear c6
   have H' := Aside0.mk H
   clear H
   go_wp2
   go_meet
   case rel => exact ⟨_, ((a0_0 == 2)), sq6, H', ⟨sq4⟩, ⟨sq41⟩, ⟨sq67⟩⟩
  rw [if_neg c6] at H
  have c6b0 : (a0_0 == 2) = false := beq_eq_false_iff_ne.mpr c6
  have c6b1 : (a0_0 != 2) = true := bne_iff_ne.mpr c6
  by_cases c7 : a0_0 = 3
  ·rw [if_pos c7] at H
   have c7b0 : (a0_0 == 3) = true := beq_iff_eq.mpr c7
   have c7b1 : (a0_0 != 3) = false := bne_eq_false_iff_eq.mpr c7
   clear c7
   have H' := Aside0.mk H
   clear H
   go_wp2
   go_meet
   case rel => exact ⟨_, ((a0_0 == 3)), sq6, H', ⟨sq4⟩, ⟨sq41⟩, ⟨sq67⟩⟩
  rw [if_neg c7] at H
  have c7b0 : (a0_0 == 3) = false := beq_eq_false_iff_ne.mpr c7
  have c7b1 : (a0_0 != 3) = true := bne_iff_ne.mpr c7
  by_cases c8 : a0_0 = 4
  ·rw [if_pos c8] at H
   have c8b0 : (a0_0 == 4) = true := beq_iff_eq.mpr c8
   have c8b1 : (a0_0 != 4) = false := bne_eq_false_iff_eq.mpr c8
   clear c8
   have H' := Aside0.mk H
   clear H
   go_wp2
   go_meet
   case rel => exact ⟨_, ((a0_0 == 4)), sq6, H', ⟨sq4⟩, ⟨sq41⟩, ⟨sq67⟩⟩
  rw [if_neg c8] at H
  have c8b0 : (a0_0 == 4) = false := beq_eq_false_iff_ne.mpr c8
  have c8b1 : (a0_0 != 4) = true := bne_iff_ne.mpr c8
  have H' := Aside0.mk H
  clear H
  go_wp2
  go_meet
  case rel => exact ⟨_, ((a0_0 == 5)), sq6, H', ⟨sq4⟩, ⟨sq41⟩, ⟨sq67⟩⟩
 case rest =>
  clear HC2; try clear p2; try clear c4; try clear c5; try clear c5b0; try clear c5b1; try clear c6; try clear c6b0; try clear c6b1; try clear c7; try clear c7b0; try clear c7b1; try clear c8; try clear c8b0; try clear c8b1; try clear hcz4_0; try clear hcz4_1; try clear hcz4_2; try clear hfz4_0; try clear hfz4_1; try clear hfz4_2
  obtain ⟨kq, x5_1, rfl, HA, HJ1, BK262, HB⟩ := hcut
  cases kq with
  | zero => exact absurd HA.out (by simp [tontineref18_parts.j0])
  | succ kj1 =>
   have H := HA.out
   clear HA
   simp only [tontineref18_parts.j0] at H
   by_cases c9 : x5_1 = true
   ·subst c9
    replace H := (itT_ _ _).symm.trans H
    obtain rfl := Option.some.inj H
    go_wp2
    go_ret
    exact ⟨sq13, sq67⟩
   replace c9 := Bool.eq_false_iff.mpr c9
   subst c9
   replace H := (itF_ _ _).symm.trans H
   have HC10 := Aside0.mk H
   clear H
   go_upto_if 11 with (fail)
   go_cut [11] (fun v11 wc => ∃ (kq : Nat) (x11_9 : Bool), v11 = .bool x11_9 ∧ Aside0 (tontineref18_parts.j1 kq a0_0 x11_9 a0_0 a0_1 a0_2 = some r) ∧ Aside0 (kq ≤ kj1) ∧ Aside0 (wc.heap[gb262]? = some (.cells #[.int .i64 a0_0, .int .i64 a0_1, .string a0_2] 56 (0, 0))) ∧ Aside0 (Below w.heap.size w wc))
   case first =>
    have H := HC10.out
    clear HC10
    by_cases c11 : a0_0 = 6
    ·rw [if_pos c11] at H
     have c11b0 : (a0_0 == 6) = true := beq_iff_eq.mpr c11
     have c11b1 : (a0_0 != 6) = false := bne_eq_false_iff_eq.mpr c11
     clear c11
     (first | rw [c11b0] | (simp only [i64_w, i32_w]; rw [c11b0]) | skip)
     have H' := Aside0.mk H
     clear H
     go_wp2
     go_meet
     case rel => exact ⟨_, ((a0_0 == 6)), sq6, H', ⟨sq8⟩, ⟨sq41⟩, ⟨sq67⟩⟩
    rw [if_neg c11] at H
    have c11b0 : (a0_0 == 6) = false := beq_eq_false_iff_ne.mpr c11
    have c11b1 : (a0_0 != 6) = true := bne_iff_ne.mpr c11
    (first | rw [c11b0] | (simp only [i64_w, i32_w]; rw [c11b0]) | skip)
    have H' := Aside0.mk H
    clear H
    go_wp2
    go_meet
    case rel => exact ⟨_, ((a0_0 == 7)), sq6, H', ⟨sq8⟩, ⟨sq41⟩, ⟨sq67⟩⟩
   case rest =>
    clear HC10; try clear c1; try clear p2; try clear c4; try clear c5; try clear c5b0; try clear c5b1; try clear c6; try clear c6b0; try clear c6b1; try clear c7; try clear c7b0; try clear c7b1; try clear c8; try clear c8b0; try clear c8b1; try clear c9; try clear c11; try clear c11b0; try clear c11b1; try clear hcz4_0; try clear hcz4_1; try clear hcz4_2; try clear hfz4_0; try clear hfz4_1; try clear hfz4_2; try clear p2
    obtain ⟨kq, x11_9, rfl, HA, HJ9, BK262, HB⟩ := hcut
    cases kq with
    | zero => exact absurd HA.out (by simp [tontineref18_parts.j1])
    | succ kj9 =>
     have H := HA.out
     clear HA
     simp only [tontineref18_parts.j1] at H
     by_cases c12 : x11_9 = true
     ·subst c12
      replace H := (itT_ _ _).symm.trans H
      obtain rfl := Option.some.inj H
      go_wp2
      go_ret
      exact ⟨sq13, sq67⟩
     replace c12 := Bool.eq_false_iff.mpr c12
     subst c12
     replace H := (itF_ _ _).symm.trans H
     by_cases c13 : a0_0 = 20
     ·rw [if_pos c13] at H
      have c13b0 : (a0_0 == 20) = true := beq_iff_eq.mpr c13
      have c13b1 : (a0_0 != 20) = false := bne_eq_false_iff_eq.mpr c13
      clear c13
      obtain rfl := Option.some.inj H
      go_wp2
      go_ret
      exact ⟨sq13, sq67⟩
     rw [if_neg c13] at H
     have c13b0 : (a0_0 == 20) = false := beq_eq_false_iff_ne.mpr c13
     have c13b1 : (a0_0 != 20) = true := bne_iff_ne.mpr c13
     by_cases c14 : a0_0 = 21
     ·rw [if_pos c14] at H
      have c14b0 : (a0_0 == 21) = true := beq_iff_eq.mpr c14
      have c14b1 : (a0_0 != 21) = false := bne_eq_false_iff_eq.mpr c14
      clear c14
      obtain rfl := Option.some.inj H
      have hcz15_0 : wc.cell? ⟨gb262, 0, none⟩ = some (.int .i64 a0_0) := (blk_cell BK262.out 0).trans rfl
      have hcz15_1 : wc.cell? ⟨gb262, 1, none⟩ = some (.int .i64 a0_1) := (blk_cell BK262.out 1).trans rfl
      have hcz15_2 : wc.cell? ⟨gb262, 2, none⟩ = some (.string a0_2) := (blk_cell BK262.out 2).trans rfl
      have hfz15_0 := blk_frozen BK262.out 0
      have hfz15_1 := blk_frozen BK262.out 1
      have hfz15_2 := blk_frozen BK262.out 2
      go_wp2
      go_ret
      exact ⟨sq13, sq67⟩
     rw [if_neg c14] at H
     have c14b0 : (a0_0 == 21) = false := beq_eq_false_iff_ne.mpr c14
     have c14b1 : (a0_0 != 21) = true := bne_iff_ne.mpr c14
     by_cases c16 : a0_0 = 22
     ·rw [if_pos c16] at H
      have c16b0 : (a0_0 == 22) = true := beq_iff_eq.mpr c16
      have c16b1 : (a0_0 != 22) = false := bne_eq_false_iff_eq.mpr c16
      clear c16
      obtain rfl := Option.some.inj H
      have hcz17_0 : wc.cell? ⟨gb262, 0, none⟩ = some (.int .i64 a0_0) := (blk_cell BK262.out 0).trans rfl
      have hcz17_1 : wc.cell? ⟨gb262, 1, none⟩ = some (.int .i64 a0_1) := (blk_cell BK262.out 1).trans rfl
      have hcz17_2 : wc.cell? ⟨gb262, 2, none⟩ = some (.string a0_2) := (blk_cell BK262.out 2).trans rfl
      have hfz17_0 := blk_frozen BK262.out 0
      have hfz17_1 := blk_frozen BK262.out 1
      have hfz17_2 := blk_frozen BK262.out 2
      go_wp2
      go_ret
      exact ⟨sq13, sq67⟩
     rw [if_neg c16] at H
     have c16b0 : (a0_0 == 22) = false := beq_eq_false_iff_ne.mpr c16
     have c16b1 : (a0_0 != 22) = true := bne_iff_ne.mpr c16
     obtain rfl := Option.some.inj H
     go_wp2
     go_ret
     exact ⟨sq13, sq67⟩

/-! ### tontineref18_find: function 44 -/
def tontineref18_find.l0 : Nat → List (S59) → ByteArray → Int → Option (Int)
 | 0, _, _, _ => none
 | k + 1, x0, x1, x5 => if x5 ≥ 0 then (if 0 ≤ x5 then (if x5 < (x0.length : Int) then (if ((rd_T59 x0 x5).f0).toList = x1.toList then (some ((rd_T59 x0 x5).f1)) else (tontineref18_find.l0 k x0 x1 (wrap64 (x5 - 1)))) else (none)) else (none)) else (some 0)
def tontineref18_find.f (k : Nat) (l0 : List (S59)) (a1 : ByteArray) : Option (Int) := tontineref18_find.l0 k l0 a1 (wrap64 ((l0.length : Int) - 1))
theorem tontineref18_find.mono_l : ∀ k, (∀ y0 y1 y2, LeO (tontineref18_find.l0 k y0 y1 y2) (tontineref18_find.l0 (k + 1) y0 y1 y2))
 | 0 => fun _ _ _ r h => by simp [tontineref18_find.l0] at h
 | k + 1 => by
  have ih0 := tontineref18_find.mono_l k
  ·intro y0 y1 y2
   unfold tontineref18_find.l0
   exact sq95
theorem tontineref18_find.mono : ∀ a0 a1 k, LeO (tontineref18_find.f k a0 a1) (tontineref18_find.f (k + 1) a0 a1) := by
 intro a0 a1 k
 have ih0 := tontineref18_find.mono_l k
 unfold tontineref18_find.f
 exact sq95
set_option maxHeartbeats 8000000 in
set_option maxRecDepth 100000 in
theorem tontineref18_find.calls (k : Nat) (A0 : Option Addr) (c0 : Nat) (l0 : List (S59)) (a1 : ByteArray) (r : Int) (w : World) (hr0 : Kd.C k59 w A0 l0.length l0) (hc0 : l0.length ≤ c0) (h : tontineref18_find.f k l0 a1 = some r) :
  Calls Try.prog 44 #[.slice A0 l0.length c0, .string a1] w fun e w' => e = .returned (.int .i64 r) ∧ Drawn0 w w' := by
 have HR0 := Aside0.mk hr0
 have HC0 := Aside0.mk hc0
 clear hr0 hc0
 have H : (tontineref18_find.l0 k l0 a1 (wrap64 ((l0.length : Int) - 1))) = some r := h
 clear h
 have H' := Aside0.mk H
 clear H
 go_enter Try.func44, Try.ntmps44
 go_wp2
 go_loopg [5] k (fun kq v5 w' => ∃ (x5_1 : Int), v5 = .int .i64 x5_1 ∧ Aside0 (tontineref18_find.l0 kq l0 a1 x5_1 = some r) ∧ Aside0 (kq ≤ k) ∧ Drawn0 w w')
 case atStart => exact ⟨(wrap64 ((l0.length : Int) - 1)), sq6, H', ⟨Nat.le_refl _⟩, sq9⟩
 case round =>
  clear H'
  try clear p2
  obtain ⟨x5_1, rfl, HA, HK1, ⟨m1, rfl⟩⟩ := hrel
  cases gk with
  | zero => exact absurd HA.out (by simp [tontineref18_find.l0])
  | succ k1 =>
   have H := HA.out
   clear HA
   simp only [tontineref18_find.l0] at H
   by_cases c3 : x5_1 ≥ 0
   ·rw [if_pos c3] at H
    have c3b0 : decide (0 ≤ x5_1) = true := decide_eq_true c3; clear c3
    by_cases c4 : 0 ≤ x5_1
    ·rw [if_pos c4] at H
     have c4b0 : decide (0 ≤ x5_1) = true := decide_eq_true c4; clear c4
     by_cases c5 : x5_1 < (l0.length : Int)
     ·rw [if_pos c5] at H
      have c5b0 : decide (x5_1 < (l0.length : Int)) = true := decide_eq_true c5; clear c5
      by_cases c6 : ((rd_T59 l0 x5_1).f0).toList = a1.toList
      ·rw [if_pos c6] at H
       have c6b0 : (((rd_T59 l0 x5_1).f0).toList == a1.toList) = true := beq_iff_eq.mpr c6
       have c6b1 : (((rd_T59 l0 x5_1).f0).toList != a1.toList) = false := bne_eq_false_iff_eq.mpr c6
       clear c6
       obtain rfl := Option.some.inj H
       have p263 : 0 ≤ (x5_1 : Int) := of_decide_eq_true sq7
       have q263 : x5_1 < (l0.length : Int) := of_decide_eq_true sq7
       obtain ⟨ad263, e263, hx263_0, hx263_1⟩ := at_T59 HR0.out x5_1 p263 q263
       cases e263
       replace p263 := eq_true p263
       replace q263 := eq_true q263
       have p264 : 0 ≤ (x5_1 : Int) := of_decide_eq_true sq7
       have q264 : x5_1 < (l0.length : Int) := of_decide_eq_true sq7
       obtain ⟨ad264, e264, hx264_0, hx264_1⟩ := at_T59 HR0.out x5_1 p264 q264
       obtain rfl : ad263 = ad264 := (by injection e264)
       replace p264 := eq_true p264
       replace q264 := eq_true q264
       go_wp2
       go_ret
       exact ⟨sq6, sq9⟩
      rw [if_neg c6] at H
      have c6b0 : (((rd_T59 l0 x5_1).f0).toList == a1.toList) = false := beq_eq_false_iff_ne.mpr c6
      have c6b1 : (((rd_T59 l0 x5_1).f0).toList != a1.toList) = true := bne_iff_ne.mpr c6
      have H' := Aside0.mk H
      clear H
      have p263 : 0 ≤ (x5_1 : Int) := of_decide_eq_true sq7
      have q263 : x5_1 < (l0.length : Int) := of_decide_eq_true sq7
      obtain ⟨ad263, e263, hx263_0, hx263_1⟩ := at_T59 HR0.out x5_1 p263 q263
      cases e263
      replace p263 := eq_true p263
      replace q263 := eq_true q263
      go_wp2
      go_roundg k1
      case measure => have := HK1.out; omega
      case rel => exact ⟨(wrap64 (x5_1 - 1)), sq6, H', ⟨sq3⟩, sq9⟩
     rw [if_neg c5] at H
     exact absurd H (by simp)
    rw [if_neg c4] at H
    exact absurd H (by simp)
   rw [if_neg c3] at H
   have c3b0 : decide (0 ≤ x5_1) = false := decide_eq_false c3; clear c3
   obtain rfl := Option.some.inj H
   go_wp2
   go_ret
   exact ⟨sq6, sq9⟩

end Go.Proofs.Ytpfnnamicbbobaa.PAll
