-- Written by a program of this session (wip/tools/print2.sh): functions as plain Lean, and that the machine's calls do what they say.
import Derived.Test.YtpfnnamicbbobaaPAllx0
import Derived.Test.YtpfnnamicbbobaaPAllx1
import Derived.Test.YtpfnnamicbbobaaPAllx2
import Derived.Test.YtpfnnamicbbobaaPAllx3
import Derived.Test.YtpfnnamicbbobaaPAllx9
import Derived.Test.YtpfnnamicbbobaaPAllx14
import Derived.Test.YtpfnnamicbbobaaPAllx16
namespace Go.Proofs.Ytpfnnamicbbobaa.PAll
open Go.RowKit Go.Proofs.YtpfnnamicbbobaaW.PrintWords Go.Proofs.YtpfnnamicbbobaaW.PrintLast Go.Proofs.YtpfnnamicbbobaaW.PrintMore
attribute [local go_sem] max2_int min2_int max_two min_two max_three min_three max_four min_four   -- for this text's walks alone
set_option linter.unusedVariables false
set_option linter.unusedSimpArgs false

attribute [local go_sem high] eqA28 eqA56 eqA59
/-! ### tontineref18_Uses: function 17 -/
def tontineref18_Uses.l0 : Nat → List (S56) → List ByteArray → Int → Option (List ByteArray × Int)
 | 0, _, _, _ => none
 | k + 1, x0, x5, x6 => if x6 < (x0.length : Int) then (if 0 ≤ x6 then (if ((rd_T56 x0 x6).f0) = 5 then (if x6 ≤ (x0.length : Int) then ((tontineref18_uses.f k (x0.take (x6 : Int).toNat) ((rd_T56 x0 x6).f2)).bind fun t349 => (if t349 = true then (tontineref18_Uses.l0 k x0 x5 (wrap64 (x6 + 1))) else (if x5.length < 8796093022208 then (tontineref18_Uses.l0 k x0 (x5 ++ [(rd_T56 x0 x6).f2]) (wrap64 (x6 + 1))) else (none)))) else (none)) else (tontineref18_Uses.l0 k x0 x5 (wrap64 (x6 + 1)))) else (none)) else (some (x5, 0))
def tontineref18_Uses.f (k : Nat) (l0 : List (S56)) : Option (List ByteArray × Int) := (tontineref17_CheckFormula.f k l0).bind fun t342 => (if t342 = 0 then (tontineref18_Uses.l0 k l0 ([] : List ByteArray) 0) else (some (([] : List ByteArray), t342)))
theorem tontineref18_Uses.mono_l : ∀ k, (∀ y0 y1 y2, LeO (tontineref18_Uses.l0 k y0 y1 y2) (tontineref18_Uses.l0 (k + 1) y0 y1 y2))
 | 0 => fun _ _ _ r h => by simp [tontineref18_Uses.l0] at h
 | k + 1 => by
  have ih0 := tontineref18_Uses.mono_l k
  ·intro y0 y1 y2
   unfold tontineref18_Uses.l0
   exact sq137
theorem tontineref18_Uses.mono : ∀ a0 k, LeO (tontineref18_Uses.f k a0) (tontineref18_Uses.f (k + 1) a0) := by
 intro a0 k
 have ih0 := tontineref18_Uses.mono_l k
 unfold tontineref18_Uses.f
 exact sq137
set_option maxHeartbeats 8000000 in
set_option maxRecDepth 100000 in
theorem tontineref18_Uses.calls (k : Nat) (A0 : Option Addr) (c0 : Nat) (l0 : List (S56)) (r1 : List ByteArray) (r2 : Int) (w : World) (hr0 : Kd.C k56 w A0 l0.length l0) (hc0 : l0.length ≤ c0) (h : tontineref18_Uses.f k l0 = some (r1, r2)) :
  Calls Try.prog 17 #[.slice A0 l0.length c0] w fun e w' => ∃ v0_ : Value, e = .returned (.tuple #[v0_, .int .i64 r2]) ∧ Kd.R Kd.string 9 w' w.heap.size (fun _ => True) v0_ r1 ∧ Below w.heap.size w w' := by
 have HR0 := Aside0.mk hr0
 have HC0 := Aside0.mk hc0
 clear hr0 hc0
 have HB := Aside0.mk (Below.refl w.heap.size w)
 have H : ((tontineref17_CheckFormula.f k l0).bind fun t342 => (if t342 = 0 then (tontineref18_Uses.l0 k l0 ([] : List ByteArray) 0) else (some (([] : List ByteArray), t342)))) = some (r1, r2) := h
 clear h
 replace H := Option.bind_eq_some_iff.mp H
 obtain ⟨t342, A20, H⟩ := H
 replace H : (if t342 = 0 then (tontineref18_Uses.l0 k l0 ([] : List ByteArray) 0) else (some (([] : List ByteArray), t342))) = some (r1, r2) := H
 have A2 := Aside0.mk A20
 clear A20
 by_cases c3 : t342 = 0
 ·rw [if_pos c3] at H
  have c3b0 : (t342 == 0) = true := beq_iff_eq.mpr c3
  have c3b1 : (t342 != 0) = false := bne_eq_false_iff_eq.mpr c3
  clear c3
  have H' := Aside0.mk H
  clear H
  go_enter Try.func17, Try.ntmps17
  go_wp2_with (first | (go_at_call 33; (with_reducible refine (tontineref17_CheckFormula.calls k _ _ l0 t342 _ ?side1 ?side2 A2.out).mono ?_); (case side1 => repeat (first | exact HR0.out | (with_reducible refine Kd.C_alloc ?_ _) | (with_reducible refine Kd.C_drewN ?_ _) | (with_reducible refine Kd.C_drew ?_))); (case side2 => exact HC0.out); rintro e w4 ⟨rfl, hb⟩; have n0_ := Aside0.mk (below_step sq49 hb); clear HB; have HB := n0_; clear n0_; (try clear hb); (try clear hb2); (try clear hk); (try clear hi)))
  repeat (go_quiet (first | (go_at_call 33; (with_reducible refine (tontineref17_CheckFormula.calls k _ _ l0 t342 _ ?side1 ?side2 A2.out).mono ?_); (case side1 => repeat (first | exact HR0.out | (with_reducible refine Kd.C_alloc ?_ _) | (with_reducible refine Kd.C_drewN ?_ _) | (with_reducible refine Kd.C_drew ?_))); (case side2 => exact HC0.out); rintro e w4 ⟨rfl, hb⟩; have n0_ := Aside0.mk (below_step sq49 hb); clear HB; have HB := n0_; clear n0_; (try clear hb); (try clear hb2); (try clear hk); (try clear hi))); try go_wp2_with (first | (go_at_call 33; (with_reducible refine (tontineref17_CheckFormula.calls k _ _ l0 t342 _ ?side1 ?side2 A2.out).mono ?_); (case side1 => repeat (first | exact HR0.out | (with_reducible refine Kd.C_alloc ?_ _) | (with_reducible refine Kd.C_drewN ?_ _) | (with_reducible refine Kd.C_drew ?_))); (case side2 => exact HC0.out); rintro e w4 ⟨rfl, hb⟩; have n0_ := Aside0.mk (below_step sq49 hb); clear HB; have HB := n0_; clear n0_; (try clear hb); (try clear hb2); (try clear hk); (try clear hi))))
  go_loopg [5, 6] k (fun kq v5 v6 w' => ∃ (x5_1 : List ByteArray) (x6_1 : Int), v6 = .int .i64 x6_1 ∧ Aside0 (tontineref18_Uses.l0 kq l0 x5_1 x6_1 = some (r1, r2)) ∧ Aside0 (kq ≤ k) ∧ Aside0 (Kd.R Kd.string 9 w' w.heap.size (fun _ => True) v5 x5_1) ∧ Aside0 (Below w.heap.size w w'))
  case atStart => exact ⟨(([] : List ByteArray)), (0), sq6, H', ⟨Nat.le_refl _⟩, ⟨sq51⟩, ⟨sq49⟩⟩
  case round =>
   clear H'
   try clear c1; try clear p2; try clear c3; try clear c3b0; try clear c3b1
   obtain ⟨x5_1, x6_1, rfl, HA, HK1, HO_5, HB⟩ := hrel
   cases gk with
   | zero => exact absurd HA.out (by simp [tontineref18_Uses.l0])
   | succ k1 =>
    have H := HA.out
    clear HA
    simp only [tontineref18_Uses.l0] at H
    by_cases c5 : x6_1 < (l0.length : Int)
    ·rw [if_pos c5] at H
     have c5b0 : decide (x6_1 < (l0.length : Int)) = true := decide_eq_true c5; clear c5
     by_cases c6 : 0 ≤ x6_1
     ·rw [if_pos c6] at H
      have c6b0 : decide (0 ≤ x6_1) = true := decide_eq_true c6; clear c6
      by_cases c7 : ((rd_T56 l0 x6_1).f0) = 5
      ·rw [if_pos c7] at H
       have c7b0 : (((rd_T56 l0 x6_1).f0) == 5) = true := beq_iff_eq.mpr c7
       have c7b1 : (((rd_T56 l0 x6_1).f0) != 5) = false := bne_eq_false_iff_eq.mpr c7
       clear c7
       have c8b0 := eq_true (of_decide_eq_true sq7 : 0 ≤ x6_1)
       by_cases c9 : x6_1 ≤ (l0.length : Int)
       ·rw [if_pos c9] at H
        have c9b0 := eq_true c9
        have c9b1 : decide (x6_1 ≤ (l0.length : Int)) = true := decide_eq_true c9
        clear c9
        obtain ⟨y344, hy344⟩ : ∃ y_ : List (S56), y_ = (l0.take (x6_1 : Int).toNat) := ⟨_, rfl⟩
        replace H : ((tontineref18_uses.f k1 y344 ((rd_T56 l0 x6_1).f2)).bind fun t349 => (if t349 = true then (tontineref18_Uses.l0 k1 l0 x5_1 (wrap64 (x6_1 + 1))) else (if x5_1.length < 8796093022208 then (tontineref18_Uses.l0 k1 l0 (x5_1 ++ [(rd_T56 l0 x6_1).f2]) (wrap64 (x6_1 + 1))) else (none)))) = some (r1, r2) := by first | (rw [hy344]; with_reducible exact H) | (have H2_ := (Option.bind_some _ _).symm.trans H; rw [hy344]; with_reducible exact H2_) | (have H2_ := (Option.bind_some _ _).symm.trans H; with_reducible exact H2_) | with_reducible exact H | (rw [hy344]; exact H) | exact H
        have Ny344 := Aside0.mk hy344
        clear hy344
        replace H := Option.bind_eq_some_iff.mp H
        obtain ⟨t349, A100, H⟩ := H
        replace H : (if t349 = true then (tontineref18_Uses.l0 k1 l0 x5_1 (wrap64 (x6_1 + 1))) else (if x5_1.length < 8796093022208 then (tontineref18_Uses.l0 k1 l0 (x5_1 ++ [(rd_T56 l0 x6_1).f2]) (wrap64 (x6_1 + 1))) else (none))) = some (r1, r2) := H
        have A10 := Aside0.mk A100
        clear A100
        by_cases c11 : t349 = true
        ·subst c11
         replace H := (itT_ _ _).symm.trans H
         have H' := Aside0.mk H
         clear H
         have p343 : 0 ≤ (x6_1 : Int) := of_decide_eq_true sq7
         have q343 : x6_1 < (l0.length : Int) := of_decide_eq_true sq7
         obtain ⟨ad343, e343, hx343_0, hx343_1, hx343_2⟩ := at_T56 HR0.out x6_1 p343 q343
         cases e343
         try replace hx343_0 := (HB.out.cell (World.block_lt_of_cell? w _ hx343_0)).trans hx343_0
         try replace hx343_1 := (HB.out.cell (World.block_lt_of_cell? w _ hx343_1)).trans hx343_1
         try replace hx343_2 := (HB.out.cell (World.block_lt_of_cell? w _ hx343_2)).trans hx343_2
         replace p343 := eq_true p343
         replace q343 := eq_true q343
         have q12 : (x6_1 : Int) ≤ ((l0.length : Int) : Int) := of_decide_eq_true sq7
         obtain ⟨i012, hi012, _, hsz12, _⟩ := info_parts info56
         have hroom12 : l0.length ≤ c0 := HC0.out
         have hC12 : Kd.C k56 _ (some ad343) l0.length l0 := HR0.out
         have hcut12 := cut_to (P := Try.prog) 23 56 .i64 Try.underlying23 hi012 (some ad343) l0.length c0 x6_1 (of_decide_eq_true sq7) q12 hroom12
         have hr12 := Kd.C_take (m := (x6_1 : Int).toNat) hC12 sq0
         have hy12 : y344.length = (x6_1 : Int).toNat := (by rw [Ny344.out, List.length_take]; omega)
         rw [← Ny344.out] at hr12
         rw [← hy12] at hcut12
         have HR347 := Aside0.mk hr12
         have HC347 := Aside0.mk (show y344.length ≤ c0 from by omega)
         clear hr12 hC12 hroom12 hi012 hsz12
         have KY12 := Aside0.mk hy12
         clear hy12
         replace q12 := eq_true q12
         have p348 : 0 ≤ (x6_1 : Int) := of_decide_eq_true sq7
         have q348 : x6_1 < (l0.length : Int) := of_decide_eq_true sq7
         obtain ⟨ad348, e348, hx348_0, hx348_1, hx348_2⟩ := at_T56 HR0.out x6_1 p348 q348
         obtain rfl : ad343 = ad348 := (by injection e348)
         try replace hx348_0 := (HB.out.cell (World.block_lt_of_cell? w _ hx348_0)).trans hx348_0
         try replace hx348_1 := (HB.out.cell (World.block_lt_of_cell? w _ hx348_1)).trans hx348_1
         try replace hx348_2 := (HB.out.cell (World.block_lt_of_cell? w _ hx348_2)).trans hx348_2
         replace p348 := eq_true p348
         replace q348 := eq_true q348
         go_wp2_with (first | (go_at_call 34; (with_reducible refine (tontineref18_uses.calls k1 _ _ y344 ((rd_T56 l0 x6_1).f2) true _ ?side1 ?side2 A10.out).mono ?_); (case side1 => repeat (first | exact (Kd.C_below HR347.out HB.out) | (with_reducible refine Kd.C_alloc ?_ _) | (with_reducible refine Kd.C_drewN ?_ _) | (with_reducible refine Kd.C_drew ?_))); (case side2 => exact HC347.out); rintro e w' ⟨rfl, ⟨nd, rfl⟩⟩; (try first | exact ⟨rfl, _, World.drewN_drewN _ _ _⟩ | exact ⟨rfl, _, Eq.trans (World.drewN_drewN _ _ _) (congrArg (World.drewN _) (Nat.add_assoc _ _ _))⟩)))
         repeat (go_quiet (first | (go_at_call 34; (with_reducible refine (tontineref18_uses.calls k1 _ _ y344 ((rd_T56 l0 x6_1).f2) true _ ?side1 ?side2 A10.out).mono ?_); (case side1 => repeat (first | exact (Kd.C_below HR347.out HB.out) | (with_reducible refine Kd.C_alloc ?_ _) | (with_reducible refine Kd.C_drewN ?_ _) | (with_reducible refine Kd.C_drew ?_))); (case side2 => exact HC347.out); rintro e w' ⟨rfl, ⟨nd, rfl⟩⟩; (try first | exact ⟨rfl, _, World.drewN_drewN _ _ _⟩ | exact ⟨rfl, _, Eq.trans (World.drewN_drewN _ _ _) (congrArg (World.drewN _) (Nat.add_assoc _ _ _))⟩))); try go_wp2_with (first | (go_at_call 34; (with_reducible refine (tontineref18_uses.calls k1 _ _ y344 ((rd_T56 l0 x6_1).f2) true _ ?side1 ?side2 A10.out).mono ?_); (case side1 => repeat (first | exact (Kd.C_below HR347.out HB.out) | (with_reducible refine Kd.C_alloc ?_ _) | (with_reducible refine Kd.C_drewN ?_ _) | (with_reducible refine Kd.C_drew ?_))); (case side2 => exact HC347.out); rintro e w' ⟨rfl, ⟨nd, rfl⟩⟩; (try first | exact ⟨rfl, _, World.drewN_drewN _ _ _⟩ | exact ⟨rfl, _, Eq.trans (World.drewN_drewN _ _ _) (congrArg (World.drewN _) (Nat.add_assoc _ _ _))⟩))))
         go_roundg k1
         case measure => have := HK1.out; omega
         case rel => exact ⟨(x5_1), (wrap64 (x6_1 + 1)), sq6, H', ⟨sq3⟩, ⟨sq18⟩, ⟨sq49⟩⟩
        replace c11 := Bool.eq_false_iff.mpr c11
        subst c11
        replace H := (itF_ _ _).symm.trans H
        by_cases c13 : x5_1.length < 8796093022208
        ·rw [if_pos c13] at H
         have LMc13 := Aside0.mk c13
         clear c13
         obtain ⟨y351, hy351⟩ : ∃ y_ : List ByteArray, y_ = (x5_1 ++ [(rd_T56 l0 x6_1).f2]) := ⟨_, rfl⟩
         replace H : (tontineref18_Uses.l0 k1 l0 y351 (wrap64 (x6_1 + 1))) = some (r1, r2) := by first | (rw [hy351]; with_reducible exact H) | (have H2_ := (Option.bind_some _ _).symm.trans H; rw [hy351]; with_reducible exact H2_) | (have H2_ := (Option.bind_some _ _).symm.trans H; with_reducible exact H2_) | with_reducible exact H | (rw [hy351]; exact H) | exact H
         have Ny351 := Aside0.mk hy351
         clear hy351
         have H' := Aside0.mk H
         clear H
         have p343 : 0 ≤ (x6_1 : Int) := of_decide_eq_true sq7
         have q343 : x6_1 < (l0.length : Int) := of_decide_eq_true sq7
         obtain ⟨ad343, e343, hx343_0, hx343_1, hx343_2⟩ := at_T56 HR0.out x6_1 p343 q343
         cases e343
         try replace hx343_0 := (HB.out.cell (World.block_lt_of_cell? w _ hx343_0)).trans hx343_0
         try replace hx343_1 := (HB.out.cell (World.block_lt_of_cell? w _ hx343_1)).trans hx343_1
         try replace hx343_2 := (HB.out.cell (World.block_lt_of_cell? w _ hx343_2)).trans hx343_2
         replace p343 := eq_true p343
         replace q343 := eq_true q343
         have q14 : (x6_1 : Int) ≤ ((l0.length : Int) : Int) := of_decide_eq_true sq7
         obtain ⟨i014, hi014, _, hsz14, _⟩ := info_parts info56
         have hroom14 : l0.length ≤ c0 := HC0.out
         have hC14 : Kd.C k56 _ (some ad343) l0.length l0 := HR0.out
         have hcut14 := cut_to (P := Try.prog) 23 56 .i64 Try.underlying23 hi014 (some ad343) l0.length c0 x6_1 (of_decide_eq_true sq7) q14 hroom14
         have hr14 := Kd.C_take (m := (x6_1 : Int).toNat) hC14 sq0
         have hy14 : y344.length = (x6_1 : Int).toNat := (by rw [Ny344.out, List.length_take]; omega)
         rw [← Ny344.out] at hr14
         rw [← hy14] at hcut14
         have HR347 := Aside0.mk hr14
         have HC347 := Aside0.mk (show y344.length ≤ c0 from by omega)
         clear hr14 hC14 hroom14 hi014 hsz14
         have KY14 := Aside0.mk hy14
         clear hy14
         replace q14 := eq_true q14
         have p348 : 0 ≤ (x6_1 : Int) := of_decide_eq_true sq7
         have q348 : x6_1 < (l0.length : Int) := of_decide_eq_true sq7
         obtain ⟨ad348, e348, hx348_0, hx348_1, hx348_2⟩ := at_T56 HR0.out x6_1 p348 q348
         obtain rfl : ad343 = ad348 := (by injection e348)
         try replace hx348_0 := (HB.out.cell (World.block_lt_of_cell? w _ hx348_0)).trans hx348_0
         try replace hx348_1 := (HB.out.cell (World.block_lt_of_cell? w _ hx348_1)).trans hx348_1
         try replace hx348_2 := (HB.out.cell (World.block_lt_of_cell? w _ hx348_2)).trans hx348_2
         replace p348 := eq_true p348
         replace q348 := eq_true q348
         go_wp2_with (first | (go_at_call 34; (with_reducible refine (tontineref18_uses.calls k1 _ _ y344 ((rd_T56 l0 x6_1).f2) false _ ?side1 ?side2 A10.out).mono ?_); (case side1 => repeat (first | exact (Kd.C_below HR347.out HB.out) | (with_reducible refine Kd.C_alloc ?_ _) | (with_reducible refine Kd.C_drewN ?_ _) | (with_reducible refine Kd.C_drew ?_))); (case side2 => exact HC347.out); rintro e w' ⟨rfl, ⟨nd, rfl⟩⟩; (try first | exact ⟨rfl, _, World.drewN_drewN _ _ _⟩ | exact ⟨rfl, _, Eq.trans (World.drewN_drewN _ _ _) (congrArg (World.drewN _) (Nat.add_assoc _ _ _))⟩); have p350 : 0 ≤ (x6_1 : Int) := of_decide_eq_true sq7; have q350 : x6_1 < (l0.length : Int) := of_decide_eq_true sq7; obtain ⟨ad350, e350, hx350_0, hx350_1, hx350_2⟩ := at_T56 HR0.out x6_1 p350 q350; obtain rfl : ad343 = ad350 := (by injection e350); replace hx350_0 := (HB.out.cell (World.block_lt_of_cell? w _ hx350_0)).trans hx350_0; replace hx350_1 := (HB.out.cell (World.block_lt_of_cell? w _ hx350_1)).trans hx350_1; replace hx350_2 := (HB.out.cell (World.block_lt_of_cell? w _ hx350_2)).trans hx350_2; replace p350 := eq_true p350; replace q350 := eq_true q350) | ((with_reducible refine gate_builtin (b := .append) (xs := #[.tmp 36, .tmp 42]) rfl ?_); at_builtin; refine Kd.R_append Kd.string (w0 := w) w.heap.size rfl (.tmp 36) (.tmp 42) 42 9 (.string ⟨#[]⟩) 16 rfl Try.underlying42 info9 rfl sq1 sq0 u5 x5_1 ((rd_T56 l0 x6_1).f2) [.string ((rd_T56 l0 x6_1).f2)] (fun _ => True) (fun _ => False) rfl rfl ?aP (fun _ hk => hk.elim) ?aF ?aO ?aB ?aS ?aL ?_; (case aP => exact rfl); (case aB => exact sq49); (case aF => exact (fun _ _ => trivial)); (case aO => exact sq18); (case aS => exact (below_size sq49)); (case aL => have := LMc13.out; omega); intro v352 w15 ho hb hg hat; rw [← Ny351.out] at ho; have n0_ := Aside0.mk (hb); have n1_ := Aside0.mk (ho); clear HB; clear HO_5; have HB := n0_; have HO353 := n1_; clear n0_ n1_; clear ho hb hg hat))
         repeat (go_quiet (first | (go_at_call 34; (with_reducible refine (tontineref18_uses.calls k1 _ _ y344 ((rd_T56 l0 x6_1).f2) false _ ?side1 ?side2 A10.out).mono ?_); (case side1 => repeat (first | exact (Kd.C_below HR347.out HB.out) | (with_reducible refine Kd.C_alloc ?_ _) | (with_reducible refine Kd.C_drewN ?_ _) | (with_reducible refine Kd.C_drew ?_))); (case side2 => exact HC347.out); rintro e w' ⟨rfl, ⟨nd, rfl⟩⟩; (try first | exact ⟨rfl, _, World.drewN_drewN _ _ _⟩ | exact ⟨rfl, _, Eq.trans (World.drewN_drewN _ _ _) (congrArg (World.drewN _) (Nat.add_assoc _ _ _))⟩); have p350 : 0 ≤ (x6_1 : Int) := of_decide_eq_true sq7; have q350 : x6_1 < (l0.length : Int) := of_decide_eq_true sq7; obtain ⟨ad350, e350, hx350_0, hx350_1, hx350_2⟩ := at_T56 HR0.out x6_1 p350 q350; obtain rfl : ad343 = ad350 := (by injection e350); replace hx350_0 := (HB.out.cell (World.block_lt_of_cell? w _ hx350_0)).trans hx350_0; replace hx350_1 := (HB.out.cell (World.block_lt_of_cell? w _ hx350_1)).trans hx350_1; replace hx350_2 := (HB.out.cell (World.block_lt_of_cell? w _ hx350_2)).trans hx350_2; replace p350 := eq_true p350; replace q350 := eq_true q350) | ((with_reducible refine gate_builtin (b := .append) (xs := #[.tmp 36, .tmp 42]) rfl ?_); at_builtin; refine Kd.R_append Kd.string (w0 := w) w.heap.size rfl (.tmp 36) (.tmp 42) 42 9 (.string ⟨#[]⟩) 16 rfl Try.underlying42 info9 rfl sq1 sq0 u5 x5_1 ((rd_T56 l0 x6_1).f2) [.string ((rd_T56 l0 x6_1).f2)] (fun _ => True) (fun _ => False) rfl rfl ?aP (fun _ hk => hk.elim) ?aF ?aO ?aB ?aS ?aL ?_; (case aP => exact rfl); (case aB => exact sq49); (case aF => exact (fun _ _ => trivial)); (case aO => exact sq18); (case aS => exact (below_size sq49)); (case aL => have := LMc13.out; omega); intro v352 w15 ho hb hg hat; rw [← Ny351.out] at ho; have n0_ := Aside0.mk (hb); have n1_ := Aside0.mk (ho); clear HB; clear HO_5; have HB := n0_; have HO353 := n1_; clear n0_ n1_; clear ho hb hg hat)); try go_wp2_with (first | (go_at_call 34; (with_reducible refine (tontineref18_uses.calls k1 _ _ y344 ((rd_T56 l0 x6_1).f2) false _ ?side1 ?side2 A10.out).mono ?_); (case side1 => repeat (first | exact (Kd.C_below HR347.out HB.out) | (with_reducible refine Kd.C_alloc ?_ _) | (with_reducible refine Kd.C_drewN ?_ _) | (with_reducible refine Kd.C_drew ?_))); (case side2 => exact HC347.out); rintro e w' ⟨rfl, ⟨nd, rfl⟩⟩; (try first | exact ⟨rfl, _, World.drewN_drewN _ _ _⟩ | exact ⟨rfl, _, Eq.trans (World.drewN_drewN _ _ _) (congrArg (World.drewN _) (Nat.add_assoc _ _ _))⟩); have p350 : 0 ≤ (x6_1 : Int) := of_decide_eq_true sq7; have q350 : x6_1 < (l0.length : Int) := of_decide_eq_true sq7; obtain ⟨ad350, e350, hx350_0, hx350_1, hx350_2⟩ := at_T56 HR0.out x6_1 p350 q350; obtain rfl : ad343 = ad350 := (by injection e350); replace hx350_0 := (HB.out.cell (World.block_lt_of_cell? w _ hx350_0)).trans hx350_0; replace hx350_1 := (HB.out.cell (World.block_lt_of_cell? w _ hx350_1)).trans hx350_1; replace hx350_2 := (HB.out.cell (World.block_lt_of_cell? w _ hx350_2)).trans hx350_2; replace p350 := eq_true p350; replace q350 := eq_true q350) | ((with_reducible refine gate_builtin (b := .append) (xs := #[.tmp 36, .tmp 42]) rfl ?_); at_builtin; refine Kd.R_append Kd.string (w0 := w) w.heap.size rfl (.tmp 36) (.tmp 42) 42 9 (.string ⟨#[]⟩) 16 rfl Try.underlying42 info9 rfl sq1 sq0 u5 x5_1 ((rd_T56 l0 x6_1).f2) [.string ((rd_T56 l0 x6_1).f2)] (fun _ => True) (fun _ => False) rfl rfl ?aP (fun _ hk => hk.elim) ?aF ?aO ?aB ?aS ?aL ?_; (case aP => exact rfl); (case aB => exact sq49); (case aF => exact (fun _ _ => trivial)); (case aO => exact sq18); (case aS => exact (below_size sq49)); (case aL => have := LMc13.out; omega); intro v352 w15 ho hb hg hat; rw [← Ny351.out] at ho; have n0_ := Aside0.mk (hb); have n1_ := Aside0.mk (ho); clear HB; clear HO_5; have HB := n0_; have HO353 := n1_; clear n0_ n1_; clear ho hb hg hat)))
         go_roundg k1
         case measure => have := HK1.out; omega
         case rel => exact ⟨(y351), (wrap64 (x6_1 + 1)), sq6, H', ⟨sq3⟩, ⟨by (with_reducible repeat (first | apply Kd.R_alloc | apply Kd.R_drewN | apply Kd.R_drew)); exact HO353.out⟩, ⟨sq49⟩⟩
        rw [if_neg c13] at H
        exact absurd H (by simp)
       rw [if_neg c9] at H
       exact absurd H (by simp)
      rw [if_neg c7] at H
      have c7b0 : (((rd_T56 l0 x6_1).f0) == 5) = false := beq_eq_false_iff_ne.mpr c7
      have c7b1 : (((rd_T56 l0 x6_1).f0) != 5) = true := bne_iff_ne.mpr c7
      have H' := Aside0.mk H
      clear H
      have p343 : 0 ≤ (x6_1 : Int) := of_decide_eq_true sq7
      have q343 : x6_1 < (l0.length : Int) := of_decide_eq_true sq7
      obtain ⟨ad343, e343, hx343_0, hx343_1, hx343_2⟩ := at_T56 HR0.out x6_1 p343 q343
      cases e343
      try replace hx343_0 := (HB.out.cell (World.block_lt_of_cell? w _ hx343_0)).trans hx343_0
      try replace hx343_1 := (HB.out.cell (World.block_lt_of_cell? w _ hx343_1)).trans hx343_1
      try replace hx343_2 := (HB.out.cell (World.block_lt_of_cell? w _ hx343_2)).trans hx343_2
      replace p343 := eq_true p343
      replace q343 := eq_true q343
      go_wp2
      repeat (go_quiet (fail); try go_wp2)
      go_roundg k1
      case measure => have := HK1.out; omega
      case rel => exact ⟨(x5_1), (wrap64 (x6_1 + 1)), sq6, H', ⟨sq3⟩, ⟨sq18⟩, ⟨sq49⟩⟩
     rw [if_neg c6] at H
     exact absurd H (by simp)
    rw [if_neg c5] at H
    have c5b0 : decide (x6_1 < (l0.length : Int)) = false := decide_eq_false c5; clear c5
    simp only [Option.some.injEq, Prod.mk.injEq] at H
    obtain ⟨rfl, rfl⟩ := H
    go_wp2
    repeat (go_quiet (fail); try go_wp2)
    go_ret2
    exact ⟨_, sq13, sq18, sq49⟩
 rw [if_neg c3] at H
 have c3b0 : (t342 == 0) = false := beq_eq_false_iff_ne.mpr c3
 have c3b1 : (t342 != 0) = true := bne_iff_ne.mpr c3
 simp only [Option.some.injEq, Prod.mk.injEq] at H
 obtain ⟨rfl, rfl⟩ := H
 go_enter Try.func17, Try.ntmps17
 go_wp2_with (first | (go_at_call 33; (with_reducible refine (tontineref17_CheckFormula.calls k _ _ l0 t342 _ ?side1 ?side2 A2.out).mono ?_); (case side1 => repeat (first | exact HR0.out | (with_reducible refine Kd.C_alloc ?_ _) | (with_reducible refine Kd.C_drewN ?_ _) | (with_reducible refine Kd.C_drew ?_))); (case side2 => exact HC0.out); rintro e w16 ⟨rfl, hb⟩; have n0_ := Aside0.mk (below_step sq49 hb); clear HB; have HB := n0_; clear n0_; (try clear hb); (try clear hb2); (try clear hk); (try clear hi)))
 repeat (go_quiet (first | (go_at_call 33; (with_reducible refine (tontineref17_CheckFormula.calls k _ _ l0 t342 _ ?side1 ?side2 A2.out).mono ?_); (case side1 => repeat (first | exact HR0.out | (with_reducible refine Kd.C_alloc ?_ _) | (with_reducible refine Kd.C_drewN ?_ _) | (with_reducible refine Kd.C_drew ?_))); (case side2 => exact HC0.out); rintro e w16 ⟨rfl, hb⟩; have n0_ := Aside0.mk (below_step sq49 hb); clear HB; have HB := n0_; clear n0_; (try clear hb); (try clear hb2); (try clear hk); (try clear hi))); try go_wp2_with (first | (go_at_call 33; (with_reducible refine (tontineref17_CheckFormula.calls k _ _ l0 t342 _ ?side1 ?side2 A2.out).mono ?_); (case side1 => repeat (first | exact HR0.out | (with_reducible refine Kd.C_alloc ?_ _) | (with_reducible refine Kd.C_drewN ?_ _) | (with_reducible refine Kd.C_drew ?_))); (case side2 => exact HC0.out); rintro e w16 ⟨rfl, hb⟩; have n0_ := Aside0.mk (below_step sq49 hb); clear HB; have HB := n0_; clear n0_; (try clear hb); (try clear hb2); (try clear hk); (try clear hi))))
 go_ret2
 exact ⟨_, sq13, sq51, sq49⟩

/-! ### tontinelaw18_same: function 18 -/
def tontinelaw18_same.l0 : Nat → List (S56) → List (S56) → Int → Int → Option (Bool)
 | 0, _, _, _, _ => none
 | k + 1, x0, x1, x12, x13 => if x13 < x12 then (if 0 ≤ x13 then (if x13 < (x0.length : Int) then (if x13 < (x1.length : Int) then (if (!(((rd_T56 x0 x13).f0) == ((rd_T56 x1 x13).f0)) || (!(((rd_T56 x0 x13).f1) == ((rd_T56 x1 x13).f1)) || (!((((rd_T56 x0 x13).f2).toList) == (((rd_T56 x1 x13).f2).toList))))) = true then (some false) else (tontinelaw18_same.l0 k x0 x1 x12 (wrap64 (x13 + 1)))) else (none)) else (none)) else (none)) else (some true)
def tontinelaw18_same.f (k : Nat) (l0 : List (S56)) (l1 : List (S56)) : Option (Bool) := if (l0.length : Int) = (l1.length : Int) then (tontinelaw18_same.l0 k l0 l1 (l0.length : Int) 0) else (some false)
theorem tontinelaw18_same.mono_l : ∀ k, (∀ y0 y1 y2 y3, LeO (tontinelaw18_same.l0 k y0 y1 y2 y3) (tontinelaw18_same.l0 (k + 1) y0 y1 y2 y3))
 | 0 => fun _ _ _ _ r h => by simp [tontinelaw18_same.l0] at h
 | k + 1 => by
  have ih0 := tontinelaw18_same.mono_l k
  ·intro y0 y1 y2 y3
   unfold tontinelaw18_same.l0
   exact sq96
theorem tontinelaw18_same.mono : ∀ a0 a1 k, LeO (tontinelaw18_same.f k a0 a1) (tontinelaw18_same.f (k + 1) a0 a1) := by
 intro a0 a1 k
 have ih0 := tontinelaw18_same.mono_l k
 unfold tontinelaw18_same.f
 exact sq96
set_option maxHeartbeats 8000000 in
set_option maxRecDepth 100000 in
theorem tontinelaw18_same.calls (k : Nat) (A0 : Option Addr) (c0 : Nat) (l0 : List (S56)) (A1 : Option Addr) (c1 : Nat) (l1 : List (S56)) (r : Bool) (w : World) (hr0 : Kd.C k56 w A0 l0.length l0) (hc0 : l0.length ≤ c0) (hr1 : Kd.C k56 w A1 l1.length l1) (hc1 : l1.length ≤ c1) (h : tontinelaw18_same.f k l0 l1 = some r) :
  Calls Try.prog 18 #[.slice A0 l0.length c0, .slice A1 l1.length c1] w fun e w' => e = .returned (.bool r) ∧ Drawn0 w w' := by
 have hu56 := Try.underlying56
 have HR0 := Aside0.mk hr0
 have HC0 := Aside0.mk hc0
 clear hr0 hc0
 have HR1 := Aside0.mk hr1
 have HC1 := Aside0.mk hc1
 clear hr1 hc1
 have H : (if (l0.length : Int) = (l1.length : Int) then (tontinelaw18_same.l0 k l0 l1 (l0.length : Int) 0) else (some false)) = some r := h
 clear h
 by_cases c3 : (l0.length : Int) = (l1.length : Int)
 ·rw [if_pos c3] at H
  have c3b0 : ((l0.length : Int) == (l1.length : Int)) = true := beq_iff_eq.mpr c3
  have c3b1 : ((l0.length : Int) != (l1.length : Int)) = false := bne_eq_false_iff_eq.mpr c3
  have c3b2 : (l0.length == l1.length) = true := by first | simpa using c3 | (simp at c3 ⊢; omega)
  clear c3
  have H' := Aside0.mk H
  clear H
  go_enter Try.func18, Try.ntmps18
  go_wp2
  repeat (go_quiet (fail); try go_wp2)
  go_loopg [13] k (fun kq v13 w' => ∃ (x13_1 : Int), v13 = .int .i64 x13_1 ∧ Aside0 (tontinelaw18_same.l0 kq l0 l1 (l0.length : Int) x13_1 = some r) ∧ Aside0 (kq ≤ k) ∧ Drawn0 w w')
  case atStart => exact ⟨(0), sq6, H', ⟨Nat.le_refl _⟩, sq9⟩
  case round =>
   clear H'
   try clear c1; try clear p2; try clear c3; try clear c3b0; try clear c3b1; try clear c3b2
   obtain ⟨x13_1, rfl, HA, HK1, ⟨m1, rfl⟩⟩ := hrel
   cases gk with
   | zero => exact absurd HA.out (by simp [tontinelaw18_same.l0])
   | succ k1 =>
    have H := HA.out
    clear HA
    simp only [tontinelaw18_same.l0] at H
    by_cases c4 : x13_1 < (l0.length : Int)
    ·rw [if_pos c4] at H
     have c4b0 : decide (x13_1 < (l0.length : Int)) = true := decide_eq_true c4; clear c4
     by_cases c5 : 0 ≤ x13_1
     ·rw [if_pos c5] at H
      have c5b0 : decide (0 ≤ x13_1) = true := decide_eq_true c5; clear c5
      by_cases c6 : x13_1 < (l0.length : Int)
      ·rw [if_pos c6] at H
       have c6b0 : decide (x13_1 < (l0.length : Int)) = true := decide_eq_true c6; clear c6
       by_cases c7 : x13_1 < (l1.length : Int)
       ·rw [if_pos c7] at H
        have c7b0 : decide (x13_1 < (l1.length : Int)) = true := decide_eq_true c7; clear c7
        by_cases c8 : (!(((rd_T56 l0 x13_1).f0) == ((rd_T56 l1 x13_1).f0)) || (!(((rd_T56 l0 x13_1).f1) == ((rd_T56 l1 x13_1).f1)) || (!((((rd_T56 l0 x13_1).f2).toList) == (((rd_T56 l1 x13_1).f2).toList))))) = true
        ·rw [if_pos c8] at H
         have c8b0 : (!(((rd_T56 l0 x13_1).f0) == ((rd_T56 l1 x13_1).f0)) || (!(((rd_T56 l0 x13_1).f1) == ((rd_T56 l1 x13_1).f1)) || (!((((rd_T56 l0 x13_1).f2).toList) == (((rd_T56 l1 x13_1).f2).toList))))) = true := c8
         clear c8
         obtain rfl := Option.some.inj H
         have p354 : 0 ≤ (x13_1 : Int) := of_decide_eq_true sq7
         have q354 : x13_1 < (l0.length : Int) := of_decide_eq_true sq7
         obtain ⟨ad354, e354, hx354_0, hx354_1, hx354_2⟩ := at_T56 HR0.out x13_1 p354 q354
         cases e354
         replace p354 := eq_true p354
         replace q354 := eq_true q354
         have p355 : 0 ≤ (x13_1 : Int) := of_decide_eq_true sq7
         have q355 : x13_1 < (l1.length : Int) := of_decide_eq_true sq7
         obtain ⟨ad355, e355, hx355_0, hx355_1, hx355_2⟩ := at_T56 HR1.out x13_1 p355 q355
         cases e355
         replace p355 := eq_true p355
         replace q355 := eq_true q355
         go_wp2
         repeat (go_quiet (fail); try go_wp2)
         go_ret
         exact ⟨sq6, sq9⟩
        rw [if_neg c8] at H
        have c8b0 : (!(((rd_T56 l0 x13_1).f0) == ((rd_T56 l1 x13_1).f0)) || (!(((rd_T56 l0 x13_1).f1) == ((rd_T56 l1 x13_1).f1)) || (!((((rd_T56 l0 x13_1).f2).toList) == (((rd_T56 l1 x13_1).f2).toList))))) = false := by simpa using c8
        clear c8
        have H' := Aside0.mk H
        clear H
        have p354 : 0 ≤ (x13_1 : Int) := of_decide_eq_true sq7
        have q354 : x13_1 < (l0.length : Int) := of_decide_eq_true sq7
        obtain ⟨ad354, e354, hx354_0, hx354_1, hx354_2⟩ := at_T56 HR0.out x13_1 p354 q354
        cases e354
        replace p354 := eq_true p354
        replace q354 := eq_true q354
        have p355 : 0 ≤ (x13_1 : Int) := of_decide_eq_true sq7
        have q355 : x13_1 < (l1.length : Int) := of_decide_eq_true sq7
        obtain ⟨ad355, e355, hx355_0, hx355_1, hx355_2⟩ := at_T56 HR1.out x13_1 p355 q355
        cases e355
        replace p355 := eq_true p355
        replace q355 := eq_true q355
        go_wp2
        repeat (go_quiet (fail); try go_wp2)
        go_roundg k1
        case measure => have := HK1.out; omega
        case rel => exact ⟨(wrap64 (x13_1 + 1)), sq6, H', ⟨sq3⟩, sq9⟩
       rw [if_neg c7] at H
       exact absurd H (by simp)
      rw [if_neg c6] at H
      exact absurd H (by simp)
     rw [if_neg c5] at H
     exact absurd H (by simp)
    rw [if_neg c4] at H
    have c4b0 : decide (x13_1 < (l0.length : Int)) = false := decide_eq_false c4; clear c4
    obtain rfl := Option.some.inj H
    go_wp2
    repeat (go_quiet (fail); try go_wp2)
    go_ret
    exact ⟨sq6, sq9⟩
 rw [if_neg c3] at H
 have c3b0 : ((l0.length : Int) == (l1.length : Int)) = false := beq_eq_false_iff_ne.mpr c3
 have c3b1 : ((l0.length : Int) != (l1.length : Int)) = true := bne_iff_ne.mpr c3
 have c3b2 : (l0.length == l1.length) = false := by first | simpa using c3 | (simp at c3 ⊢; omega)
 obtain rfl := Option.some.inj H
 go_enter Try.func18, Try.ntmps18
 go_wp2
 repeat (go_quiet (fail); try go_wp2)
 go_ret
 exact ⟨sq6, sq9⟩

/-! ### tontinelaw18_words: function 19 -/
def tontinelaw18_words.l0 : Nat → List (S59) → List (S59) → Int → Int → Option (Bool)
 | 0, _, _, _, _ => none
 | k + 1, x0, x1, x12, x13 => if x13 < x12 then (if 0 ≤ x13 then (if x13 < (x0.length : Int) then (if x13 < (x1.length : Int) then (if (!((((rd_T59 x0 x13).f0).toList) == (((rd_T59 x1 x13).f0).toList)) || (!(((rd_T59 x0 x13).f1) == ((rd_T59 x1 x13).f1)))) = true then (some false) else (tontinelaw18_words.l0 k x0 x1 x12 (wrap64 (x13 + 1)))) else (none)) else (none)) else (none)) else (some true)
def tontinelaw18_words.f (k : Nat) (l0 : List (S59)) (l1 : List (S59)) : Option (Bool) := if (l0.length : Int) = (l1.length : Int) then (tontinelaw18_words.l0 k l0 l1 (l0.length : Int) 0) else (some false)
theorem tontinelaw18_words.mono_l : ∀ k, (∀ y0 y1 y2 y3, LeO (tontinelaw18_words.l0 k y0 y1 y2 y3) (tontinelaw18_words.l0 (k + 1) y0 y1 y2 y3))
 | 0 => fun _ _ _ _ r h => by simp [tontinelaw18_words.l0] at h
 | k + 1 => by
  have ih0 := tontinelaw18_words.mono_l k
  ·intro y0 y1 y2 y3
   unfold tontinelaw18_words.l0
   exact sq96
theorem tontinelaw18_words.mono : ∀ a0 a1 k, LeO (tontinelaw18_words.f k a0 a1) (tontinelaw18_words.f (k + 1) a0 a1) := by
 intro a0 a1 k
 have ih0 := tontinelaw18_words.mono_l k
 unfold tontinelaw18_words.f
 exact sq96
set_option maxHeartbeats 8000000 in
set_option maxRecDepth 100000 in
theorem tontinelaw18_words.calls (k : Nat) (A0 : Option Addr) (c0 : Nat) (l0 : List (S59)) (A1 : Option Addr) (c1 : Nat) (l1 : List (S59)) (r : Bool) (w : World) (hr0 : Kd.C k59 w A0 l0.length l0) (hc0 : l0.length ≤ c0) (hr1 : Kd.C k59 w A1 l1.length l1) (hc1 : l1.length ≤ c1) (h : tontinelaw18_words.f k l0 l1 = some r) :
  Calls Try.prog 19 #[.slice A0 l0.length c0, .slice A1 l1.length c1] w fun e w' => e = .returned (.bool r) ∧ Drawn0 w w' := by
 have hu59 := Try.underlying59
 have HR0 := Aside0.mk hr0
 have HC0 := Aside0.mk hc0
 clear hr0 hc0
 have HR1 := Aside0.mk hr1
 have HC1 := Aside0.mk hc1
 clear hr1 hc1
 have H : (if (l0.length : Int) = (l1.length : Int) then (tontinelaw18_words.l0 k l0 l1 (l0.length : Int) 0) else (some false)) = some r := h
 clear h
 by_cases c3 : (l0.length : Int) = (l1.length : Int)
 ·rw [if_pos c3] at H
  have c3b0 : ((l0.length : Int) == (l1.length : Int)) = true := beq_iff_eq.mpr c3
  have c3b1 : ((l0.length : Int) != (l1.length : Int)) = false := bne_eq_false_iff_eq.mpr c3
  have c3b2 : (l0.length == l1.length) = true := by first | simpa using c3 | (simp at c3 ⊢; omega)
  clear c3
  have H' := Aside0.mk H
  clear H
  go_enter Try.func19, Try.ntmps19
  go_wp2
  repeat (go_quiet (fail); try go_wp2)
  go_loopg [13] k (fun kq v13 w' => ∃ (x13_1 : Int), v13 = .int .i64 x13_1 ∧ Aside0 (tontinelaw18_words.l0 kq l0 l1 (l0.length : Int) x13_1 = some r) ∧ Aside0 (kq ≤ k) ∧ Drawn0 w w')
  case atStart => exact ⟨(0), sq6, H', ⟨Nat.le_refl _⟩, sq9⟩
  case round =>
   clear H'
   try clear c1; try clear p2; try clear c3; try clear c3b0; try clear c3b1; try clear c3b2
   obtain ⟨x13_1, rfl, HA, HK1, ⟨m1, rfl⟩⟩ := hrel
   cases gk with
   | zero => exact absurd HA.out (by simp [tontinelaw18_words.l0])
   | succ k1 =>
    have H := HA.out
    clear HA
    simp only [tontinelaw18_words.l0] at H
    by_cases c4 : x13_1 < (l0.length : Int)
    ·rw [if_pos c4] at H
     have c4b0 : decide (x13_1 < (l0.length : Int)) = true := decide_eq_true c4; clear c4
     by_cases c5 : 0 ≤ x13_1
     ·rw [if_pos c5] at H
      have c5b0 : decide (0 ≤ x13_1) = true := decide_eq_true c5; clear c5
      by_cases c6 : x13_1 < (l0.length : Int)
      ·rw [if_pos c6] at H
       have c6b0 : decide (x13_1 < (l0.length : Int)) = true := decide_eq_true c6; clear c6
       by_cases c7 : x13_1 < (l1.length : Int)
       ·rw [if_pos c7] at H
        have c7b0 : decide (x13_1 < (l1.length : Int)) = true := decide_eq_true c7; clear c7
        by_cases c8 : (!((((rd_T59 l0 x13_1).f0).toList) == (((rd_T59 l1 x13_1).f0).toList)) || (!(((rd_T59 l0 x13_1).f1) == ((rd_T59 l1 x13_1).f1)))) = true
        ·rw [if_pos c8] at H
         have c8b0 : (!((((rd_T59 l0 x13_1).f0).toList) == (((rd_T59 l1 x13_1).f0).toList)) || (!(((rd_T59 l0 x13_1).f1) == ((rd_T59 l1 x13_1).f1)))) = true := c8
         clear c8
         obtain rfl := Option.some.inj H
         have p356 : 0 ≤ (x13_1 : Int) := of_decide_eq_true sq7
         have q356 : x13_1 < (l0.length : Int) := of_decide_eq_true sq7
         obtain ⟨ad356, e356, hx356_0, hx356_1⟩ := at_T59 HR0.out x13_1 p356 q356
         cases e356
         replace p356 := eq_true p356
         replace q356 := eq_true q356
         have p357 : 0 ≤ (x13_1 : Int) := of_decide_eq_true sq7
         have q357 : x13_1 < (l1.length : Int) := of_decide_eq_true sq7
         obtain ⟨ad357, e357, hx357_0, hx357_1⟩ := at_T59 HR1.out x13_1 p357 q357
         cases e357
         replace p357 := eq_true p357
         replace q357 := eq_true q357
         go_wp2
         repeat (go_quiet (fail); try go_wp2)
         go_ret
         exact ⟨sq6, sq9⟩
        rw [if_neg c8] at H
        have c8b0 : (!((((rd_T59 l0 x13_1).f0).toList) == (((rd_T59 l1 x13_1).f0).toList)) || (!(((rd_T59 l0 x13_1).f1) == ((rd_T59 l1 x13_1).f1)))) = false := by simpa using c8
        clear c8
        have H' := Aside0.mk H
        clear H
        have p356 : 0 ≤ (x13_1 : Int) := of_decide_eq_true sq7
        have q356 : x13_1 < (l0.length : Int) := of_decide_eq_true sq7
        obtain ⟨ad356, e356, hx356_0, hx356_1⟩ := at_T59 HR0.out x13_1 p356 q356
        cases e356
        replace p356 := eq_true p356
        replace q356 := eq_true q356
        have p357 : 0 ≤ (x13_1 : Int) := of_decide_eq_true sq7
        have q357 : x13_1 < (l1.length : Int) := of_decide_eq_true sq7
        obtain ⟨ad357, e357, hx357_0, hx357_1⟩ := at_T59 HR1.out x13_1 p357 q357
        cases e357
        replace p357 := eq_true p357
        replace q357 := eq_true q357
        go_wp2
        repeat (go_quiet (fail); try go_wp2)
        go_roundg k1
        case measure => have := HK1.out; omega
        case rel => exact ⟨(wrap64 (x13_1 + 1)), sq6, H', ⟨sq3⟩, sq9⟩
       rw [if_neg c7] at H
       exact absurd H (by simp)
      rw [if_neg c6] at H
      exact absurd H (by simp)
     rw [if_neg c5] at H
     exact absurd H (by simp)
    rw [if_neg c4] at H
    have c4b0 : decide (x13_1 < (l0.length : Int)) = false := decide_eq_false c4; clear c4
    obtain rfl := Option.some.inj H
    go_wp2
    repeat (go_quiet (fail); try go_wp2)
    go_ret
    exact ⟨sq6, sq9⟩
 rw [if_neg c3] at H
 have c3b0 : ((l0.length : Int) == (l1.length : Int)) = false := beq_eq_false_iff_ne.mpr c3
 have c3b1 : ((l0.length : Int) != (l1.length : Int)) = true := bne_iff_ne.mpr c3
 have c3b2 : (l0.length == l1.length) = false := by first | simpa using c3 | (simp at c3 ⊢; omega)
 obtain rfl := Option.some.inj H
 go_enter Try.func19, Try.ntmps19
 go_wp2
 repeat (go_quiet (fail); try go_wp2)
 go_ret
 exact ⟨sq6, sq9⟩

/-! ### tontinelaw18_works: function 20 -/
def tontinelaw18_works.f (k : Nat)  : Option (Bool) := (some (([(⟨1, 0, (⟨#[49]⟩ : ByteArray)⟩ : S56), (⟨1, 0, (⟨#[50]⟩ : ByteArray)⟩ : S56), (⟨5, 0, (⟨#[120]⟩ : ByteArray)⟩ : S56), (⟨8, 2, (⟨#[]⟩ : ByteArray)⟩ : S56), (⟨10, 2, (⟨#[]⟩ : ByteArray)⟩ : S56)] : List (S56)) : List (S56))).bind fun y358 => ((kind_Of.f k y358 (([(⟨(⟨#[120]⟩ : ByteArray), 1⟩ : S59)] : List (S59)))).bind fun bt364 => ((kind_Of.f k y358 (([(⟨(⟨#[120]⟩ : ByteArray), 2⟩ : S59)] : List (S59)))).bind fun bt371 => (if bt364.1 = 1 then (if (bt364.2.1 == 0 && (bt364.2.2 == 0)) = true then (if bt371.1 = 0 then (some (bt371.2.1 == 4 && (bt371.2.2 == 180))) else (some false)) else (some false)) else (some false))))
theorem tontinelaw18_works.mono : ∀ k, LeO (tontinelaw18_works.f k ) (tontinelaw18_works.f (k + 1) ) := by
 intro  k
 unfold tontinelaw18_works.f
 exact (by repeat' first | (with_reducible exact kind_Of.mono _ _ _) | (with_reducible exact LeO.refl _) | (with_reducible exact LeO.none _) | (with_reducible refine LeO.ite ?_ ?_) | (with_reducible refine LeO.bind ?_ (fun _ => ?_)) | exact kind_Of.mono _ _ _ | exact LeO.none _ | refine LeO.ite ?_ ?_ | refine LeO.bind ?_ (fun _ => ?_))
set_option maxHeartbeats 8000000 in
set_option maxRecDepth 100000 in
theorem tontinelaw18_works.calls (k : Nat)  (r : Bool) (w : World) (hG : Glob w) (h : tontinelaw18_works.f k  = some r) :
  Calls Try.prog 20 #[] w fun e w' => e = .returned (.bool r) ∧ Below w.heap.size w w' := by
 have hu56 := Try.underlying56
 have hu59 := Try.underlying59
 have hu28 := Try.underlying28
 have HB := Aside0.mk (Below.refl w.heap.size w)
 have HG := Aside0.mk hG
 clear hG
 have H : ((some (([(⟨1, 0, (⟨#[49]⟩ : ByteArray)⟩ : S56), (⟨1, 0, (⟨#[50]⟩ : ByteArray)⟩ : S56), (⟨5, 0, (⟨#[120]⟩ : ByteArray)⟩ : S56), (⟨8, 2, (⟨#[]⟩ : ByteArray)⟩ : S56), (⟨10, 2, (⟨#[]⟩ : ByteArray)⟩ : S56)] : List (S56)) : List (S56))).bind fun y358 => ((kind_Of.f k y358 (([(⟨(⟨#[120]⟩ : ByteArray), 1⟩ : S59)] : List (S59)))).bind fun bt364 => ((kind_Of.f k y358 (([(⟨(⟨#[120]⟩ : ByteArray), 2⟩ : S59)] : List (S59)))).bind fun bt371 => (if bt364.1 = 1 then (if (bt364.2.1 == 0 && (bt364.2.2 == 0)) = true then (if bt371.1 = 0 then (some (bt371.2.1 == 4 && (bt371.2.2 == 180))) else (some false)) else (some false)) else (some false))))) = some r := h
 clear h
 obtain ⟨y358, hy358⟩ : ∃ y_ : List (S56), y_ = (([(⟨1, 0, (⟨#[49]⟩ : ByteArray)⟩ : S56), (⟨1, 0, (⟨#[50]⟩ : ByteArray)⟩ : S56), (⟨5, 0, (⟨#[120]⟩ : ByteArray)⟩ : S56), (⟨8, 2, (⟨#[]⟩ : ByteArray)⟩ : S56), (⟨10, 2, (⟨#[]⟩ : ByteArray)⟩ : S56)] : List (S56))) := ⟨_, rfl⟩
 replace H : ((kind_Of.f k y358 (([(⟨(⟨#[120]⟩ : ByteArray), 1⟩ : S59)] : List (S59)))).bind fun bt364 => ((kind_Of.f k y358 (([(⟨(⟨#[120]⟩ : ByteArray), 2⟩ : S59)] : List (S59)))).bind fun bt371 => (if bt364.1 = 1 then (if (bt364.2.1 == 0 && (bt364.2.2 == 0)) = true then (if bt371.1 = 0 then (some (bt371.2.1 == 4 && (bt371.2.2 == 180))) else (some false)) else (some false)) else (some false)))) = some r := by first | (rw [hy358]; with_reducible exact H) | (have H2_ := (Option.bind_some _ _).symm.trans H; rw [hy358]; with_reducible exact H2_) | (have H2_ := (Option.bind_some _ _).symm.trans H; with_reducible exact H2_) | with_reducible exact H | (rw [hy358]; exact H) | exact H
 have Ny358 := Aside0.mk hy358
 clear hy358
 obtain ⟨y361, hy361⟩ : ∃ y_ : List (S59), y_ = (([(⟨(⟨#[120]⟩ : ByteArray), 1⟩ : S59)] : List (S59))) := ⟨_, rfl⟩
 replace H : ((kind_Of.f k y358 y361).bind fun bt364 => ((kind_Of.f k y358 (([(⟨(⟨#[120]⟩ : ByteArray), 2⟩ : S59)] : List (S59)))).bind fun bt371 => (if bt364.1 = 1 then (if (bt364.2.1 == 0 && (bt364.2.2 == 0)) = true then (if bt371.1 = 0 then (some (bt371.2.1 == 4 && (bt371.2.2 == 180))) else (some false)) else (some false)) else (some false)))) = some r := by first | (rw [hy361]; with_reducible exact H) | (have H2_ := (Option.bind_some _ _).symm.trans H; rw [hy361]; with_reducible exact H2_) | (have H2_ := (Option.bind_some _ _).symm.trans H; with_reducible exact H2_) | with_reducible exact H | (rw [hy361]; exact H) | exact H
 have Ny361 := Aside0.mk hy361
 clear hy361
 replace H := Option.bind_eq_some_iff.mp H
 obtain ⟨⟨t364, t365, t366⟩, A10, H⟩ := H
 replace H : ((kind_Of.f k y358 (([(⟨(⟨#[120]⟩ : ByteArray), 2⟩ : S59)] : List (S59)))).bind fun bt371 => (if t364 = 1 then (if (t365 == 0 && (t366 == 0)) = true then (if bt371.1 = 0 then (some (bt371.2.1 == 4 && (bt371.2.2 == 180))) else (some false)) else (some false)) else (some false))) = some r := H
 have A1 := Aside0.mk A10
 clear A10
 obtain ⟨y368, hy368⟩ : ∃ y_ : List (S59), y_ = (([(⟨(⟨#[120]⟩ : ByteArray), 2⟩ : S59)] : List (S59))) := ⟨_, rfl⟩
 replace H : ((kind_Of.f k y358 y368).bind fun bt371 => (if t364 = 1 then (if (t365 == 0 && (t366 == 0)) = true then (if bt371.1 = 0 then (some (bt371.2.1 == 4 && (bt371.2.2 == 180))) else (some false)) else (some false)) else (some false))) = some r := by first | (rw [hy368]; with_reducible exact H) | (have H2_ := (Option.bind_some _ _).symm.trans H; rw [hy368]; with_reducible exact H2_) | (have H2_ := (Option.bind_some _ _).symm.trans H; with_reducible exact H2_) | with_reducible exact H | (rw [hy368]; exact H) | exact H
 have Ny368 := Aside0.mk hy368
 clear hy368
 replace H := Option.bind_eq_some_iff.mp H
 obtain ⟨⟨t371, t372, t373⟩, A20, H⟩ := H
 replace H : (if t364 = 1 then (if (t365 == 0 && (t366 == 0)) = true then (if t371 = 0 then (some (t372 == 4 && (t373 == 180))) else (some false)) else (some false)) else (some false)) = some r := H
 have A2 := Aside0.mk A20
 clear A20
 by_cases c3 : t364 = 1
 ·rw [if_pos c3] at H
  have c3b0 : (t364 == 1) = true := beq_iff_eq.mpr c3
  have c3b1 : (t364 != 1) = false := bne_eq_false_iff_eq.mpr c3
  clear c3
  by_cases c4 : (t365 == 0 && (t366 == 0)) = true
  ·rw [if_pos c4] at H
   have c4b0 : (t365 == 0 && (t366 == 0)) = true := c4
   (try (have c4b1 : decide (t365 = 0 && (t366 == 0)) = true := by simpa using c4))
   (try (have c4b2 : (t365 == 0 && (t366 == 0)) = true := by simpa using c4))
   clear c4
   by_cases c5 : t371 = 0
   ·rw [if_pos c5] at H
    have c5b0 : (t371 == 0) = true := beq_iff_eq.mpr c5
    have c5b1 : (t371 != 0) = false := bne_eq_false_iff_eq.mpr c5
    clear c5
    obtain rfl := Option.some.inj H
    go_enter Try.func20, Try.ntmps20
    go_wp2_with (first | ((with_reducible refine gate_dst (N := 11) rfl ?_); refine Kd.R_lit k56 _ 56 ?hg (N := 11) ?hd (xs := ([(⟨1, 0, (⟨#[49]⟩ : ByteArray)⟩ : S56), (⟨1, 0, (⟨#[50]⟩ : ByteArray)⟩ : S56), (⟨5, 0, (⟨#[120]⟩ : ByteArray)⟩ : S56), (⟨8, 2, (⟨#[]⟩ : ByteArray)⟩ : S56), (⟨10, 2, (⟨#[]⟩ : ByteArray)⟩ : S56)] : List (S56))) (inner := [.int .i64 1, .int .i64 0, .string (⟨#[49]⟩ : ByteArray), .int .i64 1, .int .i64 0, .string (⟨#[50]⟩ : ByteArray), .int .i64 5, .int .i64 0, .string (⟨#[120]⟩ : ByteArray), .int .i64 8, .int .i64 2, .string (⟨#[]⟩ : ByteArray), .int .i64 10, .int .i64 2, .string (⟨#[]⟩ : ByteArray)]) (ok := fun _ => True) (okp := fun _ => True) ?hr ?hp (fun _ hk => hk) trivial (Below.refl _ _) (Nat.le_refl _) (by simp) ?_; (case hd => rfl); (case hg => rfl); (case hr => first | (go_simp; done) | (go_simp; rfl)); (case hp => exact (Reps.c3 (show Kd.M k56 _ _ _ (⟨1, 0, (⟨#[49]⟩ : ByteArray)⟩ : S56) [.int .i64 1, .int .i64 0, .string (⟨#[49]⟩ : ByteArray)] from (k56_mkM _ _ _ (⟨1, 0, (⟨#[49]⟩ : ByteArray)⟩ : S56) )) (Reps.c3 (show Kd.M k56 _ _ _ (⟨1, 0, (⟨#[50]⟩ : ByteArray)⟩ : S56) [.int .i64 1, .int .i64 0, .string (⟨#[50]⟩ : ByteArray)] from (k56_mkM _ _ _ (⟨1, 0, (⟨#[50]⟩ : ByteArray)⟩ : S56) )) (Reps.c3 (show Kd.M k56 _ _ _ (⟨5, 0, (⟨#[120]⟩ : ByteArray)⟩ : S56) [.int .i64 5, .int .i64 0, .string (⟨#[120]⟩ : ByteArray)] from (k56_mkM _ _ _ (⟨5, 0, (⟨#[120]⟩ : ByteArray)⟩ : S56) )) (Reps.c3 (show Kd.M k56 _ _ _ (⟨8, 2, (⟨#[]⟩ : ByteArray)⟩ : S56) [.int .i64 8, .int .i64 2, .string (⟨#[]⟩ : ByteArray)] from (k56_mkM _ _ _ (⟨8, 2, (⟨#[]⟩ : ByteArray)⟩ : S56) )) (Reps.c3 (show Kd.M k56 _ _ _ (⟨10, 2, (⟨#[]⟩ : ByteArray)⟩ : S56) [.int .i64 10, .int .i64 2, .string (⟨#[]⟩ : ByteArray)] from (k56_mkM _ _ _ (⟨10, 2, (⟨#[]⟩ : ByteArray)⟩ : S56) )) (Reps.none _ _))))))); intro v359 w6 ho7 hb hg_ hnew_; clear hg_ hnew_; (first | rw [← Ny358.out] at ho7 | (simp only [Int.reduceToNat] at ho7; rw [← Ny358.out] at ho7)); have n0_ := Aside0.mk (Kd.R_lower ho7 (below_size sq49)); have n1_ := Aside0.mk (below_step sq49 hb); clear HB; have HO360 := n0_; have HB := n1_; clear n0_ n1_; clear hb ho7) | ((with_reducible refine gate_dst (N := 15) rfl ?_); refine Kd.R_lit k59 _ 59 ?hg (N := 15) ?hd (xs := ([(⟨(⟨#[120]⟩ : ByteArray), 1⟩ : S59)] : List (S59))) (inner := [.string (⟨#[120]⟩ : ByteArray), .int .i64 1]) (ok := fun _ => True) (okp := fun _ => True) ?hr ?hp (fun _ hk => hk) trivial (Below.refl _ _) (Nat.le_refl _) (by simp) ?_; (case hd => rfl); (case hg => rfl); (case hr => first | (go_simp; done) | (go_simp; rfl)); (case hp => exact (Reps.c2 (show Kd.M k59 _ _ _ (⟨(⟨#[120]⟩ : ByteArray), 1⟩ : S59) [.string (⟨#[120]⟩ : ByteArray), .int .i64 1] from (k59_mkM _ _ _ (⟨(⟨#[120]⟩ : ByteArray), 1⟩ : S59) )) (Reps.none _ _))); intro v362 w8 ho9 hb hg_ hnew_; clear hg_ hnew_; (first | rw [← Ny361.out] at ho9 | (simp only [Int.reduceToNat] at ho9; rw [← Ny361.out] at ho9)); have n0_ := Aside0.mk (Kd.R_below sq24 hb); have n1_ := Aside0.mk (Kd.R_lower ho9 (below_size sq49)); have n2_ := Aside0.mk (below_step sq49 hb); clear HO360; clear HB; have HO360 := n0_; have HO363 := n1_; have HB := n2_; clear n0_ n1_ n2_; clear hb ho9; obtain ⟨Ao10, co10, eo10⟩ := Kd.R_slice HO360.out; subst eo10; obtain ⟨Ao11, co11, eo11⟩ := Kd.R_slice HO363.out; subst eo11) | ((with_reducible refine gate_callee (f := 10) rfl ?_); refine goesL_ (some 16) rfl rfl Try.func10 sq2 rfl #[.slice Ao10 y358.length co10, .slice Ao11 y361.length co11] rfl sq50 ?_; (with_reducible refine (kind_Of.calls k _ _ y358 _ _ y361 t364 t365 t366 _ ?side5 ?side1 ?side2 ?side3 ?side4 A1.out).mono ?_); (case side1 => repeat (first | exact (Kd.R_reads' HO360.out).2.2 | (with_reducible refine Kd.C_alloc ?_ _) | (with_reducible refine Kd.C_drewN ?_ _) | (with_reducible refine Kd.C_drew ?_))); (case side2 => exact (Kd.R_reads' HO360.out).2.1); (case side3 => repeat (first | exact (Kd.R_reads' HO363.out).2.2 | (with_reducible refine Kd.C_alloc ?_ _) | (with_reducible refine Kd.C_drewN ?_ _) | (with_reducible refine Kd.C_drew ?_))); (case side4 => exact (Kd.R_reads' HO363.out).2.1); (case side5 => exact Glob.below HG.out sq49); rintro e w12 ⟨rfl, hb⟩; refine ⟨_, rfl, ?_⟩; have n0_ := Aside0.mk (Kd.R_below sq24 hb); have n1_ := Aside0.mk (Kd.R_below sq25 hb); have n2_ := Aside0.mk (below_step sq49 hb); clear HO360; clear HO363; clear HB; have HO360 := n0_; have HO363 := n1_; have HB := n2_; clear n0_ n1_ n2_; (try clear hb); (try clear hb2); (try clear hk); (try clear hi)) | ((with_reducible refine gate_dst (N := 3) rfl ?_); refine box_event ?hg (N := 3) ?hd (cs := #[.int .i64 0, .int .i64 0]) (t := 28) ?hr ?_; (case hd => rfl); (case hg => rfl); (case hr => first | (go_simp; done) | (go_simp; rfl)); intro gb367 hg w13 hbox hb; have n0_ := Aside0.mk (Kd.R_below sq24 hb); have n1_ := Aside0.mk (Kd.R_below sq25 hb); have n2_ := Aside0.mk (below_step sq49 hb); have n3_ := Aside0.mk (hbox); have n4_ := Aside0.mk ((by rw [hg]; exact (below_size sq49) : w.heap.size ≤ gb367)); have n5_ := Aside0.mk ((by rw [hg]; exact (below_size sq49) : w.heap.size ≤ gb367)); clear HO360; clear HO363; clear HB; have HO360 := n0_; have HO363 := n1_; have HB := n2_; have BK367 := n3_; have GW367 := n4_; have GE367 := n5_; clear n0_ n1_ n2_ n3_ n4_ n5_; clear hb hbox hg; have hcz14_0 : w13.cell? ⟨gb367, 0, none⟩ = some (.int .i64 0) := (blk_cell BK367.out 0).trans rfl; have hcz14_1 : w13.cell? ⟨gb367, 1, none⟩ = some (.int .i64 0) := (blk_cell BK367.out 1).trans rfl; have hfz14_0 := blk_frozen BK367.out 0; have hfz14_1 := blk_frozen BK367.out 1) | ((with_reducible refine gate_dst (N := 22) rfl ?_); refine Kd.R_lit k59 _ 59 ?hg (N := 22) ?hd (xs := ([(⟨(⟨#[120]⟩ : ByteArray), 2⟩ : S59)] : List (S59))) (inner := [.string (⟨#[120]⟩ : ByteArray), .int .i64 2]) (ok := fun _ => True) (okp := fun _ => True) ?hr ?hp (fun _ hk => hk) trivial (Below.refl _ _) (Nat.le_refl _) (by simp) ?_; (case hd => rfl); (case hg => rfl); (case hr => first | (go_simp; done) | (go_simp; rfl)); (case hp => exact (Reps.c2 (show Kd.M k59 _ _ _ (⟨(⟨#[120]⟩ : ByteArray), 2⟩ : S59) [.string (⟨#[120]⟩ : ByteArray), .int .i64 2] from (k59_mkM _ _ _ (⟨(⟨#[120]⟩ : ByteArray), 2⟩ : S59) )) (Reps.none _ _))); intro v369 w15 ho16 hb hg_ hnew_; clear hg_ hnew_; (first | rw [← Ny368.out] at ho16 | (simp only [Int.reduceToNat] at ho16; rw [← Ny368.out] at ho16)); have n0_ := Aside0.mk (Kd.R_below sq101 hb); have n1_ := Aside0.mk (Kd.R_elder' sq102 (Kd.R_base ho16) hb); have n2_ := Aside0.mk (Kd.R_lower (Kd.R_new' ho16 (Kd.R_lt sq102)) (below_size sq73)); have n3_ := Aside0.mk (blk_below (g := gb367) (o := .cells #[.int .i64 t365, .int .i64 t366] 28 (0, 0)) sq128 hb); have n4_ := Aside0.mk (below_step sq73 hb); clear HO360; clear HO363; clear BK367; clear HB; have HO360 := n0_; have HO363 := n1_; have HO370 := n2_; have BK367 := n3_; have HB := n4_; clear n0_ n1_ n2_ n3_ n4_; clear hb ho16; obtain ⟨Ao17, co17, eo17⟩ := Kd.R_slice HO370.out; subst eo17) | ((with_reducible refine gate_callee (f := 10) rfl ?_); refine goesL_ (some 23) rfl rfl Try.func10 sq2 rfl #[.slice Ao10 y358.length co10, .slice Ao17 y368.length co17] rfl sq50 ?_; (with_reducible refine (kind_Of.calls k _ _ y358 _ _ y368 t371 t372 t373 _ ?side5 ?side1 ?side2 ?side3 ?side4 A2.out).mono ?_); (case side1 => repeat (first | exact (Kd.R_reads' HO360.out).2.2 | (with_reducible refine Kd.C_alloc ?_ _) | (with_reducible refine Kd.C_drewN ?_ _) | (with_reducible refine Kd.C_drew ?_))); (case side2 => exact (Kd.R_reads' HO360.out).2.1); (case side3 => repeat (first | exact (Kd.R_reads' HO370.out).2.2 | (with_reducible refine Kd.C_alloc ?_ _) | (with_reducible refine Kd.C_drewN ?_ _) | (with_reducible refine Kd.C_drew ?_))); (case side4 => exact (Kd.R_reads' HO370.out).2.1); (case side5 => exact Glob.below HG.out sq73); rintro e w18 ⟨rfl, hb⟩; refine ⟨_, rfl, ?_⟩; have n0_ := Aside0.mk (Kd.R_below sq24 hb); have n1_ := Aside0.mk (Kd.R_below sq25 hb); have n2_ := Aside0.mk (Kd.R_below sq26 hb); have n3_ := Aside0.mk (blk_below (g := gb367) (o := .cells #[.int .i64 t365, .int .i64 t366] 28 (0, 0)) sq46 hb); have n4_ := Aside0.mk (below_step sq73 hb); clear HO360; clear HO363; clear HO370; clear BK367; clear HB; have HO360 := n0_; have HO363 := n1_; have HO370 := n2_; have BK367 := n3_; have HB := n4_; clear n0_ n1_ n2_ n3_ n4_; (try clear hb); (try clear hb2); (try clear hk); (try clear hi)) | ((with_reducible refine gate_dst (N := 5) rfl ?_); refine box_event ?hg (N := 5) ?hd (cs := #[.int .i64 0, .int .i64 0]) (t := 28) ?hr ?_; (case hd => rfl); (case hg => rfl); (case hr => first | (go_simp; done) | (go_simp; rfl)); intro gb374 hg w19 hbox hb; have n0_ := Aside0.mk (Kd.R_below sq24 hb); have n1_ := Aside0.mk (Kd.R_below sq25 hb); have n2_ := Aside0.mk (Kd.R_below sq26 hb); have n3_ := Aside0.mk (blk_below (g := gb367) (o := .cells #[.int .i64 t365, .int .i64 t366] 28 (0, 0)) sq46 hb); have n4_ := Aside0.mk (below_step sq73 hb); have n5_ := Aside0.mk (hbox); have n6_ := Aside0.mk ((by rw [hg]; exact (below_size sq73) : w.heap.size ≤ gb374)); have n7_ := Aside0.mk ((by rw [hg]; exact (below_size sq73) : w.heap.size ≤ gb374)); have n8_ := Aside0.mk ((by rw [hg]; exact Nat.ne_of_lt (blk_lt (g := gb367) (o := .cells #[.int .i64 t365, .int .i64 t366] 28 (0, 0)) sq46) : gb367 ≠ gb374)); have n9_ := Aside0.mk ((by rw [hg]; exact Nat.ne_of_gt (blk_lt (g := gb367) (o := .cells #[.int .i64 t365, .int .i64 t366] 28 (0, 0)) sq46) : gb374 ≠ gb367)); clear HO360; clear HO363; clear HO370; clear BK367; clear HB; have HO360 := n0_; have HO363 := n1_; have HO370 := n2_; have BK367 := n3_; have HB := n4_; have BK374 := n5_; have GW374 := n6_; have GE374 := n7_; have NB367_374 := n8_; have NB374_367 := n9_; clear n0_ n1_ n2_ n3_ n4_ n5_ n6_ n7_ n8_ n9_; clear hb hbox hg; have hnb20 := NB374_367.out; have hnc20 := NB367_374.out; have hcz21_0 : w19.cell? ⟨gb374, 0, none⟩ = some (.int .i64 0) := (blk_cell BK374.out 0).trans rfl; have hcz21_1 : w19.cell? ⟨gb374, 1, none⟩ = some (.int .i64 0) := (blk_cell BK374.out 1).trans rfl; have hfz21_0 := blk_frozen BK374.out 0; have hfz21_1 := blk_frozen BK374.out 1; have hcz22_0 : w19.cell? ⟨gb367, 0, none⟩ = some (.int .i64 t365) := (blk_cell BK367.out 0).trans rfl; have hcz22_1 : w19.cell? ⟨gb367, 1, none⟩ = some (.int .i64 t366) := (blk_cell BK367.out 1).trans rfl; have hfz22_0 := blk_frozen BK367.out 0; have hfz22_1 := blk_frozen BK367.out 1))
    go_ret
    exact ⟨sq13, sq88⟩
   rw [if_neg c5] at H
   have c5b0 : (t371 == 0) = false := beq_eq_false_iff_ne.mpr c5
   have c5b1 : (t371 != 0) = true := bne_iff_ne.mpr c5
   obtain rfl := Option.some.inj H
   go_enter Try.func20, Try.ntmps20
   go_wp2_with (first | ((with_reducible refine gate_dst (N := 11) rfl ?_); refine Kd.R_lit k56 _ 56 ?hg (N := 11) ?hd (xs := ([(⟨1, 0, (⟨#[49]⟩ : ByteArray)⟩ : S56), (⟨1, 0, (⟨#[50]⟩ : ByteArray)⟩ : S56), (⟨5, 0, (⟨#[120]⟩ : ByteArray)⟩ : S56), (⟨8, 2, (⟨#[]⟩ : ByteArray)⟩ : S56), (⟨10, 2, (⟨#[]⟩ : ByteArray)⟩ : S56)] : List (S56))) (inner := [.int .i64 1, .int .i64 0, .string (⟨#[49]⟩ : ByteArray), .int .i64 1, .int .i64 0, .string (⟨#[50]⟩ : ByteArray), .int .i64 5, .int .i64 0, .string (⟨#[120]⟩ : ByteArray), .int .i64 8, .int .i64 2, .string (⟨#[]⟩ : ByteArray), .int .i64 10, .int .i64 2, .string (⟨#[]⟩ : ByteArray)]) (ok := fun _ => True) (okp := fun _ => True) ?hr ?hp (fun _ hk => hk) trivial (Below.refl _ _) (Nat.le_refl _) (by simp) ?_; (case hd => rfl); (case hg => rfl); (case hr => first | (go_simp; done) | (go_simp; rfl)); (case hp => exact (Reps.c3 (show Kd.M k56 _ _ _ (⟨1, 0, (⟨#[49]⟩ : ByteArray)⟩ : S56) [.int .i64 1, .int .i64 0, .string (⟨#[49]⟩ : ByteArray)] from (k56_mkM _ _ _ (⟨1, 0, (⟨#[49]⟩ : ByteArray)⟩ : S56) )) (Reps.c3 (show Kd.M k56 _ _ _ (⟨1, 0, (⟨#[50]⟩ : ByteArray)⟩ : S56) [.int .i64 1, .int .i64 0, .string (⟨#[50]⟩ : ByteArray)] from (k56_mkM _ _ _ (⟨1, 0, (⟨#[50]⟩ : ByteArray)⟩ : S56) )) (Reps.c3 (show Kd.M k56 _ _ _ (⟨5, 0, (⟨#[120]⟩ : ByteArray)⟩ : S56) [.int .i64 5, .int .i64 0, .string (⟨#[120]⟩ : ByteArray)] from (k56_mkM _ _ _ (⟨5, 0, (⟨#[120]⟩ : ByteArray)⟩ : S56) )) (Reps.c3 (show Kd.M k56 _ _ _ (⟨8, 2, (⟨#[]⟩ : ByteArray)⟩ : S56) [.int .i64 8, .int .i64 2, .string (⟨#[]⟩ : ByteArray)] from (k56_mkM _ _ _ (⟨8, 2, (⟨#[]⟩ : ByteArray)⟩ : S56) )) (Reps.c3 (show Kd.M k56 _ _ _ (⟨10, 2, (⟨#[]⟩ : ByteArray)⟩ : S56) [.int .i64 10, .int .i64 2, .string (⟨#[]⟩ : ByteArray)] from (k56_mkM _ _ _ (⟨10, 2, (⟨#[]⟩ : ByteArray)⟩ : S56) )) (Reps.none _ _))))))); intro v359 w23 ho24 hb hg_ hnew_; clear hg_ hnew_; (first | rw [← Ny358.out] at ho24 | (simp only [Int.reduceToNat] at ho24; rw [← Ny358.out] at ho24)); have n0_ := Aside0.mk (Kd.R_lower ho24 (below_size sq49)); have n1_ := Aside0.mk (below_step sq49 hb); clear HB; have HO360 := n0_; have HB := n1_; clear n0_ n1_; clear hb ho24) | ((with_reducible refine gate_dst (N := 15) rfl ?_); refine Kd.R_lit k59 _ 59 ?hg (N := 15) ?hd (xs := ([(⟨(⟨#[120]⟩ : ByteArray), 1⟩ : S59)] : List (S59))) (inner := [.string (⟨#[120]⟩ : ByteArray), .int .i64 1]) (ok := fun _ => True) (okp := fun _ => True) ?hr ?hp (fun _ hk => hk) trivial (Below.refl _ _) (Nat.le_refl _) (by simp) ?_; (case hd => rfl); (case hg => rfl); (case hr => first | (go_simp; done) | (go_simp; rfl)); (case hp => exact (Reps.c2 (show Kd.M k59 _ _ _ (⟨(⟨#[120]⟩ : ByteArray), 1⟩ : S59) [.string (⟨#[120]⟩ : ByteArray), .int .i64 1] from (k59_mkM _ _ _ (⟨(⟨#[120]⟩ : ByteArray), 1⟩ : S59) )) (Reps.none _ _))); intro v362 w25 ho26 hb hg_ hnew_; clear hg_ hnew_; (first | rw [← Ny361.out] at ho26 | (simp only [Int.reduceToNat] at ho26; rw [← Ny361.out] at ho26)); have n0_ := Aside0.mk (Kd.R_below sq24 hb); have n1_ := Aside0.mk (Kd.R_lower ho26 (below_size sq49)); have n2_ := Aside0.mk (below_step sq49 hb); clear HO360; clear HB; have HO360 := n0_; have HO363 := n1_; have HB := n2_; clear n0_ n1_ n2_; clear hb ho26; obtain ⟨Ao27, co27, eo27⟩ := Kd.R_slice HO360.out; subst eo27; obtain ⟨Ao28, co28, eo28⟩ := Kd.R_slice HO363.out; subst eo28) | ((with_reducible refine gate_callee (f := 10) rfl ?_); refine goesL_ (some 16) rfl rfl Try.func10 sq2 rfl #[.slice Ao27 y358.length co27, .slice Ao28 y361.length co28] rfl sq50 ?_; (with_reducible refine (kind_Of.calls k _ _ y358 _ _ y361 t364 t365 t366 _ ?side5 ?side1 ?side2 ?side3 ?side4 A1.out).mono ?_); (case side1 => repeat (first | exact (Kd.R_reads' HO360.out).2.2 | (with_reducible refine Kd.C_alloc ?_ _) | (with_reducible refine Kd.C_drewN ?_ _) | (with_reducible refine Kd.C_drew ?_))); (case side2 => exact (Kd.R_reads' HO360.out).2.1); (case side3 => repeat (first | exact (Kd.R_reads' HO363.out).2.2 | (with_reducible refine Kd.C_alloc ?_ _) | (with_reducible refine Kd.C_drewN ?_ _) | (with_reducible refine Kd.C_drew ?_))); (case side4 => exact (Kd.R_reads' HO363.out).2.1); (case side5 => exact Glob.below HG.out sq49); rintro e w29 ⟨rfl, hb⟩; refine ⟨_, rfl, ?_⟩; have n0_ := Aside0.mk (Kd.R_below sq24 hb); have n1_ := Aside0.mk (Kd.R_below sq25 hb); have n2_ := Aside0.mk (below_step sq49 hb); clear HO360; clear HO363; clear HB; have HO360 := n0_; have HO363 := n1_; have HB := n2_; clear n0_ n1_ n2_; (try clear hb); (try clear hb2); (try clear hk); (try clear hi)) | ((with_reducible refine gate_dst (N := 3) rfl ?_); refine box_event ?hg (N := 3) ?hd (cs := #[.int .i64 0, .int .i64 0]) (t := 28) ?hr ?_; (case hd => rfl); (case hg => rfl); (case hr => first | (go_simp; done) | (go_simp; rfl)); intro gb367 hg w30 hbox hb; have n0_ := Aside0.mk (Kd.R_below sq24 hb); have n1_ := Aside0.mk (Kd.R_below sq25 hb); have n2_ := Aside0.mk (below_step sq49 hb); have n3_ := Aside0.mk (hbox); have n4_ := Aside0.mk ((by rw [hg]; exact (below_size sq49) : w.heap.size ≤ gb367)); have n5_ := Aside0.mk ((by rw [hg]; exact (below_size sq49) : w.heap.size ≤ gb367)); clear HO360; clear HO363; clear HB; have HO360 := n0_; have HO363 := n1_; have HB := n2_; have BK367 := n3_; have GW367 := n4_; have GE367 := n5_; clear n0_ n1_ n2_ n3_ n4_ n5_; clear hb hbox hg; have hcz31_0 : w30.cell? ⟨gb367, 0, none⟩ = some (.int .i64 0) := (blk_cell BK367.out 0).trans rfl; have hcz31_1 : w30.cell? ⟨gb367, 1, none⟩ = some (.int .i64 0) := (blk_cell BK367.out 1).trans rfl; have hfz31_0 := blk_frozen BK367.out 0; have hfz31_1 := blk_frozen BK367.out 1) | ((with_reducible refine gate_dst (N := 22) rfl ?_); refine Kd.R_lit k59 _ 59 ?hg (N := 22) ?hd (xs := ([(⟨(⟨#[120]⟩ : ByteArray), 2⟩ : S59)] : List (S59))) (inner := [.string (⟨#[120]⟩ : ByteArray), .int .i64 2]) (ok := fun _ => True) (okp := fun _ => True) ?hr ?hp (fun _ hk => hk) trivial (Below.refl _ _) (Nat.le_refl _) (by simp) ?_; (case hd => rfl); (case hg => rfl); (case hr => first | (go_simp; done) | (go_simp; rfl)); (case hp => exact (Reps.c2 (show Kd.M k59 _ _ _ (⟨(⟨#[120]⟩ : ByteArray), 2⟩ : S59) [.string (⟨#[120]⟩ : ByteArray), .int .i64 2] from (k59_mkM _ _ _ (⟨(⟨#[120]⟩ : ByteArray), 2⟩ : S59) )) (Reps.none _ _))); intro v369 w32 ho33 hb hg_ hnew_; clear hg_ hnew_; (first | rw [← Ny368.out] at ho33 | (simp only [Int.reduceToNat] at ho33; rw [← Ny368.out] at ho33)); have n0_ := Aside0.mk (Kd.R_below sq101 hb); have n1_ := Aside0.mk (Kd.R_elder' sq102 (Kd.R_base ho33) hb); have n2_ := Aside0.mk (Kd.R_lower (Kd.R_new' ho33 (Kd.R_lt sq102)) (below_size sq73)); have n3_ := Aside0.mk (blk_below (g := gb367) (o := .cells #[.int .i64 t365, .int .i64 t366] 28 (0, 0)) sq128 hb); have n4_ := Aside0.mk (below_step sq73 hb); clear HO360; clear HO363; clear BK367; clear HB; have HO360 := n0_; have HO363 := n1_; have HO370 := n2_; have BK367 := n3_; have HB := n4_; clear n0_ n1_ n2_ n3_ n4_; clear hb ho33; obtain ⟨Ao34, co34, eo34⟩ := Kd.R_slice HO370.out; subst eo34) | ((with_reducible refine gate_callee (f := 10) rfl ?_); refine goesL_ (some 23) rfl rfl Try.func10 sq2 rfl #[.slice Ao27 y358.length co27, .slice Ao34 y368.length co34] rfl sq50 ?_; (with_reducible refine (kind_Of.calls k _ _ y358 _ _ y368 t371 t372 t373 _ ?side5 ?side1 ?side2 ?side3 ?side4 A2.out).mono ?_); (case side1 => repeat (first | exact (Kd.R_reads' HO360.out).2.2 | (with_reducible refine Kd.C_alloc ?_ _) | (with_reducible refine Kd.C_drewN ?_ _) | (with_reducible refine Kd.C_drew ?_))); (case side2 => exact (Kd.R_reads' HO360.out).2.1); (case side3 => repeat (first | exact (Kd.R_reads' HO370.out).2.2 | (with_reducible refine Kd.C_alloc ?_ _) | (with_reducible refine Kd.C_drewN ?_ _) | (with_reducible refine Kd.C_drew ?_))); (case side4 => exact (Kd.R_reads' HO370.out).2.1); (case side5 => exact Glob.below HG.out sq73); rintro e w35 ⟨rfl, hb⟩; refine ⟨_, rfl, ?_⟩; have n0_ := Aside0.mk (Kd.R_below sq24 hb); have n1_ := Aside0.mk (Kd.R_below sq25 hb); have n2_ := Aside0.mk (Kd.R_below sq26 hb); have n3_ := Aside0.mk (blk_below (g := gb367) (o := .cells #[.int .i64 t365, .int .i64 t366] 28 (0, 0)) sq46 hb); have n4_ := Aside0.mk (below_step sq73 hb); clear HO360; clear HO363; clear HO370; clear BK367; clear HB; have HO360 := n0_; have HO363 := n1_; have HO370 := n2_; have BK367 := n3_; have HB := n4_; clear n0_ n1_ n2_ n3_ n4_; (try clear hb); (try clear hb2); (try clear hk); (try clear hi)) | ((with_reducible refine gate_dst (N := 5) rfl ?_); refine box_event ?hg (N := 5) ?hd (cs := #[.int .i64 0, .int .i64 0]) (t := 28) ?hr ?_; (case hd => rfl); (case hg => rfl); (case hr => first | (go_simp; done) | (go_simp; rfl)); intro gb374 hg w36 hbox hb; have n0_ := Aside0.mk (Kd.R_below sq24 hb); have n1_ := Aside0.mk (Kd.R_below sq25 hb); have n2_ := Aside0.mk (Kd.R_below sq26 hb); have n3_ := Aside0.mk (blk_below (g := gb367) (o := .cells #[.int .i64 t365, .int .i64 t366] 28 (0, 0)) sq46 hb); have n4_ := Aside0.mk (below_step sq73 hb); have n5_ := Aside0.mk (hbox); have n6_ := Aside0.mk ((by rw [hg]; exact (below_size sq73) : w.heap.size ≤ gb374)); have n7_ := Aside0.mk ((by rw [hg]; exact (below_size sq73) : w.heap.size ≤ gb374)); have n8_ := Aside0.mk ((by rw [hg]; exact Nat.ne_of_lt (blk_lt (g := gb367) (o := .cells #[.int .i64 t365, .int .i64 t366] 28 (0, 0)) sq46) : gb367 ≠ gb374)); have n9_ := Aside0.mk ((by rw [hg]; exact Nat.ne_of_gt (blk_lt (g := gb367) (o := .cells #[.int .i64 t365, .int .i64 t366] 28 (0, 0)) sq46) : gb374 ≠ gb367)); clear HO360; clear HO363; clear HO370; clear BK367; clear HB; have HO360 := n0_; have HO363 := n1_; have HO370 := n2_; have BK367 := n3_; have HB := n4_; have BK374 := n5_; have GW374 := n6_; have GE374 := n7_; have NB367_374 := n8_; have NB374_367 := n9_; clear n0_ n1_ n2_ n3_ n4_ n5_ n6_ n7_ n8_ n9_; clear hb hbox hg; have hnb37 := NB374_367.out; have hnc37 := NB367_374.out; have hcz38_0 : w36.cell? ⟨gb374, 0, none⟩ = some (.int .i64 0) := (blk_cell BK374.out 0).trans rfl; have hcz38_1 : w36.cell? ⟨gb374, 1, none⟩ = some (.int .i64 0) := (blk_cell BK374.out 1).trans rfl; have hfz38_0 := blk_frozen BK374.out 0; have hfz38_1 := blk_frozen BK374.out 1; have hcz39_0 : w36.cell? ⟨gb367, 0, none⟩ = some (.int .i64 t365) := (blk_cell BK367.out 0).trans rfl; have hcz39_1 : w36.cell? ⟨gb367, 1, none⟩ = some (.int .i64 t366) := (blk_cell BK367.out 1).trans rfl; have hfz39_0 := blk_frozen BK367.out 0; have hfz39_1 := blk_frozen BK367.out 1))
   go_ret
   exact ⟨sq13, sq88⟩
  rw [if_neg c4] at H
  have c4b0 : (t365 == 0 && (t366 == 0)) = false := by simpa using c4
  (try (have c4b1 : decide (t365 = 0 && (t366 == 0)) = false := by simpa using c4))
  (try (have c4b2 : (t365 == 0 && (t366 == 0)) = false := by simpa using c4))
  (try (have c4b3 : ¬ (t365 = 0 && (t366 == 0)) := by simpa using c4))
  clear c4
  obtain rfl := Option.some.inj H
  go_enter Try.func20, Try.ntmps20
  go_wp2_with (first | ((with_reducible refine gate_dst (N := 11) rfl ?_); refine Kd.R_lit k56 _ 56 ?hg (N := 11) ?hd (xs := ([(⟨1, 0, (⟨#[49]⟩ : ByteArray)⟩ : S56), (⟨1, 0, (⟨#[50]⟩ : ByteArray)⟩ : S56), (⟨5, 0, (⟨#[120]⟩ : ByteArray)⟩ : S56), (⟨8, 2, (⟨#[]⟩ : ByteArray)⟩ : S56), (⟨10, 2, (⟨#[]⟩ : ByteArray)⟩ : S56)] : List (S56))) (inner := [.int .i64 1, .int .i64 0, .string (⟨#[49]⟩ : ByteArray), .int .i64 1, .int .i64 0, .string (⟨#[50]⟩ : ByteArray), .int .i64 5, .int .i64 0, .string (⟨#[120]⟩ : ByteArray), .int .i64 8, .int .i64 2, .string (⟨#[]⟩ : ByteArray), .int .i64 10, .int .i64 2, .string (⟨#[]⟩ : ByteArray)]) (ok := fun _ => True) (okp := fun _ => True) ?hr ?hp (fun _ hk => hk) trivial (Below.refl _ _) (Nat.le_refl _) (by simp) ?_; (case hd => rfl); (case hg => rfl); (case hr => first | (go_simp; done) | (go_simp; rfl)); (case hp => exact (Reps.c3 (show Kd.M k56 _ _ _ (⟨1, 0, (⟨#[49]⟩ : ByteArray)⟩ : S56) [.int .i64 1, .int .i64 0, .string (⟨#[49]⟩ : ByteArray)] from (k56_mkM _ _ _ (⟨1, 0, (⟨#[49]⟩ : ByteArray)⟩ : S56) )) (Reps.c3 (show Kd.M k56 _ _ _ (⟨1, 0, (⟨#[50]⟩ : ByteArray)⟩ : S56) [.int .i64 1, .int .i64 0, .string (⟨#[50]⟩ : ByteArray)] from (k56_mkM _ _ _ (⟨1, 0, (⟨#[50]⟩ : ByteArray)⟩ : S56) )) (Reps.c3 (show Kd.M k56 _ _ _ (⟨5, 0, (⟨#[120]⟩ : ByteArray)⟩ : S56) [.int .i64 5, .int .i64 0, .string (⟨#[120]⟩ : ByteArray)] from (k56_mkM _ _ _ (⟨5, 0, (⟨#[120]⟩ : ByteArray)⟩ : S56) )) (Reps.c3 (show Kd.M k56 _ _ _ (⟨8, 2, (⟨#[]⟩ : ByteArray)⟩ : S56) [.int .i64 8, .int .i64 2, .string (⟨#[]⟩ : ByteArray)] from (k56_mkM _ _ _ (⟨8, 2, (⟨#[]⟩ : ByteArray)⟩ : S56) )) (Reps.c3 (show Kd.M k56 _ _ _ (⟨10, 2, (⟨#[]⟩ : ByteArray)⟩ : S56) [.int .i64 10, .int .i64 2, .string (⟨#[]⟩ : ByteArray)] from (k56_mkM _ _ _ (⟨10, 2, (⟨#[]⟩ : ByteArray)⟩ : S56) )) (Reps.none _ _))))))); intro v359 w40 ho41 hb hg_ hnew_; clear hg_ hnew_; (first | rw [← Ny358.out] at ho41 | (simp only [Int.reduceToNat] at ho41; rw [← Ny358.out] at ho41)); have n0_ := Aside0.mk (Kd.R_lower ho41 (below_size sq49)); have n1_ := Aside0.mk (below_step sq49 hb); clear HB; have HO360 := n0_; have HB := n1_; clear n0_ n1_; clear hb ho41) | ((with_reducible refine gate_dst (N := 15) rfl ?_); refine Kd.R_lit k59 _ 59 ?hg (N := 15) ?hd (xs := ([(⟨(⟨#[120]⟩ : ByteArray), 1⟩ : S59)] : List (S59))) (inner := [.string (⟨#[120]⟩ : ByteArray), .int .i64 1]) (ok := fun _ => True) (okp := fun _ => True) ?hr ?hp (fun _ hk => hk) trivial (Below.refl _ _) (Nat.le_refl _) (by simp) ?_; (case hd => rfl); (case hg => rfl); (case hr => first | (go_simp; done) | (go_simp; rfl)); (case hp => exact (Reps.c2 (show Kd.M k59 _ _ _ (⟨(⟨#[120]⟩ : ByteArray), 1⟩ : S59) [.string (⟨#[120]⟩ : ByteArray), .int .i64 1] from (k59_mkM _ _ _ (⟨(⟨#[120]⟩ : ByteArray), 1⟩ : S59) )) (Reps.none _ _))); intro v362 w42 ho43 hb hg_ hnew_; clear hg_ hnew_; (first | rw [← Ny361.out] at ho43 | (simp only [Int.reduceToNat] at ho43; rw [← Ny361.out] at ho43)); have n0_ := Aside0.mk (Kd.R_below sq24 hb); have n1_ := Aside0.mk (Kd.R_lower ho43 (below_size sq49)); have n2_ := Aside0.mk (below_step sq49 hb); clear HO360; clear HB; have HO360 := n0_; have HO363 := n1_; have HB := n2_; clear n0_ n1_ n2_; clear hb ho43; obtain ⟨Ao44, co44, eo44⟩ := Kd.R_slice HO360.out; subst eo44; obtain ⟨Ao45, co45, eo45⟩ := Kd.R_slice HO363.out; subst eo45) | ((with_reducible refine gate_callee (f := 10) rfl ?_); refine goesL_ (some 16) rfl rfl Try.func10 sq2 rfl #[.slice Ao44 y358.length co44, .slice Ao45 y361.length co45] rfl sq50 ?_; (with_reducible refine (kind_Of.calls k _ _ y358 _ _ y361 t364 t365 t366 _ ?side5 ?side1 ?side2 ?side3 ?side4 A1.out).mono ?_); (case side1 => repeat (first | exact (Kd.R_reads' HO360.out).2.2 | (with_reducible refine Kd.C_alloc ?_ _) | (with_reducible refine Kd.C_drewN ?_ _) | (with_reducible refine Kd.C_drew ?_))); (case side2 => exact (Kd.R_reads' HO360.out).2.1); (case side3 => repeat (first | exact (Kd.R_reads' HO363.out).2.2 | (with_reducible refine Kd.C_alloc ?_ _) | (with_reducible refine Kd.C_drewN ?_ _) | (with_reducible refine Kd.C_drew ?_))); (case side4 => exact (Kd.R_reads' HO363.out).2.1); (case side5 => exact Glob.below HG.out sq49); rintro e w46 ⟨rfl, hb⟩; refine ⟨_, rfl, ?_⟩; have n0_ := Aside0.mk (Kd.R_below sq24 hb); have n1_ := Aside0.mk (Kd.R_below sq25 hb); have n2_ := Aside0.mk (below_step sq49 hb); clear HO360; clear HO363; clear HB; have HO360 := n0_; have HO363 := n1_; have HB := n2_; clear n0_ n1_ n2_; (try clear hb); (try clear hb2); (try clear hk); (try clear hi)) | ((with_reducible refine gate_dst (N := 3) rfl ?_); refine box_event ?hg (N := 3) ?hd (cs := #[.int .i64 0, .int .i64 0]) (t := 28) ?hr ?_; (case hd => rfl); (case hg => rfl); (case hr => first | (go_simp; done) | (go_simp; rfl)); intro gb367 hg w47 hbox hb; have n0_ := Aside0.mk (Kd.R_below sq24 hb); have n1_ := Aside0.mk (Kd.R_below sq25 hb); have n2_ := Aside0.mk (below_step sq49 hb); have n3_ := Aside0.mk (hbox); have n4_ := Aside0.mk ((by rw [hg]; exact (below_size sq49) : w.heap.size ≤ gb367)); have n5_ := Aside0.mk ((by rw [hg]; exact (below_size sq49) : w.heap.size ≤ gb367)); clear HO360; clear HO363; clear HB; have HO360 := n0_; have HO363 := n1_; have HB := n2_; have BK367 := n3_; have GW367 := n4_; have GE367 := n5_; clear n0_ n1_ n2_ n3_ n4_ n5_; clear hb hbox hg; have hcz48_0 : w47.cell? ⟨gb367, 0, none⟩ = some (.int .i64 0) := (blk_cell BK367.out 0).trans rfl; have hcz48_1 : w47.cell? ⟨gb367, 1, none⟩ = some (.int .i64 0) := (blk_cell BK367.out 1).trans rfl; have hfz48_0 := blk_frozen BK367.out 0; have hfz48_1 := blk_frozen BK367.out 1) | ((with_reducible refine gate_dst (N := 22) rfl ?_); refine Kd.R_lit k59 _ 59 ?hg (N := 22) ?hd (xs := ([(⟨(⟨#[120]⟩ : ByteArray), 2⟩ : S59)] : List (S59))) (inner := [.string (⟨#[120]⟩ : ByteArray), .int .i64 2]) (ok := fun _ => True) (okp := fun _ => True) ?hr ?hp (fun _ hk => hk) trivial (Below.refl _ _) (Nat.le_refl _) (by simp) ?_; (case hd => rfl); (case hg => rfl); (case hr => first | (go_simp; done) | (go_simp; rfl)); (case hp => exact (Reps.c2 (show Kd.M k59 _ _ _ (⟨(⟨#[120]⟩ : ByteArray), 2⟩ : S59) [.string (⟨#[120]⟩ : ByteArray), .int .i64 2] from (k59_mkM _ _ _ (⟨(⟨#[120]⟩ : ByteArray), 2⟩ : S59) )) (Reps.none _ _))); intro v369 w49 ho50 hb hg_ hnew_; clear hg_ hnew_; (first | rw [← Ny368.out] at ho50 | (simp only [Int.reduceToNat] at ho50; rw [← Ny368.out] at ho50)); have n0_ := Aside0.mk (Kd.R_below sq101 hb); have n1_ := Aside0.mk (Kd.R_elder' sq102 (Kd.R_base ho50) hb); have n2_ := Aside0.mk (Kd.R_lower (Kd.R_new' ho50 (Kd.R_lt sq102)) (below_size sq73)); have n3_ := Aside0.mk (blk_below (g := gb367) (o := .cells #[.int .i64 t365, .int .i64 t366] 28 (0, 0)) sq128 hb); have n4_ := Aside0.mk (below_step sq73 hb); clear HO360; clear HO363; clear BK367; clear HB; have HO360 := n0_; have HO363 := n1_; have HO370 := n2_; have BK367 := n3_; have HB := n4_; clear n0_ n1_ n2_ n3_ n4_; clear hb ho50; obtain ⟨Ao51, co51, eo51⟩ := Kd.R_slice HO370.out; subst eo51) | ((with_reducible refine gate_callee (f := 10) rfl ?_); refine goesL_ (some 23) rfl rfl Try.func10 sq2 rfl #[.slice Ao44 y358.length co44, .slice Ao51 y368.length co51] rfl sq50 ?_; (with_reducible refine (kind_Of.calls k _ _ y358 _ _ y368 t371 t372 t373 _ ?side5 ?side1 ?side2 ?side3 ?side4 A2.out).mono ?_); (case side1 => repeat (first | exact (Kd.R_reads' HO360.out).2.2 | (with_reducible refine Kd.C_alloc ?_ _) | (with_reducible refine Kd.C_drewN ?_ _) | (with_reducible refine Kd.C_drew ?_))); (case side2 => exact (Kd.R_reads' HO360.out).2.1); (case side3 => repeat (first | exact (Kd.R_reads' HO370.out).2.2 | (with_reducible refine Kd.C_alloc ?_ _) | (with_reducible refine Kd.C_drewN ?_ _) | (with_reducible refine Kd.C_drew ?_))); (case side4 => exact (Kd.R_reads' HO370.out).2.1); (case side5 => exact Glob.below HG.out sq73); rintro e w52 ⟨rfl, hb⟩; refine ⟨_, rfl, ?_⟩; have n0_ := Aside0.mk (Kd.R_below sq24 hb); have n1_ := Aside0.mk (Kd.R_below sq25 hb); have n2_ := Aside0.mk (Kd.R_below sq26 hb); have n3_ := Aside0.mk (blk_below (g := gb367) (o := .cells #[.int .i64 t365, .int .i64 t366] 28 (0, 0)) sq46 hb); have n4_ := Aside0.mk (below_step sq73 hb); clear HO360; clear HO363; clear HO370; clear BK367; clear HB; have HO360 := n0_; have HO363 := n1_; have HO370 := n2_; have BK367 := n3_; have HB := n4_; clear n0_ n1_ n2_ n3_ n4_; (try clear hb); (try clear hb2); (try clear hk); (try clear hi)) | ((with_reducible refine gate_dst (N := 5) rfl ?_); refine box_event ?hg (N := 5) ?hd (cs := #[.int .i64 0, .int .i64 0]) (t := 28) ?hr ?_; (case hd => rfl); (case hg => rfl); (case hr => first | (go_simp; done) | (go_simp; rfl)); intro gb374 hg w53 hbox hb; have n0_ := Aside0.mk (Kd.R_below sq24 hb); have n1_ := Aside0.mk (Kd.R_below sq25 hb); have n2_ := Aside0.mk (Kd.R_below sq26 hb); have n3_ := Aside0.mk (blk_below (g := gb367) (o := .cells #[.int .i64 t365, .int .i64 t366] 28 (0, 0)) sq46 hb); have n4_ := Aside0.mk (below_step sq73 hb); have n5_ := Aside0.mk (hbox); have n6_ := Aside0.mk ((by rw [hg]; exact (below_size sq73) : w.heap.size ≤ gb374)); have n7_ := Aside0.mk ((by rw [hg]; exact (below_size sq73) : w.heap.size ≤ gb374)); have n8_ := Aside0.mk ((by rw [hg]; exact Nat.ne_of_lt (blk_lt (g := gb367) (o := .cells #[.int .i64 t365, .int .i64 t366] 28 (0, 0)) sq46) : gb367 ≠ gb374)); have n9_ := Aside0.mk ((by rw [hg]; exact Nat.ne_of_gt (blk_lt (g := gb367) (o := .cells #[.int .i64 t365, .int .i64 t366] 28 (0, 0)) sq46) : gb374 ≠ gb367)); clear HO360; clear HO363; clear HO370; clear BK367; clear HB; have HO360 := n0_; have HO363 := n1_; have HO370 := n2_; have BK367 := n3_; have HB := n4_; have BK374 := n5_; have GW374 := n6_; have GE374 := n7_; have NB367_374 := n8_; have NB374_367 := n9_; clear n0_ n1_ n2_ n3_ n4_ n5_ n6_ n7_ n8_ n9_; clear hb hbox hg; have hnb54 := NB374_367.out; have hnc54 := NB367_374.out; have hcz55_0 : w53.cell? ⟨gb374, 0, none⟩ = some (.int .i64 0) := (blk_cell BK374.out 0).trans rfl; have hcz55_1 : w53.cell? ⟨gb374, 1, none⟩ = some (.int .i64 0) := (blk_cell BK374.out 1).trans rfl; have hfz55_0 := blk_frozen BK374.out 0; have hfz55_1 := blk_frozen BK374.out 1; have hcz56_0 : w53.cell? ⟨gb367, 0, none⟩ = some (.int .i64 t365) := (blk_cell BK367.out 0).trans rfl; have hcz56_1 : w53.cell? ⟨gb367, 1, none⟩ = some (.int .i64 t366) := (blk_cell BK367.out 1).trans rfl; have hfz56_0 := blk_frozen BK367.out 0; have hfz56_1 := blk_frozen BK367.out 1))
  go_ret
  exact ⟨sq13, sq88⟩
 rw [if_neg c3] at H
 have c3b0 : (t364 == 1) = false := beq_eq_false_iff_ne.mpr c3
 have c3b1 : (t364 != 1) = true := bne_iff_ne.mpr c3
 obtain rfl := Option.some.inj H
 go_enter Try.func20, Try.ntmps20
 go_wp2_with (first | ((with_reducible refine gate_dst (N := 11) rfl ?_); refine Kd.R_lit k56 _ 56 ?hg (N := 11) ?hd (xs := ([(⟨1, 0, (⟨#[49]⟩ : ByteArray)⟩ : S56), (⟨1, 0, (⟨#[50]⟩ : ByteArray)⟩ : S56), (⟨5, 0, (⟨#[120]⟩ : ByteArray)⟩ : S56), (⟨8, 2, (⟨#[]⟩ : ByteArray)⟩ : S56), (⟨10, 2, (⟨#[]⟩ : ByteArray)⟩ : S56)] : List (S56))) (inner := [.int .i64 1, .int .i64 0, .string (⟨#[49]⟩ : ByteArray), .int .i64 1, .int .i64 0, .string (⟨#[50]⟩ : ByteArray), .int .i64 5, .int .i64 0, .string (⟨#[120]⟩ : ByteArray), .int .i64 8, .int .i64 2, .string (⟨#[]⟩ : ByteArray), .int .i64 10, .int .i64 2, .string (⟨#[]⟩ : ByteArray)]) (ok := fun _ => True) (okp := fun _ => True) ?hr ?hp (fun _ hk => hk) trivial (Below.refl _ _) (Nat.le_refl _) (by simp) ?_; (case hd => rfl); (case hg => rfl); (case hr => first | (go_simp; done) | (go_simp; rfl)); (case hp => exact (Reps.c3 (show Kd.M k56 _ _ _ (⟨1, 0, (⟨#[49]⟩ : ByteArray)⟩ : S56) [.int .i64 1, .int .i64 0, .string (⟨#[49]⟩ : ByteArray)] from (k56_mkM _ _ _ (⟨1, 0, (⟨#[49]⟩ : ByteArray)⟩ : S56) )) (Reps.c3 (show Kd.M k56 _ _ _ (⟨1, 0, (⟨#[50]⟩ : ByteArray)⟩ : S56) [.int .i64 1, .int .i64 0, .string (⟨#[50]⟩ : ByteArray)] from (k56_mkM _ _ _ (⟨1, 0, (⟨#[50]⟩ : ByteArray)⟩ : S56) )) (Reps.c3 (show Kd.M k56 _ _ _ (⟨5, 0, (⟨#[120]⟩ : ByteArray)⟩ : S56) [.int .i64 5, .int .i64 0, .string (⟨#[120]⟩ : ByteArray)] from (k56_mkM _ _ _ (⟨5, 0, (⟨#[120]⟩ : ByteArray)⟩ : S56) )) (Reps.c3 (show Kd.M k56 _ _ _ (⟨8, 2, (⟨#[]⟩ : ByteArray)⟩ : S56) [.int .i64 8, .int .i64 2, .string (⟨#[]⟩ : ByteArray)] from (k56_mkM _ _ _ (⟨8, 2, (⟨#[]⟩ : ByteArray)⟩ : S56) )) (Reps.c3 (show Kd.M k56 _ _ _ (⟨10, 2, (⟨#[]⟩ : ByteArray)⟩ : S56) [.int .i64 10, .int .i64 2, .string (⟨#[]⟩ : ByteArray)] from (k56_mkM _ _ _ (⟨10, 2, (⟨#[]⟩ : ByteArray)⟩ : S56) )) (Reps.none _ _))))))); intro v359 w57 ho58 hb hg_ hnew_; clear hg_ hnew_; (first | rw [← Ny358.out] at ho58 | (simp only [Int.reduceToNat] at ho58; rw [← Ny358.out] at ho58)); have n0_ := Aside0.mk (Kd.R_lower ho58 (below_size sq49)); have n1_ := Aside0.mk (below_step sq49 hb); clear HB; have HO360 := n0_; have HB := n1_; clear n0_ n1_; clear hb ho58) | ((with_reducible refine gate_dst (N := 15) rfl ?_); refine Kd.R_lit k59 _ 59 ?hg (N := 15) ?hd (xs := ([(⟨(⟨#[120]⟩ : ByteArray), 1⟩ : S59)] : List (S59))) (inner := [.string (⟨#[120]⟩ : ByteArray), .int .i64 1]) (ok := fun _ => True) (okp := fun _ => True) ?hr ?hp (fun _ hk => hk) trivial (Below.refl _ _) (Nat.le_refl _) (by simp) ?_; (case hd => rfl); (case hg => rfl); (case hr => first | (go_simp; done) | (go_simp; rfl)); (case hp => exact (Reps.c2 (show Kd.M k59 _ _ _ (⟨(⟨#[120]⟩ : ByteArray), 1⟩ : S59) [.string (⟨#[120]⟩ : ByteArray), .int .i64 1] from (k59_mkM _ _ _ (⟨(⟨#[120]⟩ : ByteArray), 1⟩ : S59) )) (Reps.none _ _))); intro v362 w59 ho60 hb hg_ hnew_; clear hg_ hnew_; (first | rw [← Ny361.out] at ho60 | (simp only [Int.reduceToNat] at ho60; rw [← Ny361.out] at ho60)); have n0_ := Aside0.mk (Kd.R_below sq24 hb); have n1_ := Aside0.mk (Kd.R_lower ho60 (below_size sq49)); have n2_ := Aside0.mk (below_step sq49 hb); clear HO360; clear HB; have HO360 := n0_; have HO363 := n1_; have HB := n2_; clear n0_ n1_ n2_; clear hb ho60; obtain ⟨Ao61, co61, eo61⟩ := Kd.R_slice HO360.out; subst eo61; obtain ⟨Ao62, co62, eo62⟩ := Kd.R_slice HO363.out; subst eo62) | ((with_reducible refine gate_callee (f := 10) rfl ?_); refine goesL_ (some 16) rfl rfl Try.func10 sq2 rfl #[.slice Ao61 y358.length co61, .slice Ao62 y361.length co62] rfl sq50 ?_; (with_reducible refine (kind_Of.calls k _ _ y358 _ _ y361 t364 t365 t366 _ ?side5 ?side1 ?side2 ?side3 ?side4 A1.out).mono ?_); (case side1 => repeat (first | exact (Kd.R_reads' HO360.out).2.2 | (with_reducible refine Kd.C_alloc ?_ _) | (with_reducible refine Kd.C_drewN ?_ _) | (with_reducible refine Kd.C_drew ?_))); (case side2 => exact (Kd.R_reads' HO360.out).2.1); (case side3 => repeat (first | exact (Kd.R_reads' HO363.out).2.2 | (with_reducible refine Kd.C_alloc ?_ _) | (with_reducible refine Kd.C_drewN ?_ _) | (with_reducible refine Kd.C_drew ?_))); (case side4 => exact (Kd.R_reads' HO363.out).2.1); (case side5 => exact Glob.below HG.out sq49); rintro e w63 ⟨rfl, hb⟩; refine ⟨_, rfl, ?_⟩; have n0_ := Aside0.mk (Kd.R_below sq24 hb); have n1_ := Aside0.mk (Kd.R_below sq25 hb); have n2_ := Aside0.mk (below_step sq49 hb); clear HO360; clear HO363; clear HB; have HO360 := n0_; have HO363 := n1_; have HB := n2_; clear n0_ n1_ n2_; (try clear hb); (try clear hb2); (try clear hk); (try clear hi)) | ((with_reducible refine gate_dst (N := 3) rfl ?_); refine box_event ?hg (N := 3) ?hd (cs := #[.int .i64 0, .int .i64 0]) (t := 28) ?hr ?_; (case hd => rfl); (case hg => rfl); (case hr => first | (go_simp; done) | (go_simp; rfl)); intro gb367 hg w64 hbox hb; have n0_ := Aside0.mk (Kd.R_below sq24 hb); have n1_ := Aside0.mk (Kd.R_below sq25 hb); have n2_ := Aside0.mk (below_step sq49 hb); have n3_ := Aside0.mk (hbox); have n4_ := Aside0.mk ((by rw [hg]; exact (below_size sq49) : w.heap.size ≤ gb367)); have n5_ := Aside0.mk ((by rw [hg]; exact (below_size sq49) : w.heap.size ≤ gb367)); clear HO360; clear HO363; clear HB; have HO360 := n0_; have HO363 := n1_; have HB := n2_; have BK367 := n3_; have GW367 := n4_; have GE367 := n5_; clear n0_ n1_ n2_ n3_ n4_ n5_; clear hb hbox hg; have hcz65_0 : w64.cell? ⟨gb367, 0, none⟩ = some (.int .i64 0) := (blk_cell BK367.out 0).trans rfl; have hcz65_1 : w64.cell? ⟨gb367, 1, none⟩ = some (.int .i64 0) := (blk_cell BK367.out 1).trans rfl; have hfz65_0 := blk_frozen BK367.out 0; have hfz65_1 := blk_frozen BK367.out 1) | ((with_reducible refine gate_dst (N := 22) rfl ?_); refine Kd.R_lit k59 _ 59 ?hg (N := 22) ?hd (xs := ([(⟨(⟨#[120]⟩ : ByteArray), 2⟩ : S59)] : List (S59))) (inner := [.string (⟨#[120]⟩ : ByteArray), .int .i64 2]) (ok := fun _ => True) (okp := fun _ => True) ?hr ?hp (fun _ hk => hk) trivial (Below.refl _ _) (Nat.le_refl _) (by simp) ?_; (case hd => rfl); (case hg => rfl); (case hr => first | (go_simp; done) | (go_simp; rfl)); (case hp => exact (Reps.c2 (show Kd.M k59 _ _ _ (⟨(⟨#[120]⟩ : ByteArray), 2⟩ : S59) [.string (⟨#[120]⟩ : ByteArray), .int .i64 2] from (k59_mkM _ _ _ (⟨(⟨#[120]⟩ : ByteArray), 2⟩ : S59) )) (Reps.none _ _))); intro v369 w66 ho67 hb hg_ hnew_; clear hg_ hnew_; (first | rw [← Ny368.out] at ho67 | (simp only [Int.reduceToNat] at ho67; rw [← Ny368.out] at ho67)); have n0_ := Aside0.mk (Kd.R_below sq101 hb); have n1_ := Aside0.mk (Kd.R_elder' sq102 (Kd.R_base ho67) hb); have n2_ := Aside0.mk (Kd.R_lower (Kd.R_new' ho67 (Kd.R_lt sq102)) (below_size sq73)); have n3_ := Aside0.mk (blk_below (g := gb367) (o := .cells #[.int .i64 t365, .int .i64 t366] 28 (0, 0)) sq128 hb); have n4_ := Aside0.mk (below_step sq73 hb); clear HO360; clear HO363; clear BK367; clear HB; have HO360 := n0_; have HO363 := n1_; have HO370 := n2_; have BK367 := n3_; have HB := n4_; clear n0_ n1_ n2_ n3_ n4_; clear hb ho67; obtain ⟨Ao68, co68, eo68⟩ := Kd.R_slice HO370.out; subst eo68) | ((with_reducible refine gate_callee (f := 10) rfl ?_); refine goesL_ (some 23) rfl rfl Try.func10 sq2 rfl #[.slice Ao61 y358.length co61, .slice Ao68 y368.length co68] rfl sq50 ?_; (with_reducible refine (kind_Of.calls k _ _ y358 _ _ y368 t371 t372 t373 _ ?side5 ?side1 ?side2 ?side3 ?side4 A2.out).mono ?_); (case side1 => repeat (first | exact (Kd.R_reads' HO360.out).2.2 | (with_reducible refine Kd.C_alloc ?_ _) | (with_reducible refine Kd.C_drewN ?_ _) | (with_reducible refine Kd.C_drew ?_))); (case side2 => exact (Kd.R_reads' HO360.out).2.1); (case side3 => repeat (first | exact (Kd.R_reads' HO370.out).2.2 | (with_reducible refine Kd.C_alloc ?_ _) | (with_reducible refine Kd.C_drewN ?_ _) | (with_reducible refine Kd.C_drew ?_))); (case side4 => exact (Kd.R_reads' HO370.out).2.1); (case side5 => exact Glob.below HG.out sq73); rintro e w69 ⟨rfl, hb⟩; refine ⟨_, rfl, ?_⟩; have n0_ := Aside0.mk (Kd.R_below sq24 hb); have n1_ := Aside0.mk (Kd.R_below sq25 hb); have n2_ := Aside0.mk (Kd.R_below sq26 hb); have n3_ := Aside0.mk (blk_below (g := gb367) (o := .cells #[.int .i64 t365, .int .i64 t366] 28 (0, 0)) sq46 hb); have n4_ := Aside0.mk (below_step sq73 hb); clear HO360; clear HO363; clear HO370; clear BK367; clear HB; have HO360 := n0_; have HO363 := n1_; have HO370 := n2_; have BK367 := n3_; have HB := n4_; clear n0_ n1_ n2_ n3_ n4_; (try clear hb); (try clear hb2); (try clear hk); (try clear hi)) | ((with_reducible refine gate_dst (N := 5) rfl ?_); refine box_event ?hg (N := 5) ?hd (cs := #[.int .i64 0, .int .i64 0]) (t := 28) ?hr ?_; (case hd => rfl); (case hg => rfl); (case hr => first | (go_simp; done) | (go_simp; rfl)); intro gb374 hg w70 hbox hb; have n0_ := Aside0.mk (Kd.R_below sq24 hb); have n1_ := Aside0.mk (Kd.R_below sq25 hb); have n2_ := Aside0.mk (Kd.R_below sq26 hb); have n3_ := Aside0.mk (blk_below (g := gb367) (o := .cells #[.int .i64 t365, .int .i64 t366] 28 (0, 0)) sq46 hb); have n4_ := Aside0.mk (below_step sq73 hb); have n5_ := Aside0.mk (hbox); have n6_ := Aside0.mk ((by rw [hg]; exact (below_size sq73) : w.heap.size ≤ gb374)); have n7_ := Aside0.mk ((by rw [hg]; exact (below_size sq73) : w.heap.size ≤ gb374)); have n8_ := Aside0.mk ((by rw [hg]; exact Nat.ne_of_lt (blk_lt (g := gb367) (o := .cells #[.int .i64 t365, .int .i64 t366] 28 (0, 0)) sq46) : gb367 ≠ gb374)); have n9_ := Aside0.mk ((by rw [hg]; exact Nat.ne_of_gt (blk_lt (g := gb367) (o := .cells #[.int .i64 t365, .int .i64 t366] 28 (0, 0)) sq46) : gb374 ≠ gb367)); clear HO360; clear HO363; clear HO370; clear BK367; clear HB; have HO360 := n0_; have HO363 := n1_; have HO370 := n2_; have BK367 := n3_; have HB := n4_; have BK374 := n5_; have GW374 := n6_; have GE374 := n7_; have NB367_374 := n8_; have NB374_367 := n9_; clear n0_ n1_ n2_ n3_ n4_ n5_ n6_ n7_ n8_ n9_; clear hb hbox hg; have hnb71 := NB374_367.out; have hnc71 := NB367_374.out; have hcz72_0 : w70.cell? ⟨gb374, 0, none⟩ = some (.int .i64 0) := (blk_cell BK374.out 0).trans rfl; have hcz72_1 : w70.cell? ⟨gb374, 1, none⟩ = some (.int .i64 0) := (blk_cell BK374.out 1).trans rfl; have hfz72_0 := blk_frozen BK374.out 0; have hfz72_1 := blk_frozen BK374.out 1))
 go_ret
 exact ⟨sq13, sq88⟩

end Go.Proofs.Ytpfnnamicbbobaa.PAll
