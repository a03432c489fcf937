-- Written by a program of this session (wip/tools/print2.sh): functions as plain Lean, and that the machine's calls do what they say.
import Derived.Test.YtaogejkmkalnlaaPAllx0
import Derived.Test.YtaogejkmkalnlaaPAllx1
import Derived.Test.YtaogejkmkalnlaaPAllx11
import Derived.Test.YtaogejkmkalnlaaPAllx13
namespace Go.Proofs.Ytaogejkmkalnlaa.PAll
open Go.RowKit Go.Proofs.YtaogejkmkalnlaaW.PrintWords Go.Proofs.YtaogejkmkalnlaaW.PrintLast Go.Proofs.YtaogejkmkalnlaaW.PrintMore
attribute [local go_sem] max2_int min2_int max_two min_two max_three min_three max_four min_four   -- for this text's walks alone
set_option linter.unusedVariables false
set_option linter.unusedSimpArgs false

attribute [local go_sem high] eqA43
/-! ### tontineref17_Parts: function 12 -/
mutual
def tontineref17_Parts.j0 : Nat → List (S43) → Int → Bool → Option (List Int)
 | 0, _, _, _ => none
 | k + 1, x0, x1, x26 => if x26 = true then (some ([] : List Int)) else (if 0 ≤ x1 then (if x1 < (x0.length : Int) then (if 0 ≤ ((rd_T43 x0 x1).f1) then (if ((rd_T43 x0 x1).f1 : Int).toNat ≤ 35184372088832 then (tontineref17_Parts.l0 k x0 (List.replicate ((rd_T43 x0 x1).f1 : Int).toNat 0) (wrap64 (x1 - 1)) (wrap64 (((rd_T43 x0 x1).f1) - 1))) else (none)) else (none)) else (none)) else (none))
def tontineref17_Parts.l0 : Nat → List (S43) → List Int → Int → Int → Option (List Int)
 | 0, _, _, _, _ => none
 | k + 1, x0, x7, x8, x9 => if x9 ≥ 0 then (if 0 ≤ x9 then (if x9 < (x7.length : Int) then ((tontineref17_whole.f k x0 x8).bind fun t283 => (tontineref17_Parts.l0 k x0 (x7.set (x9 : Int).toNat x8) (wrap64 (x8 - t283)) (wrap64 (x9 - 1)))) else (none)) else (none)) else (some x7)
end
def tontineref17_Parts.f (k : Nat) (l0 : List (S43)) (a1 : Int) : Option (List Int) := (tontineref17_Right.f k l0).bind fun bt275 => (if bt275.1 = true then (if a1 < 0 then (tontineref17_Parts.j0 k l0 a1 true) else (tontineref17_Parts.j0 k l0 a1 (decide (a1 ≥ (l0.length : Int))))) else (tontineref17_Parts.j0 k l0 a1 true))
theorem tontineref17_Parts.mono_l : ∀ k, (∀ y0 y1 y2, LeO (tontineref17_Parts.j0 k y0 y1 y2) (tontineref17_Parts.j0 (k + 1) y0 y1 y2)) ∧ (∀ y0 y1 y2 y3, LeO (tontineref17_Parts.l0 k y0 y1 y2 y3) (tontineref17_Parts.l0 (k + 1) y0 y1 y2 y3))
 | 0 => ⟨fun _ _ _ r h => by simp [tontineref17_Parts.j0] at h, fun _ _ _ _ r h => by simp [tontineref17_Parts.l0] at h⟩
 | k + 1 => by
  obtain ⟨ih0, ih1⟩ := tontineref17_Parts.mono_l k
  refine ⟨?_, ?_⟩
  ·intro y0 y1 y2
   unfold tontineref17_Parts.j0
   exact sq108
  intro y0 y1 y2 y3
  unfold tontineref17_Parts.l0
  exact sq108
theorem tontineref17_Parts.mono : ∀ a0 a1 k, LeO (tontineref17_Parts.f k a0 a1) (tontineref17_Parts.f (k + 1) a0 a1) := by
 intro a0 a1 k
 obtain ⟨ih0, ih1⟩ := tontineref17_Parts.mono_l k
 unfold tontineref17_Parts.f
 exact sq108
set_option maxHeartbeats 8000000 in
set_option maxRecDepth 100000 in
theorem tontineref17_Parts.calls (k : Nat) (A0 : Option Addr) (c0 : Nat) (l0 : List (S43)) (a1 : Int) (r : List Int) (w : World) (hr0 : Kd.C k43 w A0 l0.length l0) (hc0 : l0.length ≤ c0) (h : tontineref17_Parts.f k l0 a1 = some r) :
  Calls Try.prog 12 #[.slice A0 l0.length c0, .int .i64 a1] w fun e w' => ∃ v0_ : Value, e = .returned (v0_) ∧ Kd.R (Kd.int .i64) 3 w' w.heap.size (fun _ => True) v0_ r ∧ Below w.heap.size w w' := by
 have HR0 := Aside0.mk hr0
 have HC0 := Aside0.mk hc0
 clear hr0 hc0
 have HB := Aside0.mk (Below.refl w.heap.size w)
 have H : ((tontineref17_Right.f k l0).bind fun bt275 => (if bt275.1 = true then (if a1 < 0 then (tontineref17_Parts.j0 k l0 a1 true) else (tontineref17_Parts.j0 k l0 a1 (decide (a1 ≥ (l0.length : Int))))) else (tontineref17_Parts.j0 k l0 a1 true))) = some r := h
 clear h
 replace H := Option.bind_eq_some_iff.mp H
 obtain ⟨⟨t275, t276⟩, A30, H⟩ := H
 replace H : (if t275 = true then (if a1 < 0 then (tontineref17_Parts.j0 k l0 a1 true) else (tontineref17_Parts.j0 k l0 a1 (decide (a1 ≥ (l0.length : Int))))) else (tontineref17_Parts.j0 k l0 a1 true)) = some r := H
 have A3 := Aside0.mk A30
 clear A30
 have HC4 := Aside0.mk H
 clear H
 go_enter Try.func12, Try.ntmps12
 go_upto_region 2 with (first | ((with_reducible refine gate_callee (f := 21) rfl ?_); refine goesL_ (some 12) rfl rfl Try.func21 sq1 rfl #[.slice A0 l0.length c0] rfl sq56 ?_; (with_reducible refine (tontineref17_Right.calls k _ _ l0 t275 t276 _ ?side1 ?side2 A3.out).mono ?_); (case side1 => repeat (first | exact HR0.out | (with_reducible refine Kd.C_alloc ?_ _) | (with_reducible refine Kd.C_drewN ?_ _) | (with_reducible refine Kd.C_drew ?_))); (case side2 => exact HC0.out); rintro e w5 ⟨rfl, hb⟩; refine ⟨_, rfl, ?_⟩; have n0_ := Aside0.mk (below_step sq55 hb); clear HB; have HB := n0_; clear n0_; (try clear hb); (try clear hb2); (try clear hk); (try clear hi)))
 (try simp only [Act.put, List.setIfInBounds_toArray, List.set_cons_zero, List.set_cons_succ])
 go_cut [26] (fun v26 wc => ∃ (kq : Nat) (x26_3 : Bool), v26 = .bool x26_3 ∧ Aside0 (tontineref17_Parts.j0 kq l0 a1 x26_3 = some r) ∧ Aside0 (kq ≤ k) ∧ Aside0 (Below w.heap.size w wc))
 case first =>
  have H := HC4.out
  clear HC4
  by_cases c6 : t275 = true
  ·subst c6
   replace H := (itT_ _ _).symm.trans H
   by_cases c7 : a1 < 0
   ·rw [if_pos c7] at H
    have c7b0 : decide (a1 < 0) = true := decide_eq_true c7; clear c7
    (first | rw [c7b0] | (simp only [i64_w, i32_w]; rw [c7b0]) | skip)
    have H' := Aside0.mk H
    clear H
    go_wp2
    go_meet
    case rel => exact ⟨_, (true), sq4, H', ⟨sq2⟩, ⟨sq55⟩⟩
   rw [if_neg c7] at H
   have c7b0 : decide (a1 < 0) = false := decide_eq_false c7; clear c7
   (first | rw [c7b0] | (simp only [i64_w, i32_w]; rw [c7b0]) | skip)
   have H' := Aside0.mk H
   clear H
   go_wp2
   go_meet
   case rel => exact ⟨_, (decide (a1 ≥ (l0.length : Int))), sq4, H', ⟨sq2⟩, ⟨sq55⟩⟩
  replace c6 := Bool.eq_false_iff.mpr c6
  subst c6
  replace H := (itF_ _ _).symm.trans H
  have H' := Aside0.mk H
  clear H
  go_wp2
  go_meet
  case rel => exact ⟨_, (true), sq4, H', ⟨sq2⟩, ⟨sq55⟩⟩
 case rest =>
  clear HC4; try clear c1; try clear c2; try clear p2; try clear c6; try clear c7; try clear c7b0
  obtain ⟨kq, x26_3, rfl, HA, HJ3, HB⟩ := hcut
  cases kq with
  | zero => exact absurd HA.out (by simp [tontineref17_Parts.j0])
  | succ kj3 =>
   have H := HA.out
   clear HA
   simp only [tontineref17_Parts.j0] at H
   by_cases c8 : x26_3 = true
   ·subst c8
    replace H := (itT_ _ _).symm.trans H
    obtain rfl := Option.some.inj H
    go_wp2
    go_ret
    exact ⟨_, sq23, sq57, sq55⟩
   replace c8 := Bool.eq_false_iff.mpr c8
   subst c8
   replace H := (itF_ _ _).symm.trans H
   by_cases c9 : 0 ≤ a1
   ·rw [if_pos c9] at H
    have c9b0 : decide (0 ≤ a1) = true := decide_eq_true c9; clear c9
    by_cases c10 : a1 < (l0.length : Int)
    ·rw [if_pos c10] at H
     have c10b0 : decide (a1 < (l0.length : Int)) = true := decide_eq_true c10; clear c10
     by_cases c11 : 0 ≤ ((rd_T43 l0 a1).f1)
     ·rw [if_pos c11] at H
      have c11b0 := eq_true c11
      have c11b1 : decide (0 ≤ ((rd_T43 l0 a1).f1)) = true := decide_eq_true c11
      clear c11
      by_cases c12 : ((rd_T43 l0 a1).f1 : Int).toNat ≤ 35184372088832
      ·rw [if_pos c12] at H
       have c12b0 := eq_true c12
       have c12b1 : decide (((rd_T43 l0 a1).f1 : Int).toNat ≤ 35184372088832) = true := decide_eq_true c12
       clear c12
       obtain ⟨y278, hy278⟩ : ∃ y_ : List Int, y_ = (List.replicate ((rd_T43 l0 a1).f1 : Int).toNat 0) := ⟨_, rfl⟩
       replace H : (tontineref17_Parts.l0 kj3 l0 y278 (wrap64 (a1 - 1)) (wrap64 (((rd_T43 l0 a1).f1) - 1))) = some r := by first | (rw [hy278]; with_reducible exact H) | (have H2_ := (Option.bind_some _ _).symm.trans H; rw [hy278]; with_reducible exact H2_) | (have H2_ := (Option.bind_some _ _).symm.trans H; with_reducible exact H2_) | with_reducible exact H | (rw [hy278]; exact H) | exact H
       have Ny278 := Aside0.mk hy278
       clear hy278
       have H' := Aside0.mk H
       clear H
       have p277 : 0 ≤ (a1 : Int) := of_decide_eq_true sq5
       have q277 : a1 < (l0.length : Int) := of_decide_eq_true sq5
       obtain ⟨ad277, e277, hx277_0, hx277_1, hx277_2⟩ := at_T43 HR0.out a1 p277 q277
       cases e277
       try replace hx277_0 := (HB.out.cell (World.block_lt_of_cell? w _ hx277_0)).trans hx277_0
       try replace hx277_1 := (HB.out.cell (World.block_lt_of_cell? w _ hx277_1)).trans hx277_1
       try replace hx277_2 := (HB.out.cell (World.block_lt_of_cell? w _ hx277_2)).trans hx277_2
       replace p277 := eq_true p277
       replace q277 := eq_true q277
       go_wp2_with (first | ((with_reducible refine gate_dst (N := 32) rfl ?_); (try (refine gate_guard (by rfl) ?_; dsimp only)); refine Kd.R_make (Kd.int .i64) _ 3 rfl (N := 32) rfl 35 _ _ rfl ((rd_T43 l0 a1).f1) rfl rfl Try.underlying35 (.int .i64 0) 8 info3 rfl sq0 (by omega) 0 (ok := fun _ => True) (okp := fun _ => True) rfl (fun _ hk => hk) trivial (of_decide_eq_true sq5) (Nat.le_trans (Nat.mul_le_mul_right _ (of_decide_eq_true sq5 : ((rd_T43 l0 a1).f1).toNat ≤ 35184372088832)) (by omega)) (Below.refl _ _) (Nat.le_refl _) ?_; intro v279 w13 ho14 hb hg_ hnew_; clear hg_ hnew_; (first | rw [← Ny278.out] at ho14 | (simp only [Int.reduceToNat] at ho14; rw [← Ny278.out] at ho14)); have n0_ := Aside0.mk (Kd.R_lower ho14 (below_size sq55)); have n1_ := Aside0.mk (below_step sq55 hb); clear HB; have HO280 := n0_; have HB := n1_; clear n0_ n1_; clear hb ho14; have p281 : 0 ≤ (a1 : Int) := of_decide_eq_true sq5; have q281 : a1 < (l0.length : Int) := of_decide_eq_true sq5; obtain ⟨ad281, e281, hx281_0, hx281_1, hx281_2⟩ := at_T43 HR0.out a1 p281 q281; obtain rfl : ad277 = ad281 := (by injection e281); replace hx281_0 := (HB.out.cell (World.block_lt_of_cell? w _ hx281_0)).trans hx281_0; replace hx281_1 := (HB.out.cell (World.block_lt_of_cell? w _ hx281_1)).trans hx281_1; replace hx281_2 := (HB.out.cell (World.block_lt_of_cell? w _ hx281_2)).trans hx281_2; replace p281 := eq_true p281; replace q281 := eq_true q281))
       go_loopg [8, 9] kj3 (fun kq v8 v9 w' => ∃ (x7_2 : List Int) (x8_2 : Int) (x9_2 : Int), v8 = .int .i64 x8_2 ∧ v9 = .int .i64 x9_2 ∧ Aside0 (tontineref17_Parts.l0 kq l0 x7_2 x8_2 x9_2 = some r) ∧ Aside0 (kq ≤ kj3) ∧ Aside0 (Kd.R (Kd.int .i64) 3 w' w.heap.size (fun _ => True) v279 x7_2) ∧ Aside0 (Below w.heap.size w w'))
       case atStart => exact ⟨(y278), (wrap64 (a1 - 1)), (wrap64 (((rd_T43 l0 a1).f1) - 1)), sq4, sq4, H', ⟨Nat.le_refl _⟩, ⟨by (with_reducible repeat (first | apply Kd.R_alloc | apply Kd.R_drewN | apply Kd.R_drew)); exact HO280.out⟩, ⟨sq55⟩⟩
       case round =>
        clear H'
        try clear c1; try clear c2; try clear p2; try clear q2; try clear hx2; try clear c6; try clear p6; try clear c7; try clear c7b0; try clear c8; try clear c9; try clear c9b0; try clear c10; try clear c10b0; try clear c11; try clear c11b0; try clear c11b1; try clear c12; try clear c12b0; try clear c12b1; try clear hx277_0; try clear hx277_1; try clear hx277_2; try clear hx281_0; try clear hx281_1; try clear hx281_2; try clear p2; try clear p277; try clear p281; try clear q277; try clear q281
        obtain ⟨x7_2, x8_2, x9_2, rfl, rfl, HA, HK2, HO_7, HB⟩ := hrel
        cases gk with
        | zero => exact absurd HA.out (by simp [tontineref17_Parts.l0])
        | succ k2 =>
         have H := HA.out
         clear HA
         simp only [tontineref17_Parts.l0] at H
         by_cases c15 : x9_2 ≥ 0
         ·rw [if_pos c15] at H
          have c15b0 : decide (0 ≤ x9_2) = true := decide_eq_true c15; clear c15
          by_cases c16 : 0 ≤ x9_2
          ·rw [if_pos c16] at H
           have c16b0 : decide (0 ≤ x9_2) = true := decide_eq_true c16; clear c16
           by_cases c17 : x9_2 < (x7_2.length : Int)
           ·rw [if_pos c17] at H
            have c17b0 : decide (x9_2 < (x7_2.length : Int)) = true := decide_eq_true c17; clear c17
            obtain ⟨y282, hy282⟩ : ∃ y_ : List Int, y_ = (x7_2.set (x9_2 : Int).toNat x8_2) := ⟨_, rfl⟩
            replace H : ((tontineref17_whole.f k2 l0 x8_2).bind fun t283 => (tontineref17_Parts.l0 k2 l0 y282 (wrap64 (x8_2 - t283)) (wrap64 (x9_2 - 1)))) = some r := by first | (rw [hy282]; with_reducible exact H) | (have H2_ := (Option.bind_some _ _).symm.trans H; rw [hy282]; with_reducible exact H2_) | (have H2_ := (Option.bind_some _ _).symm.trans H; with_reducible exact H2_) | with_reducible exact H | (rw [hy282]; exact H) | exact H
            have Ny282 := Aside0.mk hy282
            clear hy282
            replace H := Option.bind_eq_some_iff.mp H
            obtain ⟨t283, A190, H⟩ := H
            replace H : (tontineref17_Parts.l0 k2 l0 y282 (wrap64 (x8_2 - t283)) (wrap64 (x9_2 - 1))) = some r := H
            have A19 := Aside0.mk A190
            clear A190
            have H' := Aside0.mk H
            clear H
            have p18 : 0 ≤ (x9_2 : Int) := of_decide_eq_true sq5
            have q18 : (x9_2 : Int) < ((x7_2.length : Int) : Int) := of_decide_eq_true sq5
            obtain ⟨go18, co18, eo18, gb18, gl18, cl18, HG18⟩ := Kd.R_form HO_7.out (by omega)
            (first | cases eo18 | (injection eo18 with ea_ en_ ec_; (first | subst ea_ | (injection ea_ with ea_; subst ea_)); subst ec_; clear en_))
            have GB18 := Aside0.mk gb18
            have GG18 := Aside0.mk HG18
            clear gb18 gl18 HG18
            obtain ⟨hx18_0, hf18_0⟩ := Kd.R_celln 0 HO_7.out (x9_2 : Int) p18 q18
            replace p18 := eq_true p18
            replace q18 := eq_true q18
            have HP20 := Kd.R_putg HO_7.out (x9_2 : Int) x8_2
            go_wp2_with (first | ((with_reducible refine gate_store (t := 3) (p := 48) rfl ?_); refine store_event (t := 3) (p := 48) (v := ?vo_w21) (w1 := (wr.setCell ⟨go18, (x9_2 : Int).toNat, none⟩ (.int .i64 x8_2))) ?hg ?ho ?hn ?hr ?_; (case ho => rfl); (case hg => rfl); (case hn => rfl); (case hr => first | (go_simp; done) | (go_simp; rfl)); intro w21 hw; have hg : wr.grownBy w21 (some go18) := (by rw [hw]; exact HP20.2); have hp_ : Kd.R (Kd.int .i64) 3 w21 w.heap.size (fun _ => True) (.slice (some ⟨go18, 0, none⟩) x7_2.length co18) y282 := (by rw [hw, Ny282.out]; exact HP20.1); clear HP20; have n0_ := Aside0.mk (hp_); have n1_ := Aside0.mk ((by rw [hw]; exact below_set (HB.out) GB18.out : Below w.heap.size w w21)); clear HO_7; clear HB; have HO_7 := n0_; have HB := n1_; clear n0_ n1_; clear hg hw hp_) | ((with_reducible refine gate_callee (f := 25) rfl ?_); refine goesL_ (some 52) rfl rfl Try.func25 sq1 rfl #[.slice (some ad277) l0.length c0, .int .i64 x8_2] rfl sq56 ?_; (with_reducible refine (tontineref17_whole.calls k2 _ _ l0 x8_2 t283 _ ?side1 ?side2 A19.out).mono ?_); (case side1 => repeat (first | exact (Kd.C_below HR0.out HB.out) | (with_reducible refine Kd.C_alloc ?_ _) | (with_reducible refine Kd.C_drewN ?_ _) | (with_reducible refine Kd.C_drew ?_))); (case side2 => exact HC0.out); rintro e w' ⟨rfl, ⟨nd, rfl⟩⟩; refine ⟨_, rfl, ?_⟩))
            go_roundg k2
            case measure => have := HJ3.out; have := HK2.out; omega
            case rel => exact ⟨(y282), (wrap64 (x8_2 - t283)), (wrap64 (x9_2 - 1)), sq4, sq4, H', ⟨by have := HJ3.out; have := HK2.out; omega⟩, ⟨by (with_reducible repeat (first | apply Kd.R_alloc | apply Kd.R_drewN | apply Kd.R_drew)); exact HO_7.out⟩, ⟨sq55⟩⟩
           rw [if_neg c17] at H
           exact absurd H (by simp)
          rw [if_neg c16] at H
          exact absurd H (by simp)
         rw [if_neg c15] at H
         have c15b0 : decide (0 ≤ x9_2) = false := decide_eq_false c15; clear c15
         obtain rfl := Option.some.inj H
         go_wp2
         go_ret
         exact ⟨_, sq23, by (with_reducible repeat (first | apply Kd.R_alloc | apply Kd.R_drewN | apply Kd.R_drew)); exact HO_7.out, sq55⟩
      rw [if_neg c12] at H
      exact absurd H (by simp)
     rw [if_neg c11] at H
     exact absurd H (by simp)
    rw [if_neg c10] at H
    exact absurd H (by simp)
   rw [if_neg c9] at H
   exact absurd H (by simp)

/-! ### tontinebook_SameFormula: function 14 -/
def tontinebook_SameFormula.l0 : Nat → List (S43) → List (S43) → Int → Option (Bool)
 | 0, _, _, _ => none
 | k + 1, x0, x1, x5 => if x5 < (x0.length : Int) then (if 0 ≤ x5 then (if x5 < (x1.length : Int) then (if (!(((rd_T43 x0 x5).f0) == ((rd_T43 x1 x5).f0)) || (!(((rd_T43 x0 x5).f1) == ((rd_T43 x1 x5).f1)) || (!((((rd_T43 x0 x5).f2).toList) == (((rd_T43 x1 x5).f2).toList))))) = true then (some false) else (tontinebook_SameFormula.l0 k x0 x1 (wrap64 (x5 + 1)))) else (none)) else (none)) else (some true)
def tontinebook_SameFormula.f (k : Nat) (l0 : List (S43)) (l1 : List (S43)) : Option (Bool) := if (l0.length : Int) = (l1.length : Int) then (tontinebook_SameFormula.l0 k l0 l1 0) else (some false)
theorem tontinebook_SameFormula.mono_l : ∀ k, (∀ y0 y1 y2, LeO (tontinebook_SameFormula.l0 k y0 y1 y2) (tontinebook_SameFormula.l0 (k + 1) y0 y1 y2))
 | 0 => fun _ _ _ r h => by simp [tontinebook_SameFormula.l0] at h
 | k + 1 => by
  have ih0 := tontinebook_SameFormula.mono_l k
  ·intro y0 y1 y2
   unfold tontinebook_SameFormula.l0
   exact sq87
theorem tontinebook_SameFormula.mono : ∀ a0 a1 k, LeO (tontinebook_SameFormula.f k a0 a1) (tontinebook_SameFormula.f (k + 1) a0 a1) := by
 intro a0 a1 k
 have ih0 := tontinebook_SameFormula.mono_l k
 unfold tontinebook_SameFormula.f
 exact sq87
set_option maxHeartbeats 8000000 in
set_option maxRecDepth 100000 in
theorem tontinebook_SameFormula.calls (k : Nat) (A0 : Option Addr) (c0 : Nat) (l0 : List (S43)) (A1 : Option Addr) (c1 : Nat) (l1 : List (S43)) (r : Bool) (w : World) (hr0 : Kd.C k43 w A0 l0.length l0) (hc0 : l0.length ≤ c0) (hr1 : Kd.C k43 w A1 l1.length l1) (hc1 : l1.length ≤ c1) (h : tontinebook_SameFormula.f k l0 l1 = some r) :
  Calls Try.prog 14 #[.slice A0 l0.length c0, .slice A1 l1.length c1] w fun e w' => e = .returned (.bool r) ∧ Drawn0 w w' := by
 have hu43 := Try.underlying43
 have HR0 := Aside0.mk hr0
 have HC0 := Aside0.mk hc0
 clear hr0 hc0
 have HR1 := Aside0.mk hr1
 have HC1 := Aside0.mk hc1
 clear hr1 hc1
 have H : (if (l0.length : Int) = (l1.length : Int) then (tontinebook_SameFormula.l0 k l0 l1 0) else (some false)) = some r := h
 clear h
 by_cases c3 : (l0.length : Int) = (l1.length : Int)
 ·rw [if_pos c3] at H
  have c3b0 : ((l0.length : Int) == (l1.length : Int)) = true := beq_iff_eq.mpr c3
  have c3b1 : ((l0.length : Int) != (l1.length : Int)) = false := bne_eq_false_iff_eq.mpr c3
  have c3b2 : (l0.length == l1.length) = true := by first | simpa using c3 | (simp at c3 ⊢; omega)
  clear c3
  have H' := Aside0.mk H
  clear H
  go_enter Try.func14, Try.ntmps14
  go_wp2
  repeat (go_quiet (fail); try go_wp2)
  go_loopg [5] k (fun kq v5 w' => ∃ (x5_1 : Int), v5 = .int .i64 x5_1 ∧ Aside0 (tontinebook_SameFormula.l0 kq l0 l1 x5_1 = some r) ∧ Aside0 (kq ≤ k) ∧ Drawn0 w w')
  case atStart => exact ⟨(0), sq4, H', ⟨Nat.le_refl _⟩, sq7⟩
  case round =>
   clear H'
   try clear c1; try clear p2; try clear c3; try clear c3b0; try clear c3b1; try clear c3b2
   obtain ⟨x5_1, rfl, HA, HK1, ⟨m1, rfl⟩⟩ := hrel
   cases gk with
   | zero => exact absurd HA.out (by simp [tontinebook_SameFormula.l0])
   | succ k1 =>
    have H := HA.out
    clear HA
    simp only [tontinebook_SameFormula.l0] at H
    by_cases c4 : x5_1 < (l0.length : Int)
    ·rw [if_pos c4] at H
     have c4b0 : decide (x5_1 < (l0.length : Int)) = true := decide_eq_true c4; clear c4
     by_cases c5 : 0 ≤ x5_1
     ·rw [if_pos c5] at H
      have c5b0 : decide (0 ≤ x5_1) = true := decide_eq_true c5; clear c5
      by_cases c6 : x5_1 < (l1.length : Int)
      ·rw [if_pos c6] at H
       have c6b0 : decide (x5_1 < (l1.length : Int)) = true := decide_eq_true c6; clear c6
       by_cases c7 : (!(((rd_T43 l0 x5_1).f0) == ((rd_T43 l1 x5_1).f0)) || (!(((rd_T43 l0 x5_1).f1) == ((rd_T43 l1 x5_1).f1)) || (!((((rd_T43 l0 x5_1).f2).toList) == (((rd_T43 l1 x5_1).f2).toList))))) = true
       ·rw [if_pos c7] at H
        have c7b0 : (!(((rd_T43 l0 x5_1).f0) == ((rd_T43 l1 x5_1).f0)) || (!(((rd_T43 l0 x5_1).f1) == ((rd_T43 l1 x5_1).f1)) || (!((((rd_T43 l0 x5_1).f2).toList) == (((rd_T43 l1 x5_1).f2).toList))))) = true := c7
        clear c7
        obtain rfl := Option.some.inj H
        have p284 : 0 ≤ (x5_1 : Int) := of_decide_eq_true sq5
        have q284 : x5_1 < (l0.length : Int) := of_decide_eq_true sq5
        obtain ⟨ad284, e284, hx284_0, hx284_1, hx284_2⟩ := at_T43 HR0.out x5_1 p284 q284
        cases e284
        replace p284 := eq_true p284
        replace q284 := eq_true q284
        have p285 : 0 ≤ (x5_1 : Int) := of_decide_eq_true sq5
        have q285 : x5_1 < (l1.length : Int) := of_decide_eq_true sq5
        obtain ⟨ad285, e285, hx285_0, hx285_1, hx285_2⟩ := at_T43 HR1.out x5_1 p285 q285
        cases e285
        replace p285 := eq_true p285
        replace q285 := eq_true q285
        go_wp2
        repeat (go_quiet (fail); try go_wp2)
        go_ret
        exact ⟨sq4, sq7⟩
       rw [if_neg c7] at H
       have c7b0 : (!(((rd_T43 l0 x5_1).f0) == ((rd_T43 l1 x5_1).f0)) || (!(((rd_T43 l0 x5_1).f1) == ((rd_T43 l1 x5_1).f1)) || (!((((rd_T43 l0 x5_1).f2).toList) == (((rd_T43 l1 x5_1).f2).toList))))) = false := by simpa using c7
       clear c7
       have H' := Aside0.mk H
       clear H
       have p284 : 0 ≤ (x5_1 : Int) := of_decide_eq_true sq5
       have q284 : x5_1 < (l0.length : Int) := of_decide_eq_true sq5
       obtain ⟨ad284, e284, hx284_0, hx284_1, hx284_2⟩ := at_T43 HR0.out x5_1 p284 q284
       cases e284
       replace p284 := eq_true p284
       replace q284 := eq_true q284
       have p285 : 0 ≤ (x5_1 : Int) := of_decide_eq_true sq5
       have q285 : x5_1 < (l1.length : Int) := of_decide_eq_true sq5
       obtain ⟨ad285, e285, hx285_0, hx285_1, hx285_2⟩ := at_T43 HR1.out x5_1 p285 q285
       cases e285
       replace p285 := eq_true p285
       replace q285 := eq_true q285
       go_wp2
       repeat (go_quiet (fail); try go_wp2)
       go_roundg k1
       case measure => have := HK1.out; omega
       case rel => exact ⟨(wrap64 (x5_1 + 1)), sq4, H', ⟨by have := HK1.out; omega⟩, sq7⟩
      rw [if_neg c6] at H
      exact absurd H (by simp)
     rw [if_neg c5] at H
     exact absurd H (by simp)
    rw [if_neg c4] at H
    have c4b0 : decide (x5_1 < (l0.length : Int)) = false := decide_eq_false c4; clear c4
    obtain rfl := Option.some.inj H
    go_wp2
    repeat (go_quiet (fail); try go_wp2)
    go_ret
    exact ⟨sq4, sq7⟩
 rw [if_neg c3] at H
 have c3b0 : ((l0.length : Int) == (l1.length : Int)) = false := beq_eq_false_iff_ne.mpr c3
 have c3b1 : ((l0.length : Int) != (l1.length : Int)) = true := bne_iff_ne.mpr c3
 have c3b2 : (l0.length == l1.length) = false := by first | simpa using c3 | (simp at c3 ⊢; omega)
 obtain rfl := Option.some.inj H
 go_enter Try.func14, Try.ntmps14
 go_wp2
 repeat (go_quiet (fail); try go_wp2)
 go_ret
 exact ⟨sq4, sq7⟩

end Go.Proofs.Ytaogejkmkalnlaa.PAll
