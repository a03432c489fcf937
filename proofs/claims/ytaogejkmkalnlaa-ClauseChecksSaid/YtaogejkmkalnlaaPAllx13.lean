-- Written by a program of this session (wip/tools/print2.sh): functions as plain Lean, and that the machine's calls do what they say.
import Derived.Test.YtaogejkmkalnlaaPAllx0
import Derived.Test.YtaogejkmkalnlaaPAllx5
import Derived.Test.YtaogejkmkalnlaaPAllx6
import Derived.Test.YtaogejkmkalnlaaPAllx11
namespace Go.Proofs.Ytaogejkmkalnlaa.PAll
open Go.RowKit Go.Proofs.YtaogejkmkalnlaaW.PrintWords Go.Proofs.YtaogejkmkalnlaaW.PrintLast Go.Proofs.YtaogejkmkalnlaaW.PrintMore
attribute [local go_sem] max2_int min2_int max_two min_two max_three min_three max_four min_four   -- for this text's walks alone
set_option linter.unusedVariables false
set_option linter.unusedSimpArgs false

/-! ### clause_CheckFormula: function 9 -/
def clause_CheckFormula.f (k : Nat) (l0 : List (S43)) : Option (Int) := (clause_worst.f k (decide ((l0.length : Int) > 1024)) (([l0] : List (List (S43))))).bind fun t236 => (some t236)
theorem clause_CheckFormula.mono : ∀ a0 k, LeO (clause_CheckFormula.f k a0) (clause_CheckFormula.f (k + 1) a0) := by
 intro a0 k
 unfold clause_CheckFormula.f
 exact (by repeat' first | (with_reducible exact clause_worst.mono _ _ _) | (with_reducible exact LeO.refl _) | (with_reducible exact LeO.none _) | (with_reducible refine LeO.ite ?_ ?_) | (with_reducible refine LeO.bind ?_ (fun _ => ?_)) | exact clause_worst.mono _ _ _ | exact LeO.none _ | refine LeO.ite ?_ ?_ | refine LeO.bind ?_ (fun _ => ?_))
set_option maxHeartbeats 8000000 in
set_option maxRecDepth 100000 in
theorem clause_CheckFormula.calls (k : Nat) (P0_ : Nat → Prop) (A0 : Option Addr) (c0 : Nat) (l0 : List (S43)) (r : Int) (w : World) (hG : Glob w) (hs0 : Kd.V k43 43 w w.heap.size (fun k_ => P0_ k_) (.slice A0 l0.length c0) l0) (h : clause_CheckFormula.f k l0 = some r) :
  Calls Try.prog 9 #[.slice A0 l0.length c0] w fun e w' => e = .returned (.int .i64 r) ∧ Below w.heap.size w w' := by
 have HO0 := Aside0.mk (show Kd.V k43 43 w w.heap.size (fun k_ => (P0_ k_ ∨ w.heap.size ≤ k_)) (.slice A0 l0.length c0) l0 from Kd.V_mono hs0 (fun k_ hk => .inl hk))
 have HB := Aside0.mk (Below.refl w.heap.size w)
 have HG := Aside0.mk hG
 clear hG
 have H : ((clause_worst.f k (decide ((l0.length : Int) > 1024)) (([l0] : List (List (S43))))).bind fun t236 => (some t236)) = some r := h
 clear h
 obtain ⟨y233, hy233⟩ : ∃ y_ : List (List (S43)), y_ = (([l0] : List (List (S43)))) := ⟨_, rfl⟩
 replace H : ((clause_worst.f k (decide ((l0.length : Int) > 1024)) y233).bind fun t236 => (some t236)) = some r := by first | (rw [hy233]; with_reducible exact H) | (have H2_ := (Option.bind_some _ _).symm.trans H; rw [hy233]; with_reducible exact H2_) | (have H2_ := (Option.bind_some _ _).symm.trans H; with_reducible exact H2_) | with_reducible exact H | (rw [hy233]; exact H) | exact H
 have Ny233 := Aside0.mk hy233
 clear hy233
 replace H := Option.bind_eq_some_iff.mp H
 obtain ⟨t236, A20, H⟩ := H
 replace H : (some t236) = some r := H
 have A2 := Aside0.mk A20
 clear A20
 obtain rfl := Option.some.inj H
 go_enter Try.func9, Try.ntmps9
 go_wp2_with (first | ((with_reducible refine gate_dst (N := 7) rfl ?_); refine Kd.N_lit (Kd.slice 43 k43) _ 26 ?hg (N' := 7) ?hd (xs := ([l0] : List (List (S43)))) (inner := [.slice A0 l0.length c0]) (ok := (fun k_ => (P0_ k_ ∨ w.heap.size ≤ k_))) (okp := (fun k_ => (P0_ k_ ∨ w.heap.size ≤ k_))) ?hr ?hp (fun _ hk => hk) ((show ∀ k_, w.heap.size ≤ k_ → (fun k_ => (P0_ k_ ∨ w.heap.size ≤ k_)) k_ from fun k_ hk => (.inr (Nat.le_trans (below_size sq55) hk))) _ (Nat.le_refl _)) (Below.refl _ _) (Nat.le_refl _) (by simp) ?_; (case hd => rfl); (case hg => rfl); (case hr => first | (go_simp; done) | (go_simp; rfl)); (case hp => exact (Reps.one (show Kd.FK (Kd.slice 43 k43) _ _ l0 [.slice A0 l0.length c0] from (Kd.FK_slice_mk (Kd.V_reads' (Kd.V_mono (ok' := (fun k_ => (P0_ k_ ∨ w.heap.size ≤ k_))) (HO0.out) (fun k_ hk => hk))).2.1 (Kd.V_F (Kd.V_mono (ok' := (fun k_ => (P0_ k_ ∨ w.heap.size ≤ k_))) (HO0.out) (fun k_ hk => hk))))) (Reps.none _ _))); intro v234 w3 ho4 hb hg_ hnew_; clear hg_ hnew_; (first | rw [← Ny233.out] at ho4 | (simp only [Int.reduceToNat] at ho4; rw [← Ny233.out] at ho4)); have n0_ := Aside0.mk (Kd.V_elder' (by (with_reducible repeat (first | apply Kd.V_alloc | apply Kd.V_drewN | apply Kd.V_drew)); exact HO0.out) (Kd.N_base ho4) hb); have n1_ := Aside0.mk (Kd.N_lower ho4 (below_size sq55)); have n2_ := Aside0.mk (below_step sq55 hb); clear HO0; clear HB; have HO0 := n0_; have HO235 := n1_; have HB := n2_; clear n0_ n1_ n2_; clear hb ho4; obtain ⟨Ao5, co5, eo5⟩ := Kd.N_slice HO235.out; subst eo5) | ((with_reducible refine gate_callee (f := 17) rfl ?_); refine goesL_ (some 8) rfl rfl Try.func17 sq1 rfl #[.bool (decide ((l0.length : Int) > 1024)), .slice Ao5 y233.length co5] rfl sq56 ?_; (with_reducible refine (clause_worst.calls k (decide ((l0.length : Int) > 1024)) _ _ y233 t236 _ ?side3 ?side1 ?side2 A2.out).mono ?_); (case side1 => repeat (first | exact (Kd.N_reads' HO235.out).2.2 | (with_reducible refine Kd.C_alloc ?_ _) | (with_reducible refine Kd.C_drewN ?_ _) | (with_reducible refine Kd.C_drew ?_))); (case side2 => exact (Kd.N_reads' HO235.out).2.1); (case side3 => exact Glob.below HG.out sq55); rintro e w6 ⟨rfl, hb⟩; refine ⟨_, rfl, ?_⟩; have n0_ := Aside0.mk (Kd.V_below (by (with_reducible repeat (first | apply Kd.V_alloc | apply Kd.V_drewN | apply Kd.V_drew)); exact HO0.out) hb); have n1_ := Aside0.mk (Kd.N_below (by (with_reducible repeat (first | apply Kd.N_alloc | apply Kd.N_drewN | apply Kd.N_drew)); exact HO235.out) hb); have n2_ := Aside0.mk (below_step sq55 hb); clear HO0; clear HO235; clear HB; have HO0 := n0_; have HO235 := n1_; have HB := n2_; clear n0_ n1_ n2_; (try clear hb); (try clear hb2); (try clear hk); (try clear hi)))
 go_ret
 exact ⟨sq23, sq55⟩

/-! ### tontineref17_CheckFormula: function 10 -/
def tontineref17_CheckFormula.f (k : Nat) (l0 : List (S43)) : Option (Int) := if (l0.length : Int) > 1024 then (some 3) else ((tontineref17_Right.f k l0).bind fun bt237 => (if bt237.1 = true then (if bt237.2 > 64 then (some 173) else (some 0)) else (some 5)))
theorem tontineref17_CheckFormula.mono : ∀ a0 k, LeO (tontineref17_CheckFormula.f k a0) (tontineref17_CheckFormula.f (k + 1) a0) := by
 intro a0 k
 unfold tontineref17_CheckFormula.f
 exact (by repeat' first | (with_reducible exact tontineref17_Right.mono _ _) | (with_reducible exact LeO.refl _) | (with_reducible exact LeO.none _) | (with_reducible refine LeO.ite ?_ ?_) | (with_reducible refine LeO.bind ?_ (fun _ => ?_)) | exact tontineref17_Right.mono _ _ | exact LeO.none _ | refine LeO.ite ?_ ?_ | refine LeO.bind ?_ (fun _ => ?_))
set_option maxHeartbeats 8000000 in
set_option maxRecDepth 100000 in
theorem tontineref17_CheckFormula.calls (k : Nat) (A0 : Option Addr) (c0 : Nat) (l0 : List (S43)) (r : Int) (w : World) (hr0 : Kd.C k43 w A0 l0.length l0) (hc0 : l0.length ≤ c0) (h : tontineref17_CheckFormula.f k l0 = some r) :
  Calls Try.prog 10 #[.slice A0 l0.length c0] w fun e w' => e = .returned (.int .i64 r) ∧ Below w.heap.size w w' := by
 have HR0 := Aside0.mk hr0
 have HC0 := Aside0.mk hc0
 clear hr0 hc0
 have HB := Aside0.mk (Below.refl w.heap.size w)
 have H : (if (l0.length : Int) > 1024 then (some 3) else ((tontineref17_Right.f k l0).bind fun bt237 => (if bt237.1 = true then (if bt237.2 > 64 then (some 173) else (some 0)) else (some 5)))) = some r := h
 clear h
 by_cases c2 : (l0.length : Int) > 1024
 ·rw [if_pos c2] at H
  have c2b0 : decide (1024 < (l0.length : Int)) = true := decide_eq_true c2
  have c2b1 : decide (1024 < l0.length) = true := decide_eq_true (by omega)
  clear c2
  obtain rfl := Option.some.inj H
  go_enter Try.func10, Try.ntmps10
  go_wp2
  go_ret
  exact ⟨sq23, sq55⟩
 rw [if_neg c2] at H
 have c2b0 : decide (1024 < (l0.length : Int)) = false := decide_eq_false c2
 have c2b1 : decide (1024 < l0.length) = false := decide_eq_false (by omega)
 clear c2
 replace H := Option.bind_eq_some_iff.mp H
 obtain ⟨⟨t237, t238⟩, A30, H⟩ := H
 replace H : (if t237 = true then (if t238 > 64 then (some 173) else (some 0)) else (some 5)) = some r := H
 have A3 := Aside0.mk A30
 clear A30
 by_cases c4 : t237 = true
 ·subst c4
  replace H := (itT_ _ _).symm.trans H
  by_cases c5 : t238 > 64
  ·rw [if_pos c5] at H
   have c5b0 : decide (64 < t238) = true := decide_eq_true c5; clear c5
   obtain rfl := Option.some.inj H
   go_enter Try.func10, Try.ntmps10
   go_wp2_with (first | ((with_reducible refine gate_callee (f := 21) rfl ?_); refine goesL_ (some 10) rfl rfl Try.func21 sq1 rfl #[.slice A0 l0.length c0] rfl sq56 ?_; (with_reducible refine (tontineref17_Right.calls k _ _ l0 true t238 _ ?side1 ?side2 A3.out).mono ?_); (case side1 => repeat (first | exact HR0.out | (with_reducible refine Kd.C_alloc ?_ _) | (with_reducible refine Kd.C_drewN ?_ _) | (with_reducible refine Kd.C_drew ?_))); (case side2 => exact HC0.out); rintro e w6 ⟨rfl, hb⟩; refine ⟨_, rfl, ?_⟩; have n0_ := Aside0.mk (below_step sq55 hb); clear HB; have HB := n0_; clear n0_; (try clear hb); (try clear hb2); (try clear hk); (try clear hi)))
   go_ret
   exact ⟨sq23, sq55⟩
  rw [if_neg c5] at H
  have c5b0 : decide (64 < t238) = false := decide_eq_false c5; clear c5
  obtain rfl := Option.some.inj H
  go_enter Try.func10, Try.ntmps10
  go_wp2_with (first | ((with_reducible refine gate_callee (f := 21) rfl ?_); refine goesL_ (some 10) rfl rfl Try.func21 sq1 rfl #[.slice A0 l0.length c0] rfl sq56 ?_; (with_reducible refine (tontineref17_Right.calls k _ _ l0 true t238 _ ?side1 ?side2 A3.out).mono ?_); (case side1 => repeat (first | exact HR0.out | (with_reducible refine Kd.C_alloc ?_ _) | (with_reducible refine Kd.C_drewN ?_ _) | (with_reducible refine Kd.C_drew ?_))); (case side2 => exact HC0.out); rintro e w7 ⟨rfl, hb⟩; refine ⟨_, rfl, ?_⟩; have n0_ := Aside0.mk (below_step sq55 hb); clear HB; have HB := n0_; clear n0_; (try clear hb); (try clear hb2); (try clear hk); (try clear hi)))
  go_ret
  exact ⟨sq23, sq55⟩
 replace c4 := Bool.eq_false_iff.mpr c4
 subst c4
 replace H := (itF_ _ _).symm.trans H
 obtain rfl := Option.some.inj H
 go_enter Try.func10, Try.ntmps10
 go_wp2_with (first | ((with_reducible refine gate_callee (f := 21) rfl ?_); refine goesL_ (some 10) rfl rfl Try.func21 sq1 rfl #[.slice A0 l0.length c0] rfl sq56 ?_; (with_reducible refine (tontineref17_Right.calls k _ _ l0 false t238 _ ?side1 ?side2 A3.out).mono ?_); (case side1 => repeat (first | exact HR0.out | (with_reducible refine Kd.C_alloc ?_ _) | (with_reducible refine Kd.C_drewN ?_ _) | (with_reducible refine Kd.C_drew ?_))); (case side2 => exact HC0.out); rintro e w8 ⟨rfl, hb⟩; refine ⟨_, rfl, ?_⟩; have n0_ := Aside0.mk (below_step sq55 hb); clear HB; have HB := n0_; clear n0_; (try clear hb); (try clear hb2); (try clear hk); (try clear hi)))
 go_ret
 exact ⟨sq23, sq55⟩

/-! ### clause_partsOf: function 23 -/
def clause_partsOf.l0 : Nat → List Int → List Int → Int → Int → Option (List Int)
 | 0, _, _, _, _ => none
 | k + 1, x1, x8, x9, x10 => if x10 ≥ 0 then (if 0 ≤ x10 then (if x10 < (x8.length : Int) then (if 0 ≤ x9 then (if x9 < (x1.length : Int) then (clause_partsOf.l0 k x1 (x8.set (x10 : Int).toNat x9) (wrap64 ((rd x1 x9) - 1)) (wrap64 (x10 - 1))) else (none)) else (none)) else (none)) else (none)) else (some x8)
def clause_partsOf.f (k : Nat) (l0 : List (S43)) (l1 : List Int) (a2 : Int) : Option (List Int) := if 0 ≤ a2 then (if a2 < (l0.length : Int) then (if 0 ≤ ((rd_T43 l0 a2).f1) then (if ((rd_T43 l0 a2).f1 : Int).toNat ≤ 35184372088832 then (clause_partsOf.l0 k l1 (List.replicate ((rd_T43 l0 a2).f1 : Int).toNat 0) (wrap64 (a2 - 1)) (wrap64 (((rd_T43 l0 a2).f1) - 1))) else (none)) else (none)) else (none)) else (none)
theorem clause_partsOf.mono_l : ∀ k, (∀ y0 y1 y2 y3, LeO (clause_partsOf.l0 k y0 y1 y2 y3) (clause_partsOf.l0 (k + 1) y0 y1 y2 y3))
 | 0 => fun _ _ _ _ r h => by simp [clause_partsOf.l0] at h
 | k + 1 => by
  have ih0 := clause_partsOf.mono_l k
  ·intro y0 y1 y2 y3
   unfold clause_partsOf.l0
   exact sq88
theorem clause_partsOf.mono : ∀ a0 a1 a2 k, LeO (clause_partsOf.f k a0 a1 a2) (clause_partsOf.f (k + 1) a0 a1 a2) := by
 intro a0 a1 a2 k
 have ih0 := clause_partsOf.mono_l k
 unfold clause_partsOf.f
 exact sq88
set_option maxHeartbeats 8000000 in
set_option maxRecDepth 100000 in
theorem clause_partsOf.calls (k : Nat) (A0 : Option Addr) (c0 : Nat) (l0 : List (S43)) (A1 : Option Addr) (c1 : Nat) (l1 : List Int) (a2 : Int) (r : List Int) (w : World) (hr0 : Kd.C k43 w A0 l0.length l0) (hc0 : l0.length ≤ c0) (hr1 : Kd.C (Kd.int .i64) w A1 l1.length l1) (hc1 : l1.length ≤ c1) (h : clause_partsOf.f k l0 l1 a2 = some r) :
  Calls Try.prog 23 #[.slice A0 l0.length c0, .slice A1 l1.length c1, .int .i64 a2] w fun e w' => ∃ v0_ : Value, e = .returned (v0_) ∧ Kd.R (Kd.int .i64) 3 w' w.heap.size (fun _ => True) v0_ r ∧ Below w.heap.size w w' := by
 have HR0 := Aside0.mk hr0
 have HC0 := Aside0.mk hc0
 clear hr0 hc0
 have HR1 := Aside0.mk hr1
 have HC1 := Aside0.mk hc1
 clear hr1 hc1
 have HB := Aside0.mk (Below.refl w.heap.size w)
 have H : (if 0 ≤ a2 then (if a2 < (l0.length : Int) then (if 0 ≤ ((rd_T43 l0 a2).f1) then (if ((rd_T43 l0 a2).f1 : Int).toNat ≤ 35184372088832 then (clause_partsOf.l0 k l1 (List.replicate ((rd_T43 l0 a2).f1 : Int).toNat 0) (wrap64 (a2 - 1)) (wrap64 (((rd_T43 l0 a2).f1) - 1))) else (none)) else (none)) else (none)) else (none)) = some r := h
 clear h
 by_cases c4 : 0 ≤ a2
 ·rw [if_pos c4] at H
  have c4b0 : decide (0 ≤ a2) = true := decide_eq_true c4; clear c4
  by_cases c5 : a2 < (l0.length : Int)
  ·rw [if_pos c5] at H
   have c5b0 : decide (a2 < (l0.length : Int)) = true := decide_eq_true c5; clear c5
   by_cases c6 : 0 ≤ ((rd_T43 l0 a2).f1)
   ·rw [if_pos c6] at H
    have c6b0 := eq_true c6
    have c6b1 : decide (0 ≤ ((rd_T43 l0 a2).f1)) = true := decide_eq_true c6
    clear c6
    by_cases c7 : ((rd_T43 l0 a2).f1 : Int).toNat ≤ 35184372088832
    ·rw [if_pos c7] at H
     have c7b0 := eq_true c7
     have c7b1 : decide (((rd_T43 l0 a2).f1 : Int).toNat ≤ 35184372088832) = true := decide_eq_true c7
     clear c7
     obtain ⟨y240, hy240⟩ : ∃ y_ : List Int, y_ = (List.replicate ((rd_T43 l0 a2).f1 : Int).toNat 0) := ⟨_, rfl⟩
     replace H : (clause_partsOf.l0 k l1 y240 (wrap64 (a2 - 1)) (wrap64 (((rd_T43 l0 a2).f1) - 1))) = some r := by first | (rw [hy240]; with_reducible exact H) | (have H2_ := (Option.bind_some _ _).symm.trans H; rw [hy240]; with_reducible exact H2_) | (have H2_ := (Option.bind_some _ _).symm.trans H; with_reducible exact H2_) | with_reducible exact H | (rw [hy240]; exact H) | exact H
     have Ny240 := Aside0.mk hy240
     clear hy240
     have H' := Aside0.mk H
     clear H
     have p239 : 0 ≤ (a2 : Int) := of_decide_eq_true sq5
     have q239 : a2 < (l0.length : Int) := of_decide_eq_true sq5
     obtain ⟨ad239, e239, hx239_0, hx239_1, hx239_2⟩ := at_T43 HR0.out a2 p239 q239
     cases e239
     replace p239 := eq_true p239
     replace q239 := eq_true q239
     go_enter Try.func23, Try.ntmps23
     go_wp2_with (first | ((with_reducible refine gate_dst (N := 17) rfl ?_); refine Kd.R_make (Kd.int .i64) _ 3 rfl (N := 17) rfl 35 _ _ rfl ((rd_T43 l0 a2).f1) rfl rfl Try.underlying35 (.int .i64 0) 8 info3 rfl sq0 (by omega) 0 (ok := fun _ => True) (okp := fun _ => True) rfl (fun _ hk => hk) trivial (of_decide_eq_true sq5) (Nat.le_trans (Nat.mul_le_mul_right _ (of_decide_eq_true sq5 : ((rd_T43 l0 a2).f1).toNat ≤ 35184372088832)) (by omega)) (Below.refl _ _) (Nat.le_refl _) ?_; intro v241 w8 ho9 hb hg_ hnew_; clear hg_ hnew_; (first | rw [← Ny240.out] at ho9 | (simp only [Int.reduceToNat] at ho9; rw [← Ny240.out] at ho9)); have n0_ := Aside0.mk (Kd.R_lower ho9 (below_size sq55)); have n1_ := Aside0.mk (below_step sq55 hb); clear HB; have HO242 := n0_; have HB := n1_; clear n0_ n1_; clear hb ho9))
     go_loopg [9, 10] k (fun kq v9 v10 w' => ∃ (x8_1 : List Int) (x9_1 : Int) (x10_1 : Int), v9 = .int .i64 x9_1 ∧ v10 = .int .i64 x10_1 ∧ Aside0 (clause_partsOf.l0 kq l1 x8_1 x9_1 x10_1 = some r) ∧ Aside0 (kq ≤ k) ∧ Aside0 (Kd.R (Kd.int .i64) 3 w' w.heap.size (fun _ => True) v241 x8_1) ∧ Aside0 (Below w.heap.size w w'))
     case atStart => exact ⟨(y240), (wrap64 (a2 - 1)), (wrap64 (((rd_T43 l0 a2).f1) - 1)), sq4, sq4, H', ⟨Nat.le_refl _⟩, ⟨by (with_reducible repeat (first | apply Kd.R_alloc | apply Kd.R_drewN | apply Kd.R_drew)); exact HO242.out⟩, ⟨sq55⟩⟩
     case round =>
      clear H'
      try clear c1; try clear c2; try clear p2; try clear q2; try clear hx2; try clear c4; try clear c4b0; try clear c5; try clear c5b0; try clear c6; try clear c6b0; try clear c6b1; try clear p6; try clear c7; try clear c7b0; try clear c7b1; try clear hx239_0; try clear hx239_1; try clear hx239_2; try clear p239; try clear q239
      obtain ⟨x8_1, x9_1, x10_1, rfl, rfl, HA, HK1, HO_8, HB⟩ := hrel
      cases gk with
      | zero => exact absurd HA.out (by simp [clause_partsOf.l0])
      | succ k1 =>
       have H := HA.out
       clear HA
       simp only [clause_partsOf.l0] at H
       by_cases c10 : x10_1 ≥ 0
       ·rw [if_pos c10] at H
        have c10b0 : decide (0 ≤ x10_1) = true := decide_eq_true c10; clear c10
        by_cases c11 : 0 ≤ x10_1
        ·rw [if_pos c11] at H
         have c11b0 : decide (0 ≤ x10_1) = true := decide_eq_true c11; clear c11
         by_cases c12 : x10_1 < (x8_1.length : Int)
         ·rw [if_pos c12] at H
          have c12b0 : decide (x10_1 < (x8_1.length : Int)) = true := decide_eq_true c12; clear c12
          obtain ⟨y243, hy243⟩ : ∃ y_ : List Int, y_ = (x8_1.set (x10_1 : Int).toNat x9_1) := ⟨_, rfl⟩
          replace H : (if 0 ≤ x9_1 then (if x9_1 < (l1.length : Int) then (clause_partsOf.l0 k1 l1 y243 (wrap64 ((rd l1 x9_1) - 1)) (wrap64 (x10_1 - 1))) else (none)) else (none)) = some r := by first | (rw [hy243]; with_reducible exact H) | (have H2_ := (Option.bind_some _ _).symm.trans H; rw [hy243]; with_reducible exact H2_) | (have H2_ := (Option.bind_some _ _).symm.trans H; with_reducible exact H2_) | with_reducible exact H | (rw [hy243]; exact H) | exact H
          have Ny243 := Aside0.mk hy243
          clear hy243
          by_cases c14 : 0 ≤ x9_1
          ·rw [if_pos c14] at H
           have c14b0 : decide (0 ≤ x9_1) = true := decide_eq_true c14; clear c14
           by_cases c15 : x9_1 < (l1.length : Int)
           ·rw [if_pos c15] at H
            have c15b0 : decide (x9_1 < (l1.length : Int)) = true := decide_eq_true c15; clear c15
            have H' := Aside0.mk H
            clear H
            have p13 : 0 ≤ (x10_1 : Int) := of_decide_eq_true sq5
            have q13 : (x10_1 : Int) < ((x8_1.length : Int) : Int) := of_decide_eq_true sq5
            obtain ⟨go13, co13, eo13, gb13, gl13, cl13, HG13⟩ := Kd.R_form HO_8.out (by omega)
            (first | cases eo13 | (injection eo13 with ea_ en_ ec_; (first | subst ea_ | (injection ea_ with ea_; subst ea_)); subst ec_; clear en_))
            have GB13 := Aside0.mk gb13
            have GG13 := Aside0.mk HG13
            clear gb13 gl13 HG13
            obtain ⟨hx13_0, hf13_0⟩ := Kd.R_celln 0 HO_8.out (x10_1 : Int) p13 q13
            replace p13 := eq_true p13
            replace q13 := eq_true q13
            have HP16 := Kd.R_putg HO_8.out (x10_1 : Int) x9_1
            go_wp2_with (first | ((with_reducible refine gate_store (t := 3) (p := 29) rfl ?_); refine store_event (t := 3) (p := 29) (v := ?vo_w17) (w1 := (wr.setCell ⟨go13, (x10_1 : Int).toNat, none⟩ (.int .i64 x9_1))) ?hg ?ho ?hn ?hr ?_; (case ho => rfl); (case hg => rfl); (case hn => rfl); (case hr => first | (go_simp; done) | (go_simp; rfl)); intro w17 hw; have hg : wr.grownBy w17 (some go13) := (by rw [hw]; exact HP16.2); have hp_ : Kd.R (Kd.int .i64) 3 w17 w.heap.size (fun _ => True) (.slice (some ⟨go13, 0, none⟩) x8_1.length co13) y243 := (by rw [hw, Ny243.out]; exact HP16.1); clear HP16; have n0_ := Aside0.mk (hp_); have n1_ := Aside0.mk ((by rw [hw]; exact below_set (HB.out) GB13.out : Below w.heap.size w w17)); clear HO_8; clear HB; have HO_8 := n0_; have HB := n1_; clear n0_ n1_; clear hg hw hp_; have p244 : 0 ≤ (x9_1 : Int) := of_decide_eq_true sq5; have q244 : x9_1 < (l1.length : Int) := of_decide_eq_true sq5; obtain ⟨ad244, e244, hx244_0⟩ := Kd.at_int HR1.out x9_1 p244 q244; cases e244; replace hx244_0 := (HB.out.cell (World.block_lt_of_cell? w _ hx244_0)).trans hx244_0; replace p244 := eq_true p244; replace q244 := eq_true q244))
            go_roundg k1
            case measure => have := HK1.out; omega
            case rel => exact ⟨(y243), (wrap64 ((rd l1 x9_1) - 1)), (wrap64 (x10_1 - 1)), sq4, sq4, H', ⟨by have := HK1.out; omega⟩, ⟨sq26⟩, ⟨sq55⟩⟩
           rw [if_neg c15] at H
           exact absurd H (by simp)
          rw [if_neg c14] at H
          exact absurd H (by simp)
         rw [if_neg c12] at H
         exact absurd H (by simp)
        rw [if_neg c11] at H
        exact absurd H (by simp)
       rw [if_neg c10] at H
       have c10b0 : decide (0 ≤ x10_1) = false := decide_eq_false c10; clear c10
       obtain rfl := Option.some.inj H
       go_wp2
       go_ret
       exact ⟨_, sq23, sq26, sq55⟩
    rw [if_neg c7] at H
    exact absurd H (by simp)
   rw [if_neg c6] at H
   exact absurd H (by simp)
  rw [if_neg c5] at H
  exact absurd H (by simp)
 rw [if_neg c4] at H
 exact absurd H (by simp)

/-! ### clause_fronts: function 24 -/
def clause_fronts.l0 : Nat → List Int → List Int → List (S43) → Int → Int → Option (List Int)
 | 0, _, _, _, _, _ => none
 | k + 1, x3, x4, x8, x9, x10 => if x10 < x9 then (if 0 ≤ x10 then (if x10 < (x8.length : Int) then (if ((rd_T43 x8 x10).f1) > 0 then (if 0 ≤ (wrap64 ((x3.length : Int) - ((rd_T43 x8 x10).f1))) then (if (wrap64 ((x3.length : Int) - ((rd_T43 x8 x10).f1))) < (x3.length : Int) then (if (wrap64 ((x3.length : Int) - ((rd_T43 x8 x10).f1))) ≤ (x3.length : Int) then ((some (x3.take ((wrap64 ((x3.length : Int) - ((rd_T43 x8 x10).f1))) : Int).toNat : List Int)).bind fun y248 => (if y248.length < 17592186044416 then (if x4.length < 17592186044416 then (clause_fronts.l0 k (y248 ++ [rd x3 (wrap64 ((x3.length : Int) - ((rd_T43 x8 x10).f1)))]) (x4 ++ [rd x3 (wrap64 ((x3.length : Int) - ((rd_T43 x8 x10).f1)))]) x8 x9 (wrap64 (x10 + 1))) else (none)) else (none))) else (none)) else (none)) else (none)) else (if 0 ≤ (wrap64 ((x3.length : Int) - ((rd_T43 x8 x10).f1))) then (if (wrap64 ((x3.length : Int) - ((rd_T43 x8 x10).f1))) ≤ (x3.length : Int) then ((some (x3.take ((wrap64 ((x3.length : Int) - ((rd_T43 x8 x10).f1))) : Int).toNat : List Int)).bind fun y257 => (if y257.length < 17592186044416 then (if x4.length < 17592186044416 then (clause_fronts.l0 k (y257 ++ [x10]) (x4 ++ [x10]) x8 x9 (wrap64 (x10 + 1))) else (none)) else (none))) else (none)) else (none))) else (none)) else (none)) else (some x4)
def clause_fronts.f (k : Nat) (l0 : List (S43)) : Option (List Int) := clause_fronts.l0 k ([] : List Int) ([] : List Int) l0 (l0.length : Int) 0
theorem clause_fronts.mono_l : ∀ k, (∀ y0 y1 y2 y3 y4, LeO (clause_fronts.l0 k y0 y1 y2 y3 y4) (clause_fronts.l0 (k + 1) y0 y1 y2 y3 y4))
 | 0 => fun _ _ _ _ _ r h => by simp [clause_fronts.l0] at h
 | k + 1 => by
  have ih0 := clause_fronts.mono_l k
  ·intro y0 y1 y2 y3 y4
   unfold clause_fronts.l0
   exact sq89
theorem clause_fronts.mono : ∀ a0 k, LeO (clause_fronts.f k a0) (clause_fronts.f (k + 1) a0) := by
 intro a0 k
 have ih0 := clause_fronts.mono_l k
 unfold clause_fronts.f
 exact sq89
set_option maxHeartbeats 8000000 in
set_option maxRecDepth 100000 in
theorem clause_fronts.calls (k : Nat) (A0 : Option Addr) (c0 : Nat) (l0 : List (S43)) (r : List Int) (w : World) (hr0 : Kd.C k43 w A0 l0.length l0) (hc0 : l0.length ≤ c0) (h : clause_fronts.f k l0 = some r) :
  Calls Try.prog 24 #[.slice A0 l0.length c0] w fun e w' => ∃ v0_ : Value, e = .returned (v0_) ∧ Kd.R (Kd.int .i64) 3 w' w.heap.size (fun _ => True) v0_ r ∧ Below w.heap.size w w' := by
 have hu43 := Try.underlying43
 have HR0 := Aside0.mk hr0
 have HC0 := Aside0.mk hc0
 clear hr0 hc0
 have HB := Aside0.mk (Below.refl w.heap.size w)
 have H : (clause_fronts.l0 k ([] : List Int) ([] : List Int) l0 (l0.length : Int) 0) = some r := h
 clear h
 have H' := Aside0.mk H
 clear H
 go_enter Try.func24, Try.ntmps24
 go_wp2
 go_loopg [3, 4, 10] k (fun kq v3 v4 v10 w' => ∃ (x3_1 : List Int) (x4_1 : List Int) (x10_1 : Int), v10 = .int .i64 x10_1 ∧ Aside0 (clause_fronts.l0 kq x3_1 x4_1 l0 (l0.length : Int) x10_1 = some r) ∧ Aside0 (kq ≤ k) ∧ Aside0 (Kd.R (Kd.int .i64) 3 w' w.heap.size (fun k_ => some k_ ≠ (v4 : Value).ownBlock) v3 x3_1) ∧ Aside0 (Kd.R (Kd.int .i64) 3 w' w.heap.size (fun k_ => some k_ ≠ (v3 : Value).ownBlock) v4 x4_1) ∧ Aside0 (Below w.heap.size w w'))
 case atStart => exact ⟨(([] : List Int)), (([] : List Int)), (0), sq4, H', ⟨Nat.le_refl _⟩, ⟨sq57⟩, ⟨sq57⟩, ⟨sq55⟩⟩
 case round =>
  clear H'
  obtain ⟨x3_1, x4_1, x10_1, rfl, HA, HK1, HO_3, HO_4, HB⟩ := hrel
  cases gk with
  | zero => exact absurd HA.out (by simp [clause_fronts.l0])
  | succ k1 =>
   have H := HA.out
   clear HA
   simp only [clause_fronts.l0] at H
   by_cases c2 : x10_1 < (l0.length : Int)
   ·rw [if_pos c2] at H
    have c2b0 : decide (x10_1 < (l0.length : Int)) = true := decide_eq_true c2; clear c2
    by_cases c3 : 0 ≤ x10_1
    ·rw [if_pos c3] at H
     have c3b0 : decide (0 ≤ x10_1) = true := decide_eq_true c3; clear c3
     by_cases c4 : x10_1 < (l0.length : Int)
     ·rw [if_pos c4] at H
      have c4b0 : decide (x10_1 < (l0.length : Int)) = true := decide_eq_true c4; clear c4
      by_cases c5 : ((rd_T43 l0 x10_1).f1) > 0
      ·rw [if_pos c5] at H
       have c5b0 : decide (0 < ((rd_T43 l0 x10_1).f1)) = true := decide_eq_true c5; clear c5
       obtain ⟨ji6, hji6⟩ : ∃ j_ : Int, (wrap64 ((x3_1.length : Int) - ((rd_T43 l0 x10_1).f1))) = j_ := ⟨_, rfl⟩
       replace H : (if 0 ≤ (ji6) then (if (ji6) < (x3_1.length : Int) then (if (ji6) ≤ (x3_1.length : Int) then ((some (x3_1.take ((ji6) : Int).toNat : List Int)).bind fun y248 => (if y248.length < 17592186044416 then (if x4_1.length < 17592186044416 then (clause_fronts.l0 k1 (y248 ++ [rd x3_1 (ji6)]) (x4_1 ++ [rd x3_1 (ji6)]) l0 (l0.length : Int) (wrap64 (x10_1 + 1))) else (none)) else (none))) else (none)) else (none)) else (none)) = some r := by first | (rw [hji6] at H; exact H) | (simp only [hji6] at H ⊢; exact H)
       have hji6w : (IntKind.i64.wrap ((x3_1.length : Int) - ((rd_T43 l0 x10_1).f1))) = ji6 := (i64_w _).trans hji6
       by_cases c7 : 0 ≤ (ji6)
       ·rw [if_pos c7] at H
        have c7b0 : decide (0 ≤ (ji6)) = true := decide_eq_true c7; clear c7
        by_cases c8 : (ji6) < (x3_1.length : Int)
        ·rw [if_pos c8] at H
         have c8b0 : decide ((ji6) < (x3_1.length : Int)) = true := decide_eq_true c8; clear c8
         by_cases c9 : (ji6) ≤ (x3_1.length : Int)
         ·rw [if_pos c9] at H
          have c9b0 := eq_true c9
          have c9b1 : decide ((ji6) ≤ (x3_1.length : Int)) = true := decide_eq_true c9
          clear c9
          obtain ⟨y248, hy248⟩ : ∃ y_ : List Int, y_ = (x3_1.take ((ji6) : Int).toNat) := ⟨_, rfl⟩
          replace H : (if y248.length < 17592186044416 then (if x4_1.length < 17592186044416 then (clause_fronts.l0 k1 (y248 ++ [rd x3_1 (ji6)]) (x4_1 ++ [rd x3_1 (ji6)]) l0 (l0.length : Int) (wrap64 (x10_1 + 1))) else (none)) else (none)) = some r := by first | (rw [hy248]; with_reducible exact H) | (have H2_ := (Option.bind_some _ _).symm.trans H; rw [hy248]; with_reducible exact H2_) | (have H2_ := (Option.bind_some _ _).symm.trans H; with_reducible exact H2_) | with_reducible exact H | (rw [hy248]; exact H) | exact H
          have Ny248 := Aside0.mk hy248
          clear hy248
          by_cases c10 : y248.length < 17592186044416
          ·rw [if_pos c10] at H
           have LMc10 := Aside0.mk c10
           clear c10
           obtain ⟨y251, hy251⟩ : ∃ y_ : List Int, y_ = (y248 ++ [rd x3_1 (ji6)]) := ⟨_, rfl⟩
           replace H : (if x4_1.length < 17592186044416 then (clause_fronts.l0 k1 y251 (x4_1 ++ [rd x3_1 (ji6)]) l0 (l0.length : Int) (wrap64 (x10_1 + 1))) else (none)) = some r := by first | (rw [hy251]; with_reducible exact H) | (have H2_ := (Option.bind_some _ _).symm.trans H; rw [hy251]; with_reducible exact H2_) | (have H2_ := (Option.bind_some _ _).symm.trans H; with_reducible exact H2_) | with_reducible exact H | (rw [hy251]; exact H) | exact H
           have Ny251 := Aside0.mk hy251
           clear hy251
           by_cases c11 : x4_1.length < 17592186044416
           ·rw [if_pos c11] at H
            have LMc11 := Aside0.mk c11
            clear c11
            obtain ⟨y254, hy254⟩ : ∃ y_ : List Int, y_ = (x4_1 ++ [rd x3_1 (ji6)]) := ⟨_, rfl⟩
            replace H : (clause_fronts.l0 k1 y251 y254 l0 (l0.length : Int) (wrap64 (x10_1 + 1))) = some r := by first | (rw [hy254]; with_reducible exact H) | (have H2_ := (Option.bind_some _ _).symm.trans H; rw [hy254]; with_reducible exact H2_) | (have H2_ := (Option.bind_some _ _).symm.trans H; with_reducible exact H2_) | with_reducible exact H | (rw [hy254]; exact H) | exact H
            have Ny254 := Aside0.mk hy254
            clear hy254
            have H' := Aside0.mk H
            clear H
            have p245 : 0 ≤ (x10_1 : Int) := of_decide_eq_true sq5
            have q245 : x10_1 < (l0.length : Int) := of_decide_eq_true sq5
            obtain ⟨ad245, e245, hx245_0, hx245_1, hx245_2⟩ := at_T43 HR0.out x10_1 p245 q245
            cases e245
            try replace hx245_0 := (HB.out.cell (World.block_lt_of_cell? w _ hx245_0)).trans hx245_0
            try replace hx245_1 := (HB.out.cell (World.block_lt_of_cell? w _ hx245_1)).trans hx245_1
            try replace hx245_2 := (HB.out.cell (World.block_lt_of_cell? w _ hx245_2)).trans hx245_2
            replace p245 := eq_true p245
            replace q245 := eq_true q245
            go_wp2_with (first | ((with_reducible refine gate_dst (N := 6) rfl ?_); refine box_event ?hg (N := 6) ?hd (cs := #[.int .i64 0, .int .i64 0, .string (⟨#[]⟩ : ByteArray)]) (t := 43) ?hr ?_; (case hd => rfl); (case hg => rfl); (case hr => first | (go_simp; done) | (go_simp; rfl)); intro gb246 hg w12 hbox hb; have n0_ := Aside0.mk (Kd.R_below (by (with_reducible repeat (first | apply Kd.R_alloc | apply Kd.R_drewN | apply Kd.R_drew)); exact HO_3.out) hb); have n1_ := Aside0.mk (Kd.R_below sq24 hb); have n2_ := Aside0.mk (below_step sq55 hb); have n3_ := Aside0.mk (hbox); have n4_ := Aside0.mk ((by rw [hg]; exact (below_size sq55) : w.heap.size ≤ gb246)); have n5_ := Aside0.mk ((by rw [hg]; exact (below_size sq55) : w.heap.size ≤ gb246)); clear HO_3; clear HO_4; clear HB; have HO_3 := n0_; have HO_4 := n1_; have HB := n2_; have BK246 := n3_; have GW246 := n4_; have GE246 := n5_; clear n0_ n1_ n2_ n3_ n4_ n5_; clear hb hbox hg; have hcz13_0 : w12.cell? ⟨gb246, 0, none⟩ = some (.int .i64 0) := (blk_cell BK246.out 0).trans rfl; have hcz13_1 : w12.cell? ⟨gb246, 1, none⟩ = some (.int .i64 0) := (blk_cell BK246.out 1).trans rfl; have hcz13_2 : w12.cell? ⟨gb246, 2, none⟩ = some (.string (⟨#[]⟩ : ByteArray)) := (blk_cell BK246.out 2).trans rfl; have hfz13_0 := blk_frozen BK246.out 0; have hfz13_1 := blk_frozen BK246.out 1; have hfz13_2 := blk_frozen BK246.out 2) | ((with_reducible refine gate_store (t := 43) (p := 6) rfl ?_); refine store_event (t := 43) (p := 6) (v := ?vo_w14) (w1 := (((w12.setCell ⟨gb246, 0, none⟩ (.int .i64 ((rd_T43 l0 x10_1).f0))).setCell ⟨gb246, 1, none⟩ (.int .i64 ((rd_T43 l0 x10_1).f1))).setCell ⟨gb246, 2, none⟩ (.string ((rd_T43 l0 x10_1).f2)))) ?hg ?ho ?hn ?hr ?_; (case ho => rfl); (case hg => rfl); (case hn => rfl); (case hr => first | (go_simp; done) | (go_simp; rfl)); intro w14 hw; have n0_ : Aside0 (Kd.R (Kd.int .i64) 3 w14 w.heap.size (fun k_ => some k_ ≠ (u4 : Value).ownBlock) u3 x3_1) := ⟨sq100⟩; have n1_ : Aside0 (Kd.R (Kd.int .i64) 3 w14 w.heap.size (fun k_ => some k_ ≠ (u3 : Value).ownBlock) u4 x4_1) := ⟨sq101⟩; have n2_ : Aside0 (w14.heap[gb246]? = some (.cells #[.int .i64 ((rd_T43 l0 x10_1).f0), .int .i64 ((rd_T43 l0 x10_1).f1), .string ((rd_T43 l0 x10_1).f2)] 43 (0, 0))) := ⟨sq139⟩; have n3_ : Aside0 (Below w.heap.size w w14) := ⟨(by rw [hw]; exact sq72)⟩; clear hw; clear HO_3; clear HO_4; clear BK246; clear HB; have HO_3 := n0_; have HO_4 := n1_; have BK246 := n2_; have HB := n3_; clear n0_ n1_ n2_ n3_; have hcz15_0 : w14.cell? ⟨gb246, 0, none⟩ = some (.int .i64 ((rd_T43 l0 x10_1).f0)) := (blk_cell BK246.out 0).trans rfl; have hcz15_1 : w14.cell? ⟨gb246, 1, none⟩ = some (.int .i64 ((rd_T43 l0 x10_1).f1)) := (blk_cell BK246.out 1).trans rfl; have hcz15_2 : w14.cell? ⟨gb246, 2, none⟩ = some (.string ((rd_T43 l0 x10_1).f2)) := (blk_cell BK246.out 2).trans rfl; have hfz15_0 := blk_frozen BK246.out 0; have hfz15_1 := blk_frozen BK246.out 1; have hfz15_2 := blk_frozen BK246.out 2; obtain ⟨Ao16, co16, eo16⟩ := Kd.R_slice HO_3.out; subst eo16; have p247 : 0 ≤ ((ji6) : Int) := of_decide_eq_true sq5; have q247 : (ji6) < (x3_1.length : Int) := of_decide_eq_true sq5; obtain ⟨ad247, e247, hx247_0⟩ := Kd.at_int (Kd.R_reads' HO_3.out).2.2 (ji6) p247 q247; cases e247; replace p247 := eq_true p247; replace q247 := eq_true q247; have q17 : ((ji6) : Int) ≤ ((x3_1.length : Int) : Int) := of_decide_eq_true sq5; obtain ⟨i017, hi017, _, hsz17, _⟩ := info_parts info3; have hcut17 := cut_to (P := Try.prog) 35 3 .i64 Try.underlying35 hi017 (some ad247) x3_1.length co16 (ji6) (of_decide_eq_true sq5) q17 (Kd.R_reads' HO_3.out).2.1; have hr17 := Kd.R_take (m := ((ji6) : Int).toNat) HO_3.out (by omega); have hy17 : y248.length = ((ji6) : Int).toNat := (by rw [Ny248.out, List.length_take]; omega); rw [← Ny248.out] at hr17; rw [← hy17] at hr17 hcut17; clear hy17 hi017 hsz17 HO_3; have HO250 := Aside0.mk hr17; clear hr17; replace q17 := eq_true q17) | ((with_reducible refine gate_builtin (b := .append) (xs := #[.tmp 33, .tmp 35]) rfl ?_); at_builtin; refine Kd.R_append (Kd.int .i64) (w0 := w) w.heap.size rfl (.tmp 33) (.tmp 35) 35 3 (.int .i64 0) 8 rfl Try.underlying35 info3 rfl sq0 (by omega) (.slice (some ad247) y248.length co16) y248 (rd x3_1 (ji6)) [.int .i64 (rd x3_1 (ji6))] (fun k_ => some k_ ≠ (u4 : Value).ownBlock) (fun _ => False) rfl rfl ?aP (fun _ hk => hk.elim) ?aF ?aO ?aB ?aS ?aL ?_; (case aP => exact rfl); (case aB => exact sq72); (case aF => exact (fun k_ hk => Kd.fresh' (Kd.R_lt sq24) k_ hk)); (case aO => exact (by (with_reducible repeat (first | apply Kd.R_alloc | apply Kd.R_drewN | apply Kd.R_drew)); exact HO250.out)); (case aS => exact (below_size sq72)); (case aL => have := LMc10.out; omega); intro v252 w18 ho hb hg hat; rw [← Ny251.out] at ho; have n0_ := Aside0.mk (Kd.R_after (ok := (fun _ => True)) sq80 hg hat); have n1_ := Aside0.mk (blk_grown (g := gb246) (o := .cells #[.int .i64 ((rd_T43 l0 x10_1).f0), .int .i64 ((rd_T43 l0 x10_1).f1), .string ((rd_T43 l0 x10_1).f2)] 43 (0, 0)) sq48 hg (Kd.R_ne HO250.out BK246.out sq0)); have n2_ := Aside0.mk (hb); have n3_ := Aside0.mk (ho); clear HO_4; clear BK246; clear HB; clear HO250; have HO_4 := n0_; have BK246 := n1_; have HB := n2_; have HO253 := n3_; clear n0_ n1_ n2_ n3_; clear ho hb hg hat) | ((with_reducible refine gate_builtin (b := .append) (xs := #[.tmp 37, .tmp 39]) rfl ?_); at_builtin; refine Kd.R_append (Kd.int .i64) (w0 := w) w.heap.size rfl (.tmp 37) (.tmp 39) 35 3 (.int .i64 0) 8 rfl Try.underlying35 info3 rfl sq0 (by omega) u4 x4_1 (rd x3_1 (ji6)) [.int .i64 (rd x3_1 (ji6))] (fun k_ => some k_ ≠ (v252 : Value).ownBlock) (fun _ => False) rfl rfl ?aP (fun _ hk => hk.elim) ?aF ?aO ?aB ?aS ?aL ?_; (case aP => exact rfl); (case aB => exact sq72); (case aF => exact (fun k_ hk => Kd.fresh' (Kd.R_lt (by (with_reducible repeat (first | apply Kd.R_alloc | apply Kd.R_drewN | apply Kd.R_drew)); exact HO253.out)) k_ hk)); (case aO => exact (by (with_reducible repeat (first | apply Kd.R_alloc | apply Kd.R_drewN | apply Kd.R_drew)); exact Kd.R_mono HO_4.out (fun _ hk => hk.2))); (case aS => exact (below_size sq72)); (case aL => have := LMc11.out; omega); intro v255 w19 ho hb hg hat; rw [← Ny254.out] at ho; have n0_ := Aside0.mk (blk_grown (g := gb246) (o := .cells #[.int .i64 ((rd_T43 l0 x10_1).f0), .int .i64 ((rd_T43 l0 x10_1).f1), .string ((rd_T43 l0 x10_1).f2)] 43 (0, 0)) sq48 hg (Kd.R_ne HO_4.out BK246.out sq0)); have n1_ := Aside0.mk (Kd.R_after (ok := (fun _ => True)) (by (with_reducible repeat (first | apply Kd.R_alloc | apply Kd.R_drewN | apply Kd.R_drew)); exact Kd.R_mono HO253.out (fun _ hk => ⟨trivial, by first | exact hk | exact fun e_ => hk (e_.trans (own_len _ _ _ _))⟩)) hg hat); have n2_ := Aside0.mk (hb); have n3_ := Aside0.mk (ho); clear BK246; clear HO253; clear HB; clear HO_4; have BK246 := n0_; have HO253 := n1_; have HB := n2_; have HO256 := n3_; clear n0_ n1_ n2_ n3_; clear ho hb hg hat))
            go_roundg k1
            case measure => have := HK1.out; omega
            case rel => exact ⟨(y251), (y254), (wrap64 (x10_1 + 1)), sq4, H', ⟨by have := HK1.out; omega⟩, ⟨by (with_reducible repeat (first | apply Kd.R_alloc | apply Kd.R_drewN | apply Kd.R_drew)); exact Kd.R_mono HO253.out (fun _ hk => hk.2)⟩, ⟨by (with_reducible repeat (first | apply Kd.R_alloc | apply Kd.R_drewN | apply Kd.R_drew)); exact HO256.out⟩, ⟨sq72⟩⟩
           rw [if_neg c11] at H
           exact absurd H (by simp)
          rw [if_neg c10] at H
          exact absurd H (by simp)
         rw [if_neg c9] at H
         exact absurd H (by simp)
        rw [if_neg c8] at H
        exact absurd H (by simp)
       rw [if_neg c7] at H
       exact absurd H (by simp)
      rw [if_neg c5] at H
      have c5b0 : decide (0 < ((rd_T43 l0 x10_1).f1)) = false := decide_eq_false c5; clear c5
      obtain ⟨ji20, hji20⟩ : ∃ j_ : Int, (wrap64 ((x3_1.length : Int) - ((rd_T43 l0 x10_1).f1))) = j_ := ⟨_, rfl⟩
      replace H : (if 0 ≤ (ji20) then (if (ji20) ≤ (x3_1.length : Int) then ((some (x3_1.take ((ji20) : Int).toNat : List Int)).bind fun y257 => (if y257.length < 17592186044416 then (if x4_1.length < 17592186044416 then (clause_fronts.l0 k1 (y257 ++ [x10_1]) (x4_1 ++ [x10_1]) l0 (l0.length : Int) (wrap64 (x10_1 + 1))) else (none)) else (none))) else (none)) else (none)) = some r := by first | (rw [hji20] at H; exact H) | (simp only [hji20] at H ⊢; exact H)
      have hji20w : (IntKind.i64.wrap ((x3_1.length : Int) - ((rd_T43 l0 x10_1).f1))) = ji20 := (i64_w _).trans hji20
      by_cases c21 : 0 ≤ (ji20)
      ·rw [if_pos c21] at H
       have c21b0 := eq_true c21
       have c21b1 : decide (0 ≤ (ji20)) = true := decide_eq_true c21
       clear c21
       by_cases c22 : (ji20) ≤ (x3_1.length : Int)
       ·rw [if_pos c22] at H
        have c22b0 := eq_true c22
        have c22b1 : decide ((ji20) ≤ (x3_1.length : Int)) = true := decide_eq_true c22
        clear c22
        obtain ⟨y257, hy257⟩ : ∃ y_ : List Int, y_ = (x3_1.take ((ji20) : Int).toNat) := ⟨_, rfl⟩
        replace H : (if y257.length < 17592186044416 then (if x4_1.length < 17592186044416 then (clause_fronts.l0 k1 (y257 ++ [x10_1]) (x4_1 ++ [x10_1]) l0 (l0.length : Int) (wrap64 (x10_1 + 1))) else (none)) else (none)) = some r := by first | (rw [hy257]; with_reducible exact H) | (have H2_ := (Option.bind_some _ _).symm.trans H; rw [hy257]; with_reducible exact H2_) | (have H2_ := (Option.bind_some _ _).symm.trans H; with_reducible exact H2_) | with_reducible exact H | (rw [hy257]; exact H) | exact H
        have Ny257 := Aside0.mk hy257
        clear hy257
        by_cases c23 : y257.length < 17592186044416
        ·rw [if_pos c23] at H
         have LMc23 := Aside0.mk c23
         clear c23
         obtain ⟨y260, hy260⟩ : ∃ y_ : List Int, y_ = (y257 ++ [x10_1]) := ⟨_, rfl⟩
         replace H : (if x4_1.length < 17592186044416 then (clause_fronts.l0 k1 y260 (x4_1 ++ [x10_1]) l0 (l0.length : Int) (wrap64 (x10_1 + 1))) else (none)) = some r := by first | (rw [hy260]; with_reducible exact H) | (have H2_ := (Option.bind_some _ _).symm.trans H; rw [hy260]; with_reducible exact H2_) | (have H2_ := (Option.bind_some _ _).symm.trans H; with_reducible exact H2_) | with_reducible exact H | (rw [hy260]; exact H) | exact H
         have Ny260 := Aside0.mk hy260
         clear hy260
         by_cases c24 : x4_1.length < 17592186044416
         ·rw [if_pos c24] at H
          have LMc24 := Aside0.mk c24
          clear c24
          obtain ⟨y263, hy263⟩ : ∃ y_ : List Int, y_ = (x4_1 ++ [x10_1]) := ⟨_, rfl⟩
          replace H : (clause_fronts.l0 k1 y260 y263 l0 (l0.length : Int) (wrap64 (x10_1 + 1))) = some r := by first | (rw [hy263]; with_reducible exact H) | (have H2_ := (Option.bind_some _ _).symm.trans H; rw [hy263]; with_reducible exact H2_) | (have H2_ := (Option.bind_some _ _).symm.trans H; with_reducible exact H2_) | with_reducible exact H | (rw [hy263]; exact H) | exact H
          have Ny263 := Aside0.mk hy263
          clear hy263
          have H' := Aside0.mk H
          clear H
          have p245 : 0 ≤ (x10_1 : Int) := of_decide_eq_true sq5
          have q245 : x10_1 < (l0.length : Int) := of_decide_eq_true sq5
          obtain ⟨ad245, e245, hx245_0, hx245_1, hx245_2⟩ := at_T43 HR0.out x10_1 p245 q245
          cases e245
          try replace hx245_0 := (HB.out.cell (World.block_lt_of_cell? w _ hx245_0)).trans hx245_0
          try replace hx245_1 := (HB.out.cell (World.block_lt_of_cell? w _ hx245_1)).trans hx245_1
          try replace hx245_2 := (HB.out.cell (World.block_lt_of_cell? w _ hx245_2)).trans hx245_2
          replace p245 := eq_true p245
          replace q245 := eq_true q245
          go_wp2_with (first | ((with_reducible refine gate_dst (N := 6) rfl ?_); refine box_event ?hg (N := 6) ?hd (cs := #[.int .i64 0, .int .i64 0, .string (⟨#[]⟩ : ByteArray)]) (t := 43) ?hr ?_; (case hd => rfl); (case hg => rfl); (case hr => first | (go_simp; done) | (go_simp; rfl)); intro gb246 hg w25 hbox hb; have n0_ := Aside0.mk (Kd.R_below (by (with_reducible repeat (first | apply Kd.R_alloc | apply Kd.R_drewN | apply Kd.R_drew)); exact HO_3.out) hb); have n1_ := Aside0.mk (Kd.R_below sq24 hb); have n2_ := Aside0.mk (below_step sq55 hb); have n3_ := Aside0.mk (hbox); have n4_ := Aside0.mk ((by rw [hg]; exact (below_size sq55) : w.heap.size ≤ gb246)); have n5_ := Aside0.mk ((by rw [hg]; exact (below_size sq55) : w.heap.size ≤ gb246)); clear HO_3; clear HO_4; clear HB; have HO_3 := n0_; have HO_4 := n1_; have HB := n2_; have BK246 := n3_; have GW246 := n4_; have GE246 := n5_; clear n0_ n1_ n2_ n3_ n4_ n5_; clear hb hbox hg; have hcz26_0 : w25.cell? ⟨gb246, 0, none⟩ = some (.int .i64 0) := (blk_cell BK246.out 0).trans rfl; have hcz26_1 : w25.cell? ⟨gb246, 1, none⟩ = some (.int .i64 0) := (blk_cell BK246.out 1).trans rfl; have hcz26_2 : w25.cell? ⟨gb246, 2, none⟩ = some (.string (⟨#[]⟩ : ByteArray)) := (blk_cell BK246.out 2).trans rfl; have hfz26_0 := blk_frozen BK246.out 0; have hfz26_1 := blk_frozen BK246.out 1; have hfz26_2 := blk_frozen BK246.out 2) | ((with_reducible refine gate_store (t := 43) (p := 6) rfl ?_); refine store_event (t := 43) (p := 6) (v := ?vo_w27) (w1 := (((w25.setCell ⟨gb246, 0, none⟩ (.int .i64 ((rd_T43 l0 x10_1).f0))).setCell ⟨gb246, 1, none⟩ (.int .i64 ((rd_T43 l0 x10_1).f1))).setCell ⟨gb246, 2, none⟩ (.string ((rd_T43 l0 x10_1).f2)))) ?hg ?ho ?hn ?hr ?_; (case ho => rfl); (case hg => rfl); (case hn => rfl); (case hr => first | (go_simp; done) | (go_simp; rfl)); intro w27 hw; have n0_ : Aside0 (Kd.R (Kd.int .i64) 3 w27 w.heap.size (fun k_ => some k_ ≠ (u4 : Value).ownBlock) u3 x3_1) := ⟨sq100⟩; have n1_ : Aside0 (Kd.R (Kd.int .i64) 3 w27 w.heap.size (fun k_ => some k_ ≠ (u3 : Value).ownBlock) u4 x4_1) := ⟨sq101⟩; have n2_ : Aside0 (w27.heap[gb246]? = some (.cells #[.int .i64 ((rd_T43 l0 x10_1).f0), .int .i64 ((rd_T43 l0 x10_1).f1), .string ((rd_T43 l0 x10_1).f2)] 43 (0, 0))) := ⟨sq139⟩; have n3_ : Aside0 (Below w.heap.size w w27) := ⟨(by rw [hw]; exact sq72)⟩; clear hw; clear HO_3; clear HO_4; clear BK246; clear HB; have HO_3 := n0_; have HO_4 := n1_; have BK246 := n2_; have HB := n3_; clear n0_ n1_ n2_ n3_; have hcz28_0 : w27.cell? ⟨gb246, 0, none⟩ = some (.int .i64 ((rd_T43 l0 x10_1).f0)) := (blk_cell BK246.out 0).trans rfl; have hcz28_1 : w27.cell? ⟨gb246, 1, none⟩ = some (.int .i64 ((rd_T43 l0 x10_1).f1)) := (blk_cell BK246.out 1).trans rfl; have hcz28_2 : w27.cell? ⟨gb246, 2, none⟩ = some (.string ((rd_T43 l0 x10_1).f2)) := (blk_cell BK246.out 2).trans rfl; have hfz28_0 := blk_frozen BK246.out 0; have hfz28_1 := blk_frozen BK246.out 1; have hfz28_2 := blk_frozen BK246.out 2; obtain ⟨Ao29, co29, eo29⟩ := Kd.R_slice HO_3.out; subst eo29; have q30 : ((ji20) : Int) ≤ ((x3_1.length : Int) : Int) := of_decide_eq_true sq5; obtain ⟨i030, hi030, _, hsz30, _⟩ := info_parts info3; have hcut30 := cut_to (P := Try.prog) 35 3 .i64 Try.underlying35 hi030 Ao29 x3_1.length co29 (ji20) (of_decide_eq_true sq5) q30 (Kd.R_reads' HO_3.out).2.1; have hr30 := Kd.R_take (m := ((ji20) : Int).toNat) HO_3.out (by omega); have hy30 : y257.length = ((ji20) : Int).toNat := (by rw [Ny257.out, List.length_take]; omega); rw [← Ny257.out] at hr30; rw [← hy30] at hr30 hcut30; clear hy30 hi030 hsz30 HO_3; have HO259 := Aside0.mk hr30; clear hr30; replace q30 := eq_true q30) | ((with_reducible refine gate_builtin (b := .append) (xs := #[.tmp 33, .tmp 35]) rfl ?_); at_builtin; refine Kd.R_append (Kd.int .i64) (w0 := w) w.heap.size rfl (.tmp 33) (.tmp 35) 35 3 (.int .i64 0) 8 rfl Try.underlying35 info3 rfl sq0 (by omega) (.slice Ao29 y257.length co29) y257 x10_1 [.int .i64 x10_1] (fun k_ => some k_ ≠ (u4 : Value).ownBlock) (fun _ => False) rfl rfl ?aP (fun _ hk => hk.elim) ?aF ?aO ?aB ?aS ?aL ?_; (case aP => exact rfl); (case aB => exact sq72); (case aF => exact (fun k_ hk => Kd.fresh' (Kd.R_lt sq24) k_ hk)); (case aO => exact (by (with_reducible repeat (first | apply Kd.R_alloc | apply Kd.R_drewN | apply Kd.R_drew)); exact HO259.out)); (case aS => exact (below_size sq72)); (case aL => have := LMc23.out; omega); intro v261 w31 ho hb hg hat; rw [← Ny260.out] at ho; have n0_ := Aside0.mk (Kd.R_after (ok := (fun _ => True)) sq80 hg hat); have n1_ := Aside0.mk (blk_grown (g := gb246) (o := .cells #[.int .i64 ((rd_T43 l0 x10_1).f0), .int .i64 ((rd_T43 l0 x10_1).f1), .string ((rd_T43 l0 x10_1).f2)] 43 (0, 0)) sq48 hg (Kd.R_ne HO259.out BK246.out sq0)); have n2_ := Aside0.mk (hb); have n3_ := Aside0.mk (ho); clear HO_4; clear BK246; clear HB; clear HO259; have HO_4 := n0_; have BK246 := n1_; have HB := n2_; have HO262 := n3_; clear n0_ n1_ n2_ n3_; clear ho hb hg hat) | ((with_reducible refine gate_builtin (b := .append) (xs := #[.tmp 37, .tmp 39]) rfl ?_); at_builtin; refine Kd.R_append (Kd.int .i64) (w0 := w) w.heap.size rfl (.tmp 37) (.tmp 39) 35 3 (.int .i64 0) 8 rfl Try.underlying35 info3 rfl sq0 (by omega) u4 x4_1 x10_1 [.int .i64 x10_1] (fun k_ => some k_ ≠ (v261 : Value).ownBlock) (fun _ => False) rfl rfl ?aP (fun _ hk => hk.elim) ?aF ?aO ?aB ?aS ?aL ?_; (case aP => exact rfl); (case aB => exact sq72); (case aF => exact (fun k_ hk => Kd.fresh' (Kd.R_lt (by (with_reducible repeat (first | apply Kd.R_alloc | apply Kd.R_drewN | apply Kd.R_drew)); exact HO262.out)) k_ hk)); (case aO => exact (by (with_reducible repeat (first | apply Kd.R_alloc | apply Kd.R_drewN | apply Kd.R_drew)); exact Kd.R_mono HO_4.out (fun _ hk => hk.2))); (case aS => exact (below_size sq72)); (case aL => have := LMc24.out; omega); intro v264 w32 ho hb hg hat; rw [← Ny263.out] at ho; have n0_ := Aside0.mk (blk_grown (g := gb246) (o := .cells #[.int .i64 ((rd_T43 l0 x10_1).f0), .int .i64 ((rd_T43 l0 x10_1).f1), .string ((rd_T43 l0 x10_1).f2)] 43 (0, 0)) sq48 hg (Kd.R_ne HO_4.out BK246.out sq0)); have n1_ := Aside0.mk (Kd.R_after (ok := (fun _ => True)) (by (with_reducible repeat (first | apply Kd.R_alloc | apply Kd.R_drewN | apply Kd.R_drew)); exact Kd.R_mono HO262.out (fun _ hk => ⟨trivial, by first | exact hk | exact fun e_ => hk (e_.trans (own_len _ _ _ _))⟩)) hg hat); have n2_ := Aside0.mk (hb); have n3_ := Aside0.mk (ho); clear BK246; clear HO262; clear HB; clear HO_4; have BK246 := n0_; have HO262 := n1_; have HB := n2_; have HO265 := n3_; clear n0_ n1_ n2_ n3_; clear ho hb hg hat))
          go_roundg k1
          case measure => have := HK1.out; omega
          case rel => exact ⟨(y260), (y263), (wrap64 (x10_1 + 1)), sq4, H', ⟨by have := HK1.out; omega⟩, ⟨by (with_reducible repeat (first | apply Kd.R_alloc | apply Kd.R_drewN | apply Kd.R_drew)); exact Kd.R_mono HO262.out (fun _ hk => hk.2)⟩, ⟨by (with_reducible repeat (first | apply Kd.R_alloc | apply Kd.R_drewN | apply Kd.R_drew)); exact HO265.out⟩, ⟨sq72⟩⟩
         rw [if_neg c24] at H
         exact absurd H (by simp)
        rw [if_neg c23] at H
        exact absurd H (by simp)
       rw [if_neg c22] at H
       exact absurd H (by simp)
      rw [if_neg c21] at H
      exact absurd H (by simp)
     rw [if_neg c4] at H
     exact absurd H (by simp)
    rw [if_neg c3] at H
    exact absurd H (by simp)
   rw [if_neg c2] at H
   have c2b0 : decide (x10_1 < (l0.length : Int)) = false := decide_eq_false c2; clear c2
   obtain rfl := Option.some.inj H
   go_wp2
   go_ret
   exact ⟨_, sq23, by (with_reducible repeat (first | apply Kd.R_alloc | apply Kd.R_drewN | apply Kd.R_drew)); exact Kd.R_mono HO_4.out (fun _ hk => trivial), sq55⟩

/-! ### clause_Parts: function 11 -/
def clause_Parts.j0 : Nat → List (S43) → Int → Bool → Option (List Int)
 | 0, _, _, _ => none
 | k + 1, x0, x1, x28 => if x28 = true then (some ([] : List Int)) else ((clause_fronts.f k x0).bind fun t268 => ((clause_partsOf.f k x0 t268 x1).bind fun t271 => (some t271)))
def clause_Parts.f (k : Nat) (l0 : List (S43)) (a1 : Int) : Option (List Int) := (clause_whole.f k l0).bind fun bt266 => (if bt266.2 = true then (if (l0.length : Int) > 1024 then (clause_Parts.j0 k l0 a1 true) else (if a1 < 0 then (clause_Parts.j0 k l0 a1 true) else (clause_Parts.j0 k l0 a1 (decide (a1 ≥ (l0.length : Int)))))) else (clause_Parts.j0 k l0 a1 true))
theorem clause_Parts.mono_l : ∀ k, (∀ y0 y1 y2, LeO (clause_Parts.j0 k y0 y1 y2) (clause_Parts.j0 (k + 1) y0 y1 y2))
 | 0 => fun _ _ _ r h => by simp [clause_Parts.j0] at h
 | k + 1 => by
  have ih0 := clause_Parts.mono_l k
  ·intro y0 y1 y2
   unfold clause_Parts.j0
   exact sq110
theorem clause_Parts.mono : ∀ a0 a1 k, LeO (clause_Parts.f k a0 a1) (clause_Parts.f (k + 1) a0 a1) := by
 intro a0 a1 k
 have ih0 := clause_Parts.mono_l k
 unfold clause_Parts.f
 exact sq110
set_option maxHeartbeats 8000000 in
set_option maxRecDepth 100000 in
theorem clause_Parts.calls (k : Nat) (A0 : Option Addr) (c0 : Nat) (l0 : List (S43)) (a1 : Int) (r : List Int) (w : World) (hG : Glob w) (hr0 : Kd.C k43 w A0 l0.length l0) (hc0 : l0.length ≤ c0) (h : clause_Parts.f k l0 a1 = some r) :
  Calls Try.prog 11 #[.slice A0 l0.length c0, .int .i64 a1] w fun e w' => ∃ v0_ : Value, e = .returned (v0_) ∧ Kd.R (Kd.int .i64) 3 w' w.heap.size (fun _ => True) v0_ r ∧ Below w.heap.size w w' := by
 have HR0 := Aside0.mk hr0
 have HC0 := Aside0.mk hc0
 clear hr0 hc0
 have HB := Aside0.mk (Below.refl w.heap.size w)
 have HG := Aside0.mk hG
 clear hG
 have H : ((clause_whole.f k l0).bind fun bt266 => (if bt266.2 = true then (if (l0.length : Int) > 1024 then (clause_Parts.j0 k l0 a1 true) else (if a1 < 0 then (clause_Parts.j0 k l0 a1 true) else (clause_Parts.j0 k l0 a1 (decide (a1 ≥ (l0.length : Int)))))) else (clause_Parts.j0 k l0 a1 true))) = some r := h
 clear h
 replace H := Option.bind_eq_some_iff.mp H
 obtain ⟨⟨t266, t267⟩, A30, H⟩ := H
 replace H : (if t267 = true then (if (l0.length : Int) > 1024 then (clause_Parts.j0 k l0 a1 true) else (if a1 < 0 then (clause_Parts.j0 k l0 a1 true) else (clause_Parts.j0 k l0 a1 (decide (a1 ≥ (l0.length : Int)))))) else (clause_Parts.j0 k l0 a1 true)) = some r := H
 have A3 := Aside0.mk A30
 clear A30
 have HC4 := Aside0.mk H
 clear H
 go_enter Try.func11, Try.ntmps11
 go_upto_region 2 with (first | ((with_reducible refine gate_callee (f := 22) rfl ?_); refine goesL_ (some 9) rfl rfl Try.func22 sq1 rfl #[.slice A0 l0.length c0] rfl sq56 ?_; (with_reducible refine (clause_whole.calls k _ _ l0 t266 t267 _ ?side3 ?side1 ?side2 A3.out).mono ?_); (case side1 => repeat (first | exact HR0.out | (with_reducible refine Kd.C_alloc ?_ _) | (with_reducible refine Kd.C_drewN ?_ _) | (with_reducible refine Kd.C_drew ?_))); (case side2 => exact HC0.out); (case side3 => exact Glob.below HG.out sq55); rintro e w5 ⟨rfl, hb⟩; refine ⟨_, rfl, ?_⟩; have n0_ := Aside0.mk (below_step sq55 hb); clear HB; have HB := n0_; clear n0_; (try clear hb); (try clear hb2); (try clear hk); (try clear hi)))
 (try simp only [Act.put, List.setIfInBounds_toArray, List.set_cons_zero, List.set_cons_succ])
 go_cut [28] (fun v28 wc => ∃ (kq : Nat) (x28_3 : Bool), v28 = .bool x28_3 ∧ Aside0 (clause_Parts.j0 kq l0 a1 x28_3 = some r) ∧ Aside0 (kq ≤ k) ∧ Aside0 (Below w.heap.size w wc))
 case first =>
  have H := HC4.out
  clear HC4
  by_cases c6 : t267 = true
  ·subst c6
   replace H := (itT_ _ _).symm.trans H
   by_cases c7 : (l0.length : Int) > 1024
   ·rw [if_pos c7] at H
    have c7b0 : decide (1024 < (l0.length : Int)) = true := decide_eq_true c7
    have c7b1 : decide (1024 < l0.length) = true := decide_eq_true (by omega)
    clear c7
    (first | rw [c7b0] | (simp only [i64_w, i32_w]; rw [c7b0]) | skip)
    have H' := Aside0.mk H
    clear H
    go_wp2
    go_meet
    case rel => exact ⟨_, (true), sq4, H', ⟨sq2⟩, ⟨sq55⟩⟩
   rw [if_neg c7] at H
   have c7b0 : decide (1024 < (l0.length : Int)) = false := decide_eq_false c7
   have c7b1 : decide (1024 < l0.length) = false := decide_eq_false (by omega)
   clear c7
   (first | rw [c7b0] | (simp only [i64_w, i32_w]; rw [c7b0]) | skip)
   by_cases c8 : a1 < 0
   ·rw [if_pos c8] at H
    have c8b0 : decide (a1 < 0) = true := decide_eq_true c8; clear c8
    have H' := Aside0.mk H
    clear H
    go_wp2
    go_meet
    case rel => exact ⟨_, (true), sq4, H', ⟨sq2⟩, ⟨sq55⟩⟩
   rw [if_neg c8] at H
   have c8b0 : decide (a1 < 0) = false := decide_eq_false c8; clear c8
   have H' := Aside0.mk H
   clear H
   go_wp2
   go_meet
   case rel => exact ⟨_, (decide (a1 ≥ (l0.length : Int))), sq4, H', ⟨sq2⟩, ⟨sq55⟩⟩
  replace c6 := Bool.eq_false_iff.mpr c6
  subst c6
  replace H := (itF_ _ _).symm.trans H
  have H' := Aside0.mk H
  clear H
  go_wp2
  go_meet
  case rel => exact ⟨_, (true), sq4, H', ⟨sq2⟩, ⟨sq55⟩⟩
 case rest =>
  clear HC4; try clear c1; try clear c2; try clear p2; try clear c6; try clear c7; try clear c7b0; try clear c7b1; try clear c8; try clear c8b0
  obtain ⟨kq, x28_3, rfl, HA, HJ3, HB⟩ := hcut
  cases kq with
  | zero => exact absurd HA.out (by simp [clause_Parts.j0])
  | succ kj3 =>
   have H := HA.out
   clear HA
   simp only [clause_Parts.j0] at H
   by_cases c9 : x28_3 = true
   ·subst c9
    replace H := (itT_ _ _).symm.trans H
    obtain rfl := Option.some.inj H
    go_wp2
    go_ret
    exact ⟨_, sq23, sq57, sq55⟩
   replace c9 := Bool.eq_false_iff.mpr c9
   subst c9
   replace H := (itF_ _ _).symm.trans H
   replace H := Option.bind_eq_some_iff.mp H
   obtain ⟨t268, A100, H⟩ := H
   replace H : ((clause_partsOf.f kj3 l0 t268 a1).bind fun t271 => (some t271)) = some r := H
   have A10 := Aside0.mk A100
   clear A100
   replace H := Option.bind_eq_some_iff.mp H
   obtain ⟨t271, A110, H⟩ := H
   replace H : (some t271) = some r := H
   have A11 := Aside0.mk A110
   clear A110
   obtain rfl := Option.some.inj H
   go_wp2_with (first | ((with_reducible refine gate_callee (f := 24) rfl ?_); refine goesL_ (some 31) rfl rfl Try.func24 sq1 rfl #[.slice A0 l0.length c0] rfl sq56 ?_; (with_reducible refine (clause_fronts.calls kj3 _ _ l0 t268 _ ?side1 ?side2 A10.out).mono ?_); (case side1 => repeat (first | exact (Kd.C_below HR0.out HB.out) | (with_reducible refine Kd.C_alloc ?_ _) | (with_reducible refine Kd.C_drewN ?_ _) | (with_reducible refine Kd.C_drew ?_))); (case side2 => exact HC0.out); rintro e w12 ⟨v269, rfl, ho0, hb⟩; refine ⟨_, rfl, ?_⟩; have n0_ := Aside0.mk (Kd.R_lower ho0 (below_size sq55)); have n1_ := Aside0.mk (below_step sq55 hb); clear HB; have HO270 := n0_; have HB := n1_; clear n0_ n1_; (try clear hb); (try clear hb2); (try clear hk); (try clear hi); (try clear ho0); obtain ⟨Ao13, co13, eo13⟩ := Kd.R_slice HO270.out; subst eo13) | ((with_reducible refine gate_callee (f := 23) rfl ?_); refine goesL_ (some 33) rfl rfl Try.func23 sq1 rfl #[.slice A0 l0.length c0, .slice Ao13 t268.length co13, .int .i64 a1] rfl sq56 ?_; (with_reducible refine (clause_partsOf.calls kj3 _ _ l0 _ _ t268 a1 t271 _ ?side1 ?side2 ?side3 ?side4 A11.out).mono ?_); (case side1 => repeat (first | exact (Kd.C_below HR0.out HB.out) | (with_reducible refine Kd.C_alloc ?_ _) | (with_reducible refine Kd.C_drewN ?_ _) | (with_reducible refine Kd.C_drew ?_))); (case side2 => exact HC0.out); (case side3 => repeat (first | exact (Kd.R_reads' HO270.out).2.2 | (with_reducible refine Kd.C_alloc ?_ _) | (with_reducible refine Kd.C_drewN ?_ _) | (with_reducible refine Kd.C_drew ?_))); (case side4 => exact (Kd.R_reads' HO270.out).2.1); rintro e w14 ⟨v272, rfl, ho0, hb⟩; refine ⟨_, rfl, ?_⟩; have n0_ := Aside0.mk (Kd.R_elder' (by (with_reducible repeat (first | apply Kd.R_alloc | apply Kd.R_drewN | apply Kd.R_drew)); exact HO270.out) (Kd.R_base ho0) hb); have n1_ := Aside0.mk (Kd.R_lower (Kd.R_new' ho0 (Kd.R_lt (by (with_reducible repeat (first | apply Kd.R_alloc | apply Kd.R_drewN | apply Kd.R_drew)); exact HO270.out))) (below_size sq55)); have n2_ := Aside0.mk (below_step sq55 hb); clear HO270; clear HB; have HO270 := n0_; have HO273 := n1_; have HB := n2_; clear n0_ n1_ n2_; (try clear hb); (try clear hb2); (try clear hk); (try clear hi); (try clear ho0)))
   go_ret
   exact ⟨_, sq23, by (with_reducible repeat (first | apply Kd.R_alloc | apply Kd.R_drewN | apply Kd.R_drew)); exact Kd.R_mono HO273.out (fun _ hk => trivial), sq55⟩

/-! ### tontineref17_whole: function 25 -/
def tontineref17_whole.l0 : Nat → List (S43) → Int → Int → Int → Option (Int)
 | 0, _, _, _, _ => none
 | k + 1, x0, x5, x6, x7 => if x6 > 0 then (if 0 ≤ x7 then (if x7 < (x0.length : Int) then (tontineref17_whole.l0 k x0 (wrap64 (x5 + 1)) (wrap64 ((wrap64 (x6 - 1)) + ((rd_T43 x0 x7).f1))) (wrap64 (x7 - 1))) else (none)) else (none)) else (some x5)
def tontineref17_whole.f (k : Nat) (l0 : List (S43)) (a1 : Int) : Option (Int) := tontineref17_whole.l0 k l0 0 1 a1
theorem tontineref17_whole.mono_l : ∀ k, (∀ y0 y1 y2 y3, LeO (tontineref17_whole.l0 k y0 y1 y2 y3) (tontineref17_whole.l0 (k + 1) y0 y1 y2 y3))
 | 0 => fun _ _ _ _ r h => by simp [tontineref17_whole.l0] at h
 | k + 1 => by
  have ih0 := tontineref17_whole.mono_l k
  ·intro y0 y1 y2 y3
   unfold tontineref17_whole.l0
   exact sq88
theorem tontineref17_whole.mono : ∀ a0 a1 k, LeO (tontineref17_whole.f k a0 a1) (tontineref17_whole.f (k + 1) a0 a1) := by
 intro a0 a1 k
 have ih0 := tontineref17_whole.mono_l k
 unfold tontineref17_whole.f
 exact sq88
set_option maxHeartbeats 8000000 in
set_option maxRecDepth 100000 in
theorem tontineref17_whole.calls (k : Nat) (A0 : Option Addr) (c0 : Nat) (l0 : List (S43)) (a1 : Int) (r : Int) (w : World) (hr0 : Kd.C k43 w A0 l0.length l0) (hc0 : l0.length ≤ c0) (h : tontineref17_whole.f k l0 a1 = some r) :
  Calls Try.prog 25 #[.slice A0 l0.length c0, .int .i64 a1] w fun e w' => e = .returned (.int .i64 r) ∧ Drawn0 w w' := by
 have HR0 := Aside0.mk hr0
 have HC0 := Aside0.mk hc0
 clear hr0 hc0
 have H : (tontineref17_whole.l0 k l0 0 1 a1) = some r := h
 clear h
 have H' := Aside0.mk H
 clear H
 go_enter Try.func25, Try.ntmps25
 go_wp2
 go_loopg [5, 6, 7] k (fun kq v5 v6 v7 w' => ∃ (x5_1 : Int) (x6_1 : Int) (x7_1 : Int), v5 = .int .i64 x5_1 ∧ v6 = .int .i64 x6_1 ∧ v7 = .int .i64 x7_1 ∧ Aside0 (tontineref17_whole.l0 kq l0 x5_1 x6_1 x7_1 = some r) ∧ Aside0 (kq ≤ k) ∧ Drawn0 w w')
 case atStart => exact ⟨(0), (1), (a1), sq4, sq4, sq4, H', ⟨Nat.le_refl _⟩, sq7⟩
 case round =>
  clear H'
  try clear c2; try clear p2
  obtain ⟨x5_1, x6_1, x7_1, rfl, rfl, rfl, HA, HK1, ⟨m1, rfl⟩⟩ := hrel
  cases gk with
  | zero => exact absurd HA.out (by simp [tontineref17_whole.l0])
  | succ k1 =>
   have H := HA.out
   clear HA
   simp only [tontineref17_whole.l0] at H
   by_cases c3 : x6_1 > 0
   ·rw [if_pos c3] at H
    have c3b0 : decide (0 < x6_1) = true := decide_eq_true c3; clear c3
    by_cases c4 : 0 ≤ x7_1
    ·rw [if_pos c4] at H
     have c4b0 : decide (0 ≤ x7_1) = true := decide_eq_true c4; clear c4
     by_cases c5 : x7_1 < (l0.length : Int)
     ·rw [if_pos c5] at H
      have c5b0 : decide (x7_1 < (l0.length : Int)) = true := decide_eq_true c5; clear c5
      have H' := Aside0.mk H
      clear H
      have p274 : 0 ≤ (x7_1 : Int) := of_decide_eq_true sq5
      have q274 : x7_1 < (l0.length : Int) := of_decide_eq_true sq5
      obtain ⟨ad274, e274, hx274_0, hx274_1, hx274_2⟩ := at_T43 HR0.out x7_1 p274 q274
      cases e274
      replace p274 := eq_true p274
      replace q274 := eq_true q274
      go_wp2
      go_roundg k1
      case measure => have := HK1.out; omega
      case rel => exact ⟨(wrap64 (x5_1 + 1)), (wrap64 ((wrap64 (x6_1 - 1)) + ((rd_T43 l0 x7_1).f1))), (wrap64 (x7_1 - 1)), sq4, sq4, sq4, H', ⟨by have := HK1.out; omega⟩, sq7⟩
     rw [if_neg c5] at H
     exact absurd H (by simp)
    rw [if_neg c4] at H
    exact absurd H (by simp)
   rw [if_neg c3] at H
   have c3b0 : decide (0 < x6_1) = false := decide_eq_false c3; clear c3
   obtain rfl := Option.some.inj H
   go_wp2
   go_ret
   exact ⟨sq4, sq7⟩

end Go.Proofs.Ytaogejkmkalnlaa.PAll
