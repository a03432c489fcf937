-- Written by a program of this session (wip/tools/print2.sh): functions as plain Lean, and that the machine's calls do what they say.
import Derived.Test.YtpfnnamicbbobaaPAllx0
import Derived.Test.YtpfnnamicbbobaaPAllx5
namespace Go.Proofs.Ytpfnnamicbbobaa.PAll
open Go.RowKit Go.Proofs.YtpfnnamicbbobaaW.PrintWords Go.Proofs.YtpfnnamicbbobaaW.PrintLast Go.Proofs.YtpfnnamicbbobaaW.PrintMore
attribute [local go_sem] max2_int min2_int max_two min_two max_three min_three max_four min_four   -- for this text's walks alone
set_option linter.unusedVariables false
set_option linter.unusedSimpArgs false

/-! ### clause_whole: function 37 -/
mutual
def clause_whole.l0 : Nat → List Int → List (S56) → Int → Int → Option (Int × Bool)
 | 0, _, _, _, _ => none
 | k + 1, x4, x10, x11, x12 => if x12 < x11 then (if 0 ≤ x12 then (if x12 < (x10.length : Int) then ((clause_node.f k ((rd_T56 x10 x12).f0) ((rd_T56 x10 x12).f1) ((rd_T56 x10 x12).f2)).bind fun t195 => (if t195 = true then (clause_whole.j1 k x4 x10 x11 x12 (decide (((rd_T56 x10 x12).f1) > (x4.length : Int))) ((rd_T56 x10 x12).f0) ((rd_T56 x10 x12).f1) ((rd_T56 x10 x12).f2)) else (clause_whole.j1 k x4 x10 x11 x12 true ((rd_T56 x10 x12).f0) ((rd_T56 x10 x12).f1) ((rd_T56 x10 x12).f2)))) else (none)) else (none)) else (if (x4.length : Int) = 1 then (if 0 < (x4.length : Int) then (some (rd x4 0, true)) else (none)) else (some (0, false)))
def clause_whole.j1 : Nat → List Int → List (S56) → Int → Int → Bool → Int → Int → ByteArray → Option (Int × Bool)
 | 0, _, _, _, _, _, _, _, _ => none
 | k + 1, x4, x10, x11, x12, x25, x195000, x195001, x195002 => if x25 = true then (some (0, false)) else (if 0 ≤ (wrap64 ((x4.length : Int) - x195001)) then (if (wrap64 ((x4.length : Int) - x195001)) ≤ (x4.length : Int) then ((some (x4.drop ((wrap64 ((x4.length : Int) - x195001)) : Int).toNat : List Int)).bind fun y196 => (clause_whole.l1 k x4 0 x10 x11 x12 y196 (y196.length : Int) 0 x195000 x195001 x195002)) else (none)) else (none))
def clause_whole.l1 : Nat → List Int → Int → List (S56) → Int → Int → List Int → Int → Int → Int → Int → ByteArray → Option (Int × Bool)
 | 0, _, _, _, _, _, _, _, _, _, _, _ => none
 | k + 1, x4, x7, x10, x11, x12, x32, x33, x34, x195000, x195001, x195002 => if x34 < x33 then (if 0 ≤ x34 then (if x34 < (x32.length : Int) then (clause_whole.l1 k x4 (mx x7 (rd x32 x34)) x10 x11 x12 x32 x33 (wrap64 (x34 + 1)) x195000 x195001 x195002) else (none)) else (none)) else (if 0 ≤ (wrap64 ((x4.length : Int) - x195001)) then (if (wrap64 ((x4.length : Int) - x195001)) ≤ (x4.length : Int) then ((some (x4.take ((wrap64 ((x4.length : Int) - x195001)) : Int).toNat : List Int)).bind fun y201 => (if y201.length < 17592186044416 then (clause_whole.l0 k (y201 ++ [wrap64 (x7 + 1)]) x10 x11 (wrap64 (x12 + 1))) else (none))) else (none)) else (none))
end
def clause_whole.f (k : Nat) (l0 : List (S56)) : Option (Int × Bool) := clause_whole.l0 k ([] : List Int) l0 (l0.length : Int) 0
theorem clause_whole.mono_l : ∀ k, (∀ y0 y1 y2 y3, LeO (clause_whole.l0 k y0 y1 y2 y3) (clause_whole.l0 (k + 1) y0 y1 y2 y3)) ∧ (∀ y0 y1 y2 y3 y4 y5 y6 y7, LeO (clause_whole.j1 k y0 y1 y2 y3 y4 y5 y6 y7) (clause_whole.j1 (k + 1) y0 y1 y2 y3 y4 y5 y6 y7)) ∧ (∀ y0 y1 y2 y3 y4 y5 y6 y7 y8 y9 y10, LeO (clause_whole.l1 k y0 y1 y2 y3 y4 y5 y6 y7 y8 y9 y10) (clause_whole.l1 (k + 1) y0 y1 y2 y3 y4 y5 y6 y7 y8 y9 y10))
 | 0 => ⟨fun _ _ _ _ r h => by simp [clause_whole.l0] at h, fun _ _ _ _ _ _ _ _ r h => by simp [clause_whole.j1] at h, fun _ _ _ _ _ _ _ _ _ _ _ r h => by simp [clause_whole.l1] at h⟩
 | k + 1 => by
  obtain ⟨ih0, ih1, ih2⟩ := clause_whole.mono_l k
  refine ⟨?_, ?_, ?_⟩
  ·intro y0 y1 y2 y3
   unfold clause_whole.l0
   exact sq135
  ·intro y0 y1 y2 y3 y4 y5 y6 y7
   unfold clause_whole.j1
   exact sq135
  intro y0 y1 y2 y3 y4 y5 y6 y7 y8 y9 y10
  unfold clause_whole.l1
  exact sq135
theorem clause_whole.mono : ∀ a0 k, LeO (clause_whole.f k a0) (clause_whole.f (k + 1) a0) := by
 intro a0 k
 obtain ⟨ih0, ih1, ih2⟩ := clause_whole.mono_l k
 unfold clause_whole.f
 exact sq135
set_option maxHeartbeats 8000000 in
set_option maxRecDepth 100000 in
theorem clause_whole.calls (k : Nat) (A0 : Option Addr) (c0 : Nat) (l0 : List (S56)) (r1 : Int) (r2 : Bool) (w : World) (hG : Glob w) (hr0 : Kd.C k56 w A0 l0.length l0) (hc0 : l0.length ≤ c0) (h : clause_whole.f k l0 = some (r1, r2)) :
  Calls Try.prog 37 #[.slice A0 l0.length c0] w fun e w' => e = .returned (.tuple #[.int .i64 r1, .bool r2]) ∧ Below w.heap.size w w' := by
 have hu56 := Try.underlying56
 have HR0 := Aside0.mk hr0
 have HC0 := Aside0.mk hc0
 clear hr0 hc0
 have HB := Aside0.mk (Below.refl w.heap.size w)
 have HG := Aside0.mk hG
 clear hG
 have H : (clause_whole.l0 k ([] : List Int) l0 (l0.length : Int) 0) = some (r1, r2) := h
 clear h
 have H' := Aside0.mk H
 clear H
 go_enter Try.func37, Try.ntmps37
 go_wp2
 go_loopg [4, 12] k (fun kq v4 v12 w' => ∃ (x4_1 : List Int) (x12_1 : Int), v12 = .int .i64 x12_1 ∧ Aside0 (clause_whole.l0 kq x4_1 l0 (l0.length : Int) x12_1 = some (r1, r2)) ∧ Aside0 (kq ≤ k) ∧ Aside0 (Kd.R (Kd.int .i64) 3 w' w.heap.size (fun _ => True) v4 x4_1) ∧ Aside0 (Below w.heap.size w w'))
 case atStart => exact ⟨(([] : List Int)), (0), sq5, H', ⟨Nat.le_refl _⟩, ⟨sq52⟩, ⟨sq50⟩⟩
 case round =>
  clear H'
  obtain ⟨x4_1, x12_1, rfl, HA, HK1, HO_4, HB⟩ := hrel
  cases gk with
  | zero => exact absurd HA.out (by simp [clause_whole.l0])
  | succ k1 =>
   have H := HA.out
   clear HA
   simp only [clause_whole.l0] at H
   by_cases c2 : x12_1 < (l0.length : Int)
   ·rw [if_pos c2] at H
    have c2b0 : decide (x12_1 < (l0.length : Int)) = true := decide_eq_true c2; clear c2
    by_cases c3 : 0 ≤ x12_1
    ·rw [if_pos c3] at H
     have c3b0 : decide (0 ≤ x12_1) = true := decide_eq_true c3; clear c3
     by_cases c4 : x12_1 < (l0.length : Int)
     ·rw [if_pos c4] at H
      have c4b0 : decide (x12_1 < (l0.length : Int)) = true := decide_eq_true c4; clear c4
      have HC5 := Aside0.mk H
      clear H
      have p193 : 0 ≤ (x12_1 : Int) := of_decide_eq_true sq6
      have q193 : x12_1 < (l0.length : Int) := of_decide_eq_true sq6
      obtain ⟨ad193, e193, hx193_0, hx193_1, hx193_2⟩ := at_T56 HR0.out x12_1 p193 q193
      cases e193
      try replace hx193_0 := (HB.out.cell (World.block_lt_of_cell? w _ hx193_0)).trans hx193_0
      try replace hx193_1 := (HB.out.cell (World.block_lt_of_cell? w _ hx193_1)).trans hx193_1
      try replace hx193_2 := (HB.out.cell (World.block_lt_of_cell? w _ hx193_2)).trans hx193_2
      replace p193 := eq_true p193
      replace q193 := eq_true q193
      go_upto_region 5 with (first | ((with_reducible refine gate_dst (N := 6) rfl ?_); (try (refine gate_guard (by rfl) ?_; dsimp only)); refine box_event ?hg (N := 6) ?hd (cs := #[.int .i64 0, .int .i64 0, .string (⟨#[]⟩ : ByteArray)]) (t := 56) ?hr ?_; (case hd => rfl); (case hg => rfl); (case hr => first | (go_simp; done) | (go_simp; rfl)); intro gb194 hg w6 hbox hb; have n0_ := Aside0.mk (Kd.R_below sq14 hb); have n1_ := Aside0.mk (below_step sq50 hb); have n2_ := Aside0.mk (hbox); have n3_ := Aside0.mk ((by rw [hg]; exact (below_size sq50) : w.heap.size ≤ gb194)); have n4_ := Aside0.mk ((by rw [hg]; exact (below_size sq50) : w.heap.size ≤ gb194)); clear HO_4; clear HB; have HO_4 := n0_; have HB := n1_; have BK194 := n2_; have GW194 := n3_; have GE194 := n4_; clear n0_ n1_ n2_ n3_ n4_; clear hb hbox hg; have hcz7_0 : w6.cell? ⟨gb194, 0, none⟩ = some (.int .i64 0) := (blk_cell BK194.out 0).trans rfl; have hcz7_1 : w6.cell? ⟨gb194, 1, none⟩ = some (.int .i64 0) := (blk_cell BK194.out 1).trans rfl; have hcz7_2 : w6.cell? ⟨gb194, 2, none⟩ = some (.string (⟨#[]⟩ : ByteArray)) := (blk_cell BK194.out 2).trans rfl; have hfz7_0 := blk_frozen BK194.out 0; have hfz7_1 := blk_frozen BK194.out 1; have hfz7_2 := blk_frozen BK194.out 2))
      (try simp only [Act.put, List.setIfInBounds_toArray, List.set_cons_zero, List.set_cons_succ])
      go_cut [25] (fun v25 wc => ∃ (kq : Nat) (x25_4 : Bool), v25 = .bool x25_4 ∧ Aside0 (clause_whole.j1 kq x4_1 l0 (l0.length : Int) x12_1 x25_4 ((rd_T56 l0 x12_1).f0) ((rd_T56 l0 x12_1).f1) ((rd_T56 l0 x12_1).f2) = some (r1, r2)) ∧ Aside0 (kq ≤ k1) ∧ Aside0 (Kd.R (Kd.int .i64) 3 wc w.heap.size (fun _ => True) u4 x4_1) ∧ Aside0 (wc.heap[gb194]? = some (.cells #[.int .i64 ((rd_T56 l0 x12_1).f0), .int .i64 ((rd_T56 l0 x12_1).f1), .string ((rd_T56 l0 x12_1).f2)] 56 (0, 0))) ∧ Aside0 (Below w.heap.size w wc))
      case first =>
       have H := HC5.out
       clear HC5
       replace H := Option.bind_eq_some_iff.mp H
       obtain ⟨t195, A80, H⟩ := H
       replace H : (if t195 = true then (clause_whole.j1 k1 x4_1 l0 (l0.length : Int) x12_1 (decide (((rd_T56 l0 x12_1).f1) > (x4_1.length : Int))) ((rd_T56 l0 x12_1).f0) ((rd_T56 l0 x12_1).f1) ((rd_T56 l0 x12_1).f2)) else (clause_whole.j1 k1 x4_1 l0 (l0.length : Int) x12_1 true ((rd_T56 l0 x12_1).f0) ((rd_T56 l0 x12_1).f1) ((rd_T56 l0 x12_1).f2))) = some (r1, r2) := H
       have A8 := Aside0.mk A80
       clear A80
       by_cases c9 : t195 = true
       ·subst c9
        replace H := (itT_ _ _).symm.trans H
        have H' := Aside0.mk H
        clear H
        have hcz10_0 : w6.cell? ⟨gb194, 0, none⟩ = some (.int .i64 0) := (blk_cell BK194.out 0).trans rfl
        have hcz10_1 : w6.cell? ⟨gb194, 1, none⟩ = some (.int .i64 0) := (blk_cell BK194.out 1).trans rfl
        have hcz10_2 : w6.cell? ⟨gb194, 2, none⟩ = some (.string (⟨#[]⟩ : ByteArray)) := (blk_cell BK194.out 2).trans rfl
        have hfz10_0 := blk_frozen BK194.out 0
        have hfz10_1 := blk_frozen BK194.out 1
        have hfz10_2 := blk_frozen BK194.out 2
        go_wp2_with (first | ((with_reducible refine gate_callee (f := 49) rfl ?_); refine goesL_ (some 17) rfl rfl Try.func49 sq2 rfl #[.agg #[.int .i64 ((rd_T56 l0 x12_1).f0), .int .i64 ((rd_T56 l0 x12_1).f1), .string ((rd_T56 l0 x12_1).f2)]] rfl sq51 ?_; (with_reducible refine (clause_node.calls k1 ((rd_T56 l0 x12_1).f0) ((rd_T56 l0 x12_1).f1) ((rd_T56 l0 x12_1).f2) true _ ?side1 A8.out).mono ?_); (case side1 => exact Glob.below HG.out sq61); rintro e w11 ⟨rfl, hb⟩; refine ⟨_, rfl, ?_⟩; have n0_ := Aside0.mk (Kd.R_below sq123 hb); have n1_ := Aside0.mk (blk_below (g := gb194) (o := .cells #[.int .i64 ((rd_T56 l0 x12_1).f0), .int .i64 ((rd_T56 l0 x12_1).f1), .string ((rd_T56 l0 x12_1).f2)] 56 (0, 0)) sq140 hb); have n2_ := Aside0.mk (below_step sq61 hb); clear HO_4; clear BK194; clear HB; have HO_4 := n0_; have BK194 := n1_; have HB := n2_; clear n0_ n1_ n2_; (try clear hb); (try clear hb2); (try clear hk); (try clear hi); have hcz12_0 : w11.cell? ⟨gb194, 0, none⟩ = some (.int .i64 ((rd_T56 l0 x12_1).f0)) := (blk_cell BK194.out 0).trans rfl; have hcz12_1 : w11.cell? ⟨gb194, 1, none⟩ = some (.int .i64 ((rd_T56 l0 x12_1).f1)) := (blk_cell BK194.out 1).trans rfl; have hcz12_2 : w11.cell? ⟨gb194, 2, none⟩ = some (.string ((rd_T56 l0 x12_1).f2)) := (blk_cell BK194.out 2).trans rfl; have hfz12_0 := blk_frozen BK194.out 0; have hfz12_1 := blk_frozen BK194.out 1; have hfz12_2 := blk_frozen BK194.out 2; obtain ⟨Ao13, co13, eo13⟩ := Kd.R_slice HO_4.out; subst eo13))
        go_meet
        case rel => exact ⟨_, (decide (((rd_T56 l0 x12_1).f1) > (x4_1.length : Int))), sq5, H', ⟨by have := HK1.out; first | omega | exact Nat.le_refl _⟩, ⟨sq14⟩, ⟨sq37⟩, ⟨sq61⟩⟩
       replace c9 := Bool.eq_false_iff.mpr c9
       subst c9
       replace H := (itF_ _ _).symm.trans H
       have H' := Aside0.mk H
       clear H
       have hcz14_0 : w6.cell? ⟨gb194, 0, none⟩ = some (.int .i64 0) := (blk_cell BK194.out 0).trans rfl
       have hcz14_1 : w6.cell? ⟨gb194, 1, none⟩ = some (.int .i64 0) := (blk_cell BK194.out 1).trans rfl
       have hcz14_2 : w6.cell? ⟨gb194, 2, none⟩ = some (.string (⟨#[]⟩ : ByteArray)) := (blk_cell BK194.out 2).trans rfl
       have hfz14_0 := blk_frozen BK194.out 0
       have hfz14_1 := blk_frozen BK194.out 1
       have hfz14_2 := blk_frozen BK194.out 2
       go_wp2_with (first | ((with_reducible refine gate_callee (f := 49) rfl ?_); refine goesL_ (some 17) rfl rfl Try.func49 sq2 rfl #[.agg #[.int .i64 ((rd_T56 l0 x12_1).f0), .int .i64 ((rd_T56 l0 x12_1).f1), .string ((rd_T56 l0 x12_1).f2)]] rfl sq51 ?_; (with_reducible refine (clause_node.calls k1 ((rd_T56 l0 x12_1).f0) ((rd_T56 l0 x12_1).f1) ((rd_T56 l0 x12_1).f2) false _ ?side1 A8.out).mono ?_); (case side1 => exact Glob.below HG.out sq61); rintro e w15 ⟨rfl, hb⟩; refine ⟨_, rfl, ?_⟩; have n0_ := Aside0.mk (Kd.R_below sq123 hb); have n1_ := Aside0.mk (blk_below (g := gb194) (o := .cells #[.int .i64 ((rd_T56 l0 x12_1).f0), .int .i64 ((rd_T56 l0 x12_1).f1), .string ((rd_T56 l0 x12_1).f2)] 56 (0, 0)) sq140 hb); have n2_ := Aside0.mk (below_step sq61 hb); clear HO_4; clear BK194; clear HB; have HO_4 := n0_; have BK194 := n1_; have HB := n2_; clear n0_ n1_ n2_; (try clear hb); (try clear hb2); (try clear hk); (try clear hi)))
       go_meet
       case rel => exact ⟨_, (true), sq5, H', ⟨by have := HK1.out; first | omega | exact Nat.le_refl _⟩, ⟨sq14⟩, ⟨sq37⟩, ⟨sq61⟩⟩
      case rest =>
       clear HC5; try clear p1; try clear q1; try clear hx1; try clear c2; try clear c2b0; try clear p2; try clear c3; try clear c3b0; try clear c4; try clear c4b0; try clear c9; try clear hcz10_0; try clear hcz10_1; try clear hcz10_2; try clear hcz12_0; try clear hcz12_1; try clear hcz12_2; try clear hcz14_0; try clear hcz14_1; try clear hcz14_2; try clear hcz7_0; try clear hcz7_1; try clear hcz7_2; try clear hfz10_0; try clear hfz10_1; try clear hfz10_2; try clear hfz12_0; try clear hfz12_1; try clear hfz12_2; try clear hfz14_0; try clear hfz14_1; try clear hfz14_2; try clear hfz7_0; try clear hfz7_1; try clear hfz7_2; try clear hx193_0; try clear hx193_1; try clear hx193_2; try clear p193; try clear q193
       obtain ⟨kq, x25_4, rfl, HA, HJ4, HO_4, BK194, HB⟩ := hcut
       cases kq with
       | zero => exact absurd HA.out (by simp [clause_whole.j1])
       | succ kj4 =>
        have H := HA.out
        clear HA
        simp only [clause_whole.j1] at H
        by_cases c16 : x25_4 = true
        ·subst c16
         replace H := (itT_ _ _).symm.trans H
         simp only [Option.some.injEq, Prod.mk.injEq] at H
         obtain ⟨rfl, rfl⟩ := H
         go_wp2
         go_ret2
         exact ⟨sq11, sq61⟩
        replace c16 := Bool.eq_false_iff.mpr c16
        subst c16
        replace H := (itF_ _ _).symm.trans H
        obtain ⟨ji17, hji17⟩ : ∃ j_ : Int, (wrap64 ((x4_1.length : Int) - ((rd_T56 l0 x12_1).f1))) = j_ := ⟨_, rfl⟩
        replace H : (if 0 ≤ (ji17) then (if (ji17) ≤ (x4_1.length : Int) then ((some (x4_1.drop ((ji17) : Int).toNat : List Int)).bind fun y196 => (clause_whole.l1 kj4 x4_1 0 l0 (l0.length : Int) x12_1 y196 (y196.length : Int) 0 ((rd_T56 l0 x12_1).f0) ((rd_T56 l0 x12_1).f1) ((rd_T56 l0 x12_1).f2))) else (none)) else (none)) = some (r1, r2) := by first | (rw [hji17] at H; exact H) | (simp only [hji17] at H ⊢; exact H)
        have hji17w : (IntKind.i64.wrap ((x4_1.length : Int) - ((rd_T56 l0 x12_1).f1))) = ji17 := (i64_w _).trans hji17
        by_cases c18 : 0 ≤ (ji17)
        ·rw [if_pos c18] at H
         have c18b0 := eq_true c18
         have c18b1 : decide (0 ≤ (ji17)) = true := decide_eq_true c18
         clear c18
         by_cases c19 : (ji17) ≤ (x4_1.length : Int)
         ·rw [if_pos c19] at H
          have c19b0 := eq_true c19
          have c19b1 : decide ((ji17) ≤ (x4_1.length : Int)) = true := decide_eq_true c19
          clear c19
          obtain ⟨y196, hy196⟩ : ∃ y_ : List Int, y_ = (x4_1.drop ((ji17) : Int).toNat) := ⟨_, rfl⟩
          replace H : (clause_whole.l1 kj4 x4_1 0 l0 (l0.length : Int) x12_1 y196 (y196.length : Int) 0 ((rd_T56 l0 x12_1).f0) ((rd_T56 l0 x12_1).f1) ((rd_T56 l0 x12_1).f2)) = some (r1, r2) := by first | (rw [hy196]; with_reducible exact H) | (have H2_ := (Option.bind_some _ _).symm.trans H; rw [hy196]; with_reducible exact H2_) | (have H2_ := (Option.bind_some _ _).symm.trans H; with_reducible exact H2_) | with_reducible exact H | (rw [hy196]; exact H) | exact H
          have Ny196 := Aside0.mk hy196
          clear hy196
          have H' := Aside0.mk H
          clear H
          obtain ⟨Ao20, co20, eo20⟩ := Kd.R_slice HO_4.out
          subst eo20
          have hcz21_0 : wc.cell? ⟨gb194, 0, none⟩ = some (.int .i64 ((rd_T56 l0 x12_1).f0)) := (blk_cell BK194.out 0).trans rfl
          have hcz21_1 : wc.cell? ⟨gb194, 1, none⟩ = some (.int .i64 ((rd_T56 l0 x12_1).f1)) := (blk_cell BK194.out 1).trans rfl
          have hcz21_2 : wc.cell? ⟨gb194, 2, none⟩ = some (.string ((rd_T56 l0 x12_1).f2)) := (blk_cell BK194.out 2).trans rfl
          have hfz21_0 := blk_frozen BK194.out 0
          have hfz21_1 := blk_frozen BK194.out 1
          have hfz21_2 := blk_frozen BK194.out 2
          have q22 : ((ji17) : Int) ≤ ((x4_1.length : Int) : Int) := of_decide_eq_true sq6
          obtain ⟨i022, hi022, _, hsz22, _⟩ := info_parts info3
          have hroom22 : x4_1.length ≤ co20 := (Kd.R_reads' HO_4.out).2.1
          have hC22 : Kd.C (Kd.int .i64) _ Ao20 x4_1.length x4_1 := (Kd.R_reads' HO_4.out).2.2
          have q022 : (0 : Int) ≤ ((ji17) : Int) := of_decide_eq_true sq6
          have hcut22 := cut_from (P := Try.prog) 36 3 .i64 Try.underlying36 hi022 1 hsz22 Ao20 x4_1.length co20 (ji17) q022 q22
          have hr22 := Kd.C_drop (m := ((ji17) : Int).toNat) (c := co20) hC22 sq0 hroom22
          obtain ⟨A22, hA22⟩ : ∃ A1, A1 = (if co20 = ((ji17) : Int).toNat then Ao20 else (Ao20 : Option Addr).map (·.add (((ji17) : Int).toNat * 1))) := ⟨_, rfl⟩
          obtain ⟨c22, hc22⟩ : ∃ c1, c1 = co20 - ((ji17) : Int).toNat := ⟨_, rfl⟩
          have hy22 : y196.length = x4_1.length - ((ji17) : Int).toNat := (by rw [Ny196.out, List.length_drop] <;> omega)
          rw [show (x4_1).drop ((ji17) : Int).toNat = y196 from Ny196.out.symm] at hr22
          replace hr22 : Kd.C (Kd.int .i64) _ A22 y196.length y196 := (by rw [hA22]; exact hr22)
          rw [← hy22, ← hA22, ← hc22] at hcut22
          have HR199 := Aside0.mk hr22
          have HC199 := Aside0.mk (show y196.length ≤ c22 from by rw [hy22, hc22]; exact Nat.sub_le_sub_right hroom22 _)
          clear hr22 hC22 hroom22 hi022 hsz22 hc22
          have KY22 := Aside0.mk hy22
          have KA22 := Aside0.mk hA22
          clear hy22 hA22
          have KL22 := Aside0.mk (show ((ji17) : Int).toNat ≤ x4_1.length from by omega)
          replace q22 := eq_true q22
          go_wp2
          go_loopg [7, 34] kj4 (fun kq v7 v34 w' => ∃ (x7_3 : Int) (x34_3 : Int), v7 = .int .i64 x7_3 ∧ v34 = .int .i64 x34_3 ∧ Aside0 (clause_whole.l1 kq x4_1 x7_3 l0 (l0.length : Int) x12_1 y196 (y196.length : Int) x34_3 ((rd_T56 l0 x12_1).f0) ((rd_T56 l0 x12_1).f1) ((rd_T56 l0 x12_1).f2) = some (r1, r2)) ∧ Aside0 (kq ≤ kj4) ∧ Aside0 (Kd.R (Kd.int .i64) 3 w' w.heap.size (fun _ => True) (.slice Ao20 x4_1.length co20) x4_1) ∧ Aside0 (w'.heap[gb194]? = some (.cells #[.int .i64 ((rd_T56 l0 x12_1).f0), .int .i64 ((rd_T56 l0 x12_1).f1), .string ((rd_T56 l0 x12_1).f2)] 56 (0, 0))) ∧ Aside0 (Kd.C (Kd.int .i64) w' A22 y196.length y196) ∧ Aside0 (Below w.heap.size w w'))
          case atStart => exact ⟨(0), (0), sq5, sq5, H', ⟨Nat.le_refl _⟩, ⟨sq14⟩, ⟨sq37⟩, ⟨by repeat (first | (with_reducible exact HR199.out) | (with_reducible refine Kd.C_alloc ?_ _) | (with_reducible refine Kd.C_drewN ?_ _) | (with_reducible refine Kd.C_drew ?_) | exact HR199.out)⟩, ⟨sq61⟩⟩
          case round =>
           clear H'
           try clear c1; try clear p1; try clear q1; try clear hx1; try clear c2; try clear c2b0; try clear p2; try clear q2; try clear c3; try clear c3b0; try clear c4; try clear c4b0; try clear p6; try clear c9; try clear c16; try clear c18; try clear c18b0; try clear c18b1; try clear c19; try clear c19b0; try clear c19b1; try clear p19; try clear q19; try clear hx19; try clear c22; try clear q22; try clear hcz10_0; try clear hcz10_1; try clear hcz10_2; try clear hcz12_0; try clear hcz12_1; try clear hcz12_2; try clear hcz14_0; try clear hcz14_1; try clear hcz14_2; try clear hcz21_0; try clear hcz21_1; try clear hcz21_2; try clear hcz7_0; try clear hcz7_1; try clear hcz7_2; try clear hfz10_0; try clear hfz10_1; try clear hfz10_2; try clear hfz12_0; try clear hfz12_1; try clear hfz12_2; try clear hfz14_0; try clear hfz14_1; try clear hfz14_2; try clear hfz21_0; try clear hfz21_1; try clear hfz21_2; try clear hfz7_0; try clear hfz7_1; try clear hfz7_2; try clear hx193_0; try clear hx193_1; try clear hx193_2; try clear p1; try clear p193; try clear p2; try clear q022; try clear q1; try clear q193; try clear q22
           obtain ⟨x7_3, x34_3, rfl, rfl, HA, HK3, HO_4, BK194, HR199, HB⟩ := hrel
           cases gk with
           | zero => exact absurd HA.out (by simp [clause_whole.l1])
           | succ k3 =>
            have H := HA.out
            clear HA
            simp only [clause_whole.l1] at H
            by_cases c23 : x34_3 < (y196.length : Int)
            ·rw [if_pos c23] at H
             have c23b0 : decide (x34_3 < (y196.length : Int)) = true := decide_eq_true c23; clear c23
             by_cases c24 : 0 ≤ x34_3
             ·rw [if_pos c24] at H
              have c24b0 : decide (0 ≤ x34_3) = true := decide_eq_true c24; clear c24
              by_cases c25 : x34_3 < (y196.length : Int)
              ·rw [if_pos c25] at H
               have c25b0 : decide (x34_3 < (y196.length : Int)) = true := decide_eq_true c25; clear c25
               obtain ⟨ji26, hji26⟩ : ∃ j_ : Int, (mx x7_3 (rd y196 x34_3)) = j_ := ⟨_, rfl⟩
               replace H : (clause_whole.l1 k3 x4_1 ji26 l0 (l0.length : Int) x12_1 y196 (y196.length : Int) (wrap64 (x34_3 + 1)) ((rd_T56 l0 x12_1).f0) ((rd_T56 l0 x12_1).f1) ((rd_T56 l0 x12_1).f2)) = some (r1, r2) := by first | (rw [hji26] at H; exact H) | (simp only [hji26] at H ⊢; exact H)
               have hji26_ : (if x7_3 < (rd y196 x34_3) then (rd y196 x34_3) else x7_3) = ji26 := hji26
               have H' := Aside0.mk H
               clear H
               have p200 : 0 ≤ (x34_3 : Int) := of_decide_eq_true sq6
               have q200 : x34_3 < (y196.length : Int) := of_decide_eq_true sq6
               obtain ⟨ad200, e200, hx200_0⟩ := Kd.at_int HR199.out x34_3 p200 q200
               cases e200
               try replace hx200_0 := (HB.out.cell (World.block_lt_of_cell? w _ hx200_0)).trans hx200_0
               replace p200 := eq_true p200
               replace q200 := eq_true q200
               go_wp2
               go_roundg k3
               case measure => have := HK1.out; have := HJ4.out; have := HK3.out; omega
               case rel => exact ⟨(ji26), (wrap64 (x34_3 + 1)), (by first | rfl | (simp; done) | (simp only [← hji26] <;> (first | rfl | simp)) | (simp [*]; done)), sq5, H', ⟨by have := HK1.out; have := HJ4.out; have := HK3.out; omega⟩, ⟨sq14⟩, ⟨sq37⟩, ⟨by repeat (first | (with_reducible exact HR199.out) | (with_reducible refine Kd.C_alloc ?_ _) | (with_reducible refine Kd.C_drewN ?_ _) | (with_reducible refine Kd.C_drew ?_) | exact HR199.out)⟩, ⟨sq61⟩⟩
              rw [if_neg c25] at H
              exact absurd H (by simp)
             rw [if_neg c24] at H
             exact absurd H (by simp)
            rw [if_neg c23] at H
            have c23b0 : decide (x34_3 < (y196.length : Int)) = false := decide_eq_false c23; clear c23
            obtain ⟨ji27, hji27⟩ : ∃ j_ : Int, (wrap64 ((x4_1.length : Int) - ((rd_T56 l0 x12_1).f1))) = j_ := ⟨_, rfl⟩
            replace H : (if 0 ≤ (ji27) then (if (ji27) ≤ (x4_1.length : Int) then ((some (x4_1.take ((ji27) : Int).toNat : List Int)).bind fun y201 => (if y201.length < 17592186044416 then (clause_whole.l0 k3 (y201 ++ [wrap64 (x7_3 + 1)]) l0 (l0.length : Int) (wrap64 (x12_1 + 1))) else (none))) else (none)) else (none)) = some (r1, r2) := by first | (rw [hji27] at H; exact H) | (simp only [hji27] at H ⊢; exact H)
            have hji27w : (IntKind.i64.wrap ((x4_1.length : Int) - ((rd_T56 l0 x12_1).f1))) = ji27 := (i64_w _).trans hji27
            try (obtain rfl : ji27 = ji17 := hji27.symm.trans hji17)
            by_cases c28 : 0 ≤ (ji27)
            ·rw [if_pos c28] at H
             have c28b0 := eq_true c28
             have c28b1 : decide (0 ≤ (ji27)) = true := decide_eq_true c28
             clear c28
             by_cases c29 : (ji27) ≤ (x4_1.length : Int)
             ·rw [if_pos c29] at H
              have c29b0 := eq_true c29
              have c29b1 : decide ((ji27) ≤ (x4_1.length : Int)) = true := decide_eq_true c29
              clear c29
              obtain ⟨y201, hy201⟩ : ∃ y_ : List Int, y_ = (x4_1.take ((ji27) : Int).toNat) := ⟨_, rfl⟩
              replace H : (if y201.length < 17592186044416 then (clause_whole.l0 k3 (y201 ++ [wrap64 (x7_3 + 1)]) l0 (l0.length : Int) (wrap64 (x12_1 + 1))) else (none)) = some (r1, r2) := by first | (rw [hy201]; with_reducible exact H) | (have H2_ := (Option.bind_some _ _).symm.trans H; rw [hy201]; with_reducible exact H2_) | (have H2_ := (Option.bind_some _ _).symm.trans H; with_reducible exact H2_) | with_reducible exact H | (rw [hy201]; exact H) | exact H
              have Ny201 := Aside0.mk hy201
              clear hy201
              by_cases c30 : y201.length < 17592186044416
              ·rw [if_pos c30] at H
               have LMc30 := Aside0.mk c30
               clear c30
               obtain ⟨y204, hy204⟩ : ∃ y_ : List Int, y_ = (y201 ++ [wrap64 (x7_3 + 1)]) := ⟨_, rfl⟩
               replace H : (clause_whole.l0 k3 y204 l0 (l0.length : Int) (wrap64 (x12_1 + 1))) = some (r1, r2) := by first | (rw [hy204]; with_reducible exact H) | (have H2_ := (Option.bind_some _ _).symm.trans H; rw [hy204]; with_reducible exact H2_) | (have H2_ := (Option.bind_some _ _).symm.trans H; with_reducible exact H2_) | with_reducible exact H | (rw [hy204]; exact H) | exact H
               have Ny204 := Aside0.mk hy204
               clear hy204
               have H' := Aside0.mk H
               clear H
               have hcz31_0 : wr.cell? ⟨gb194, 0, none⟩ = some (.int .i64 ((rd_T56 l0 x12_1).f0)) := (blk_cell BK194.out 0).trans rfl
               have hcz31_1 : wr.cell? ⟨gb194, 1, none⟩ = some (.int .i64 ((rd_T56 l0 x12_1).f1)) := (blk_cell BK194.out 1).trans rfl
               have hcz31_2 : wr.cell? ⟨gb194, 2, none⟩ = some (.string ((rd_T56 l0 x12_1).f2)) := (blk_cell BK194.out 2).trans rfl
               have hfz31_0 := blk_frozen BK194.out 0
               have hfz31_1 := blk_frozen BK194.out 1
               have hfz31_2 := blk_frozen BK194.out 2
               have q32 : ((ji27) : Int) ≤ ((x4_1.length : Int) : Int) := of_decide_eq_true sq6
               obtain ⟨i032, hi032, _, hsz32, _⟩ := info_parts info3
               have hcut32 := cut_to (P := Try.prog) 36 3 .i64 Try.underlying36 hi032 Ao20 x4_1.length co20 (ji27) (of_decide_eq_true sq6) q32 (Kd.R_reads' HO_4.out).2.1
               have hr32 := Kd.R_take (m := ((ji27) : Int).toNat) HO_4.out sq0
               have hy32 : y201.length = ((ji27) : Int).toNat := (by rw [Ny201.out, List.length_take]; omega)
               rw [← Ny201.out] at hr32
               rw [← hy32] at hr32 hcut32
               clear hy32 hi032 hsz32 HO_4
               have HO203 := Aside0.mk hr32
               clear hr32
               replace q32 := eq_true q32
               go_wp2_with (first | ((with_reducible refine gate_builtin (b := .append) (xs := #[.tmp 48, .tmp 51]) rfl ?_); (try (refine gate_guard (by rfl) ?_; dsimp only)); at_builtin; refine Kd.R_append (Kd.int .i64) (w0 := w) w.heap.size rfl (.tmp 48) (.tmp 51) 36 3 (.int .i64 0) 8 rfl Try.underlying36 info3 rfl sq1 sq0 (.slice Ao20 y201.length co20) y201 (wrap64 (x7_3 + 1)) [.int .i64 (wrap64 (x7_3 + 1))] (fun _ => True) (fun _ => False) rfl rfl ?aP (fun _ hk => hk.elim) ?aF ?aO ?aB ?aS ?aL ?_; (case aP => exact rfl); (case aB => exact sq61); (case aF => exact (fun _ _ => trivial)); (case aO => exact (by (with_reducible repeat (first | apply Kd.R_alloc | apply Kd.R_drewN | apply Kd.R_drew)); exact HO203.out)); (case aS => exact (below_size sq61)); (case aL => have := LMc30.out; omega); intro v205 w33 ho hb hg hat; rw [← Ny204.out] at ho; have n0_ := Aside0.mk (blk_grown (g := gb194) (o := .cells #[.int .i64 ((rd_T56 l0 x12_1).f0), .int .i64 ((rd_T56 l0 x12_1).f1), .string ((rd_T56 l0 x12_1).f2)] 56 (0, 0)) sq37 hg (Kd.R_ne HO203.out BK194.out sq1)); have n1_ := Aside0.mk (hb); have n2_ := Aside0.mk (ho); clear BK194; clear HB; clear HO203; have BK194 := n0_; have HB := n1_; have HO206 := n2_; clear n0_ n1_ n2_; clear ho hb hg hat))
               go_roundg k3
               case measure => have := HK1.out; have := HJ4.out; have := HK3.out; omega
               case rel => exact ⟨(y204), (wrap64 (x12_1 + 1)), sq5, H', ⟨by have := HK1.out; have := HJ4.out; have := HK3.out; omega⟩, ⟨by (with_reducible repeat (first | apply Kd.R_alloc | apply Kd.R_drewN | apply Kd.R_drew)); exact HO206.out⟩, ⟨sq61⟩⟩
              rw [if_neg c30] at H
              exact absurd H (by simp)
             rw [if_neg c29] at H
             exact absurd H (by simp)
            rw [if_neg c28] at H
            exact absurd H (by simp)
         rw [if_neg c19] at H
         exact absurd H (by simp)
        rw [if_neg c18] at H
        exact absurd H (by simp)
     rw [if_neg c4] at H
     exact absurd H (by simp)
    rw [if_neg c3] at H
    exact absurd H (by simp)
   rw [if_neg c2] at H
   have c2b0 : decide (x12_1 < (l0.length : Int)) = false := decide_eq_false c2; clear c2
   by_cases c34 : (x4_1.length : Int) = 1
   ·rw [if_pos c34] at H
    have c34b0 : ((x4_1.length : Int) == 1) = true := beq_iff_eq.mpr c34
    have c34b1 : ((x4_1.length : Int) != 1) = false := bne_eq_false_iff_eq.mpr c34
    clear c34
    by_cases c35 : 0 < (x4_1.length : Int)
    ·rw [if_pos c35] at H
     have c35b0 : decide (0 < (x4_1.length : Int)) = true := decide_eq_true c35
     have c35b1 : decide (0 < x4_1.length) = true := decide_eq_true sq0
     clear c35
     simp only [Option.some.injEq, Prod.mk.injEq] at H
     obtain ⟨rfl, rfl⟩ := H
     obtain ⟨Ao36, co36, eo36⟩ := Kd.R_slice HO_4.out
     subst eo36
     have p192 : 0 ≤ (0 : Int) := sq0
     have q192 : 0 < (x4_1.length : Int) := of_decide_eq_true sq6
     obtain ⟨ad192, e192, hx192_0⟩ := Kd.at_int (Kd.R_reads' HO_4.out).2.2 0 p192 q192
     cases e192
     have qi192 : (0 < x4_1.length) = True := eq_true sq0
     (try rw [show ((0 : Int)).toNat = 0 from rfl] at hx192_0)
     (try rw [Addr.add_zero'] at hx192_0)
     replace p192 := eq_true p192
     replace q192 := eq_true q192
     go_wp2
     go_ret2
     exact ⟨sq11, sq50⟩
    rw [if_neg c35] at H
    exact absurd H (by simp)
   rw [if_neg c34] at H
   have c34b0 : ((x4_1.length : Int) == 1) = false := beq_eq_false_iff_ne.mpr c34
   have c34b1 : ((x4_1.length : Int) != 1) = true := bne_iff_ne.mpr c34
   simp only [Option.some.injEq, Prod.mk.injEq] at H
   obtain ⟨rfl, rfl⟩ := H
   obtain ⟨Ao37, co37, eo37⟩ := Kd.R_slice HO_4.out
   subst eo37
   go_wp2
   go_ret2
   exact ⟨sq11, sq50⟩

/-! ### clause_worst: function 46 -/
def clause_worst.l0 : Nat → Int → List (List (S56)) → Int → Int → Option (Int)
 | 0, _, _, _, _ => none
 | k + 1, x5, x11, x12, x13 => if x13 < x12 then (if 0 ≤ x13 then (if x13 < (x11.length : Int) then ((clause_whole.f k (rd_L5 x11 x13)).bind fun bt208 => (if bt208.2 = true then (clause_worst.l0 k (mx x5 bt208.1) x11 x12 (wrap64 (x13 + 1))) else (some 5))) else (none)) else (none)) else (if x5 > 64 then (some 173) else (some 0))
def clause_worst.f (k : Nat) (a0 : Bool) (l1 : List (List (S56))) : Option (Int) := if a0 = true then (some 3) else (clause_worst.l0 k 0 l1 (l1.length : Int) 0)
theorem clause_worst.mono_l : ∀ k, (∀ y0 y1 y2 y3, LeO (clause_worst.l0 k y0 y1 y2 y3) (clause_worst.l0 (k + 1) y0 y1 y2 y3))
 | 0 => fun _ _ _ _ r h => by simp [clause_worst.l0] at h
 | k + 1 => by
  have ih0 := clause_worst.mono_l k
  ·intro y0 y1 y2 y3
   unfold clause_worst.l0
   exact sq102
theorem clause_worst.mono : ∀ a0 a1 k, LeO (clause_worst.f k a0 a1) (clause_worst.f (k + 1) a0 a1) := by
 intro a0 a1 k
 have ih0 := clause_worst.mono_l k
 unfold clause_worst.f
 exact sq102
set_option maxHeartbeats 8000000 in
set_option maxRecDepth 100000 in
theorem clause_worst.calls (k : Nat) (a0 : Bool) (A1 : Option Addr) (c1 : Nat) (l1 : List (List (S56))) (r : Int) (w : World) (hG : Glob w) (hr1 : Kd.C (Kd.slice 56 k56) w A1 l1.length l1) (hc1 : l1.length ≤ c1) (h : clause_worst.f k a0 l1 = some r) :
  Calls Try.prog 46 #[.bool a0, .slice A1 l1.length c1] w fun e w' => e = .returned (.int .i64 r) ∧ Below w.heap.size w w' := by
 have HR1 := Aside0.mk hr1
 have HC1 := Aside0.mk hc1
 clear hr1 hc1
 have HB := Aside0.mk (Below.refl w.heap.size w)
 have HG := Aside0.mk hG
 clear hG
 have H : (if a0 = true then (some 3) else (clause_worst.l0 k 0 l1 (l1.length : Int) 0)) = some r := h
 clear h
 by_cases c3 : a0 = true
 ·subst c3
  replace H := (itT_ _ _).symm.trans H
  obtain rfl := Option.some.inj H
  go_enter Try.func46, Try.ntmps46
  go_wp2
  go_ret
  exact ⟨sq11, sq50⟩
 replace c3 := Bool.eq_false_iff.mpr c3
 subst c3
 replace H := (itF_ _ _).symm.trans H
 have H' := Aside0.mk H
 clear H
 go_enter Try.func46, Try.ntmps46
 go_wp2
 go_loopg [5, 13] k (fun kq v5 v13 w' => ∃ (x5_1 : Int) (x13_1 : Int), v5 = .int .i64 x5_1 ∧ v13 = .int .i64 x13_1 ∧ Aside0 (clause_worst.l0 kq x5_1 l1 (l1.length : Int) x13_1 = some r) ∧ Aside0 (kq ≤ k) ∧ Aside0 (Below w.heap.size w w'))
 case atStart => exact ⟨(0), (0), sq5, sq5, H', ⟨Nat.le_refl _⟩, ⟨sq50⟩⟩
 case round =>
  clear H'
  try clear c1; try clear p2; try clear c3
  obtain ⟨x5_1, x13_1, rfl, rfl, HA, HK1, HB⟩ := hrel
  cases gk with
  | zero => exact absurd HA.out (by simp [clause_worst.l0])
  | succ k1 =>
   have H := HA.out
   clear HA
   simp only [clause_worst.l0] at H
   by_cases c4 : x13_1 < (l1.length : Int)
   ·rw [if_pos c4] at H
    have c4b0 : decide (x13_1 < (l1.length : Int)) = true := decide_eq_true c4; clear c4
    by_cases c5 : 0 ≤ x13_1
    ·rw [if_pos c5] at H
     have c5b0 : decide (0 ≤ x13_1) = true := decide_eq_true c5; clear c5
     by_cases c6 : x13_1 < (l1.length : Int)
     ·rw [if_pos c6] at H
      have c6b0 : decide (x13_1 < (l1.length : Int)) = true := decide_eq_true c6; clear c6
      replace H := Option.bind_eq_some_iff.mp H
      obtain ⟨⟨t208, t209⟩, A70, H⟩ := H
      replace H : (if t209 = true then (clause_worst.l0 k1 (mx x5_1 t208) l1 (l1.length : Int) (wrap64 (x13_1 + 1))) else (some 5)) = some r := H
      have A7 := Aside0.mk A70
      clear A70
      by_cases c8 : t209 = true
      ·subst c8
       replace H := (itT_ _ _).symm.trans H
       obtain ⟨ji9, hji9⟩ : ∃ j_ : Int, (mx x5_1 t208) = j_ := ⟨_, rfl⟩
       replace H : (clause_worst.l0 k1 ji9 l1 (l1.length : Int) (wrap64 (x13_1 + 1))) = some r := by first | (rw [hji9] at H; exact H) | (simp only [hji9] at H ⊢; exact H)
       (try rw [hji9] at A7)
       have hji9_ : (if x5_1 < t208 then t208 else x5_1) = ji9 := hji9
       have H' := Aside0.mk H
       clear H
       have p207 : 0 ≤ (x13_1 : Int) := of_decide_eq_true sq6
       have q207 : x13_1 < (l1.length : Int) := of_decide_eq_true sq6
       obtain ⟨ad207, A207_0, c207_0, e207, hx207_0, hl207_0, hi207_0⟩ := at_L5 HR1.out x13_1 p207 q207
       cases e207
       try replace hx207_0 := (HB.out.cell (World.block_lt_of_cell? w _ hx207_0)).trans hx207_0
       have HR207_0 := Aside0.mk hi207_0
       have HC207_0 := Aside0.mk hl207_0
       clear hi207_0 hl207_0
       replace p207 := eq_true p207
       replace q207 := eq_true q207
       go_wp2_with (first | ((with_reducible refine gate_callee (f := 37) rfl ?_); refine goesL_ (some 19) rfl rfl Try.func37 sq2 rfl #[.slice A207_0 (rd_L5 l1 x13_1).length c207_0] rfl sq51 ?_; (with_reducible refine (clause_whole.calls k1 _ _ (rd_L5 l1 x13_1) t208 true _ ?side3 ?side1 ?side2 A7.out).mono ?_); (case side1 => repeat (first | exact (Kd.C_below HR207_0.out HB.out) | (with_reducible refine Kd.C_alloc ?_ _) | (with_reducible refine Kd.C_drewN ?_ _) | (with_reducible refine Kd.C_drew ?_))); (case side2 => exact HC207_0.out); (case side3 => exact Glob.below HG.out sq50); rintro e w10 ⟨rfl, hb⟩; refine ⟨_, rfl, ?_⟩; have n0_ := Aside0.mk (below_step sq50 hb); clear HB; have HB := n0_; clear n0_; (try clear hb); (try clear hb2); (try clear hk); (try clear hi)))
       go_roundg k1
       case measure => have := HK1.out; omega
       case rel => exact ⟨(ji9), (wrap64 (x13_1 + 1)), (by first | rfl | (simp; done) | (simp only [← hji9] <;> (first | rfl | simp)) | (simp [*]; done)), sq5, H', ⟨by have := HK1.out; omega⟩, ⟨sq50⟩⟩
      replace c8 := Bool.eq_false_iff.mpr c8
      subst c8
      replace H := (itF_ _ _).symm.trans H
      obtain rfl := Option.some.inj H
      have p207 : 0 ≤ (x13_1 : Int) := of_decide_eq_true sq6
      have q207 : x13_1 < (l1.length : Int) := of_decide_eq_true sq6
      obtain ⟨ad207, A207_0, c207_0, e207, hx207_0, hl207_0, hi207_0⟩ := at_L5 HR1.out x13_1 p207 q207
      cases e207
      try replace hx207_0 := (HB.out.cell (World.block_lt_of_cell? w _ hx207_0)).trans hx207_0
      have HR207_0 := Aside0.mk hi207_0
      have HC207_0 := Aside0.mk hl207_0
      clear hi207_0 hl207_0
      replace p207 := eq_true p207
      replace q207 := eq_true q207
      go_wp2_with (first | ((with_reducible refine gate_callee (f := 37) rfl ?_); refine goesL_ (some 19) rfl rfl Try.func37 sq2 rfl #[.slice A207_0 (rd_L5 l1 x13_1).length c207_0] rfl sq51 ?_; (with_reducible refine (clause_whole.calls k1 _ _ (rd_L5 l1 x13_1) t208 false _ ?side3 ?side1 ?side2 A7.out).mono ?_); (case side1 => repeat (first | exact (Kd.C_below HR207_0.out HB.out) | (with_reducible refine Kd.C_alloc ?_ _) | (with_reducible refine Kd.C_drewN ?_ _) | (with_reducible refine Kd.C_drew ?_))); (case side2 => exact HC207_0.out); (case side3 => exact Glob.below HG.out sq50); rintro e w11 ⟨rfl, hb⟩; refine ⟨_, rfl, ?_⟩; have n0_ := Aside0.mk (below_step sq50 hb); clear HB; have HB := n0_; clear n0_; (try clear hb); (try clear hb2); (try clear hk); (try clear hi)))
      go_ret
      exact ⟨sq11, sq50⟩
     rw [if_neg c6] at H
     exact absurd H (by simp)
    rw [if_neg c5] at H
    exact absurd H (by simp)
   rw [if_neg c4] at H
   have c4b0 : decide (x13_1 < (l1.length : Int)) = false := decide_eq_false c4
   try (have c4e0 := c4b0; rw [hl207_0] at c4e0)
   clear c4
   by_cases c12 : x5_1 > 64
   ·rw [if_pos c12] at H
    have c12b0 : decide (64 < x5_1) = true := decide_eq_true c12
    try (have c12e0 := c12b0; rw [hl207_0] at c12e0)
    clear c12
    obtain rfl := Option.some.inj H
    go_wp2
    go_ret
    exact ⟨sq11, sq50⟩
   rw [if_neg c12] at H
   have c12b0 : decide (64 < x5_1) = false := decide_eq_false c12
   try (have c12e0 := c12b0; rw [hl207_0] at c12e0)
   clear c12
   obtain rfl := Option.some.inj H
   go_wp2
   go_ret
   exact ⟨sq11, sq50⟩

/-! ### clause_CheckFormula: function 31 -/
def clause_CheckFormula.f (k : Nat) (l0 : List (S56)) : Option (Int) := (clause_worst.f k (decide ((l0.length : Int) > 1024)) (([l0] : List (List (S56))))).bind fun t213 => (some t213)
theorem clause_CheckFormula.mono : ∀ a0 k, LeO (clause_CheckFormula.f k a0) (clause_CheckFormula.f (k + 1) a0) := by
 intro a0 k
 unfold clause_CheckFormula.f
 exact (by repeat' first | (with_reducible exact clause_worst.mono _ _ _) | (with_reducible exact LeO.refl _) | (with_reducible exact LeO.none _) | (with_reducible refine LeO.ite ?_ ?_) | (with_reducible refine LeO.bind ?_ (fun _ => ?_)) | exact clause_worst.mono _ _ _ | exact LeO.none _ | refine LeO.ite ?_ ?_ | refine LeO.bind ?_ (fun _ => ?_))
set_option maxHeartbeats 8000000 in
set_option maxRecDepth 100000 in
theorem clause_CheckFormula.calls (k : Nat) (P0_ : Nat → Prop) (A0 : Option Addr) (c0 : Nat) (l0 : List (S56)) (r : Int) (w : World) (hG : Glob w) (hs0 : Kd.V k56 56 w w.heap.size (fun k_ => P0_ k_) (.slice A0 l0.length c0) l0) (h : clause_CheckFormula.f k l0 = some r) :
  Calls Try.prog 31 #[.slice A0 l0.length c0] w fun e w' => e = .returned (.int .i64 r) ∧ Below w.heap.size w w' := by
 have HO0 := Aside0.mk (show Kd.V k56 56 w w.heap.size (fun k_ => (P0_ k_ ∨ w.heap.size ≤ k_)) (.slice A0 l0.length c0) l0 from Kd.V_mono hs0 (fun k_ hk => .inl hk))
 have HB := Aside0.mk (Below.refl w.heap.size w)
 have HG := Aside0.mk hG
 clear hG
 have H : ((clause_worst.f k (decide ((l0.length : Int) > 1024)) (([l0] : List (List (S56))))).bind fun t213 => (some t213)) = some r := h
 clear h
 obtain ⟨y210, hy210⟩ : ∃ y_ : List (List (S56)), y_ = (([l0] : List (List (S56)))) := ⟨_, rfl⟩
 replace H : ((clause_worst.f k (decide ((l0.length : Int) > 1024)) y210).bind fun t213 => (some t213)) = some r := by first | (rw [hy210]; with_reducible exact H) | (have H2_ := (Option.bind_some _ _).symm.trans H; rw [hy210]; with_reducible exact H2_) | (have H2_ := (Option.bind_some _ _).symm.trans H; with_reducible exact H2_) | with_reducible exact H | (rw [hy210]; exact H) | exact H
 have Ny210 := Aside0.mk hy210
 clear hy210
 replace H := Option.bind_eq_some_iff.mp H
 obtain ⟨t213, A20, H⟩ := H
 replace H : (some t213) = some r := H
 have A2 := Aside0.mk A20
 clear A20
 obtain rfl := Option.some.inj H
 go_enter Try.func31, Try.ntmps31
 go_wp2_with (first | ((with_reducible refine gate_dst (N := 7) rfl ?_); refine Kd.N_lit (Kd.slice 56 k56) _ 23 ?hg (N' := 7) ?hd (xs := ([l0] : List (List (S56)))) (inner := [.slice A0 l0.length c0]) (ok := (fun k_ => (P0_ k_ ∨ w.heap.size ≤ k_))) (okp := (fun k_ => (P0_ k_ ∨ w.heap.size ≤ k_))) ?hr ?hp (fun _ hk => hk) ((show ∀ k_, w.heap.size ≤ k_ → (fun k_ => (P0_ k_ ∨ w.heap.size ≤ k_)) k_ from fun k_ hk => (.inr (Nat.le_trans (below_size sq50) hk))) _ (Nat.le_refl _)) (Below.refl _ _) (Nat.le_refl _) (by simp) ?_; (case hd => rfl); (case hg => rfl); (case hr => first | (go_simp; done) | (go_simp; rfl)); (case hp => exact (Reps.one (show Kd.FK (Kd.slice 56 k56) _ _ l0 [.slice A0 l0.length c0] from (Kd.FK_slice_mk (Kd.V_reads' (Kd.V_mono (ok' := (fun k_ => (P0_ k_ ∨ w.heap.size ≤ k_))) (HO0.out) (fun k_ hk => hk))).2.1 (Kd.V_F (Kd.V_mono (ok' := (fun k_ => (P0_ k_ ∨ w.heap.size ≤ k_))) (HO0.out) (fun k_ hk => hk))))) (Reps.none _ _))); intro v211 w3 ho4 hb hg_ hnew_; clear hg_ hnew_; (first | rw [← Ny210.out] at ho4 | (simp only [Int.reduceToNat] at ho4; rw [← Ny210.out] at ho4)); have n0_ := Aside0.mk (Kd.V_elder' (by (with_reducible repeat (first | apply Kd.V_alloc | apply Kd.V_drewN | apply Kd.V_drew)); exact HO0.out) (Kd.N_base ho4) hb); have n1_ := Aside0.mk (Kd.N_lower ho4 (below_size sq50)); have n2_ := Aside0.mk (below_step sq50 hb); clear HO0; clear HB; have HO0 := n0_; have HO212 := n1_; have HB := n2_; clear n0_ n1_ n2_; clear hb ho4; obtain ⟨Ao5, co5, eo5⟩ := Kd.N_slice HO212.out; subst eo5) | ((with_reducible refine gate_callee (f := 46) rfl ?_); refine goesL_ (some 8) rfl rfl Try.func46 sq2 rfl #[.bool (decide ((l0.length : Int) > 1024)), .slice Ao5 y210.length co5] rfl sq51 ?_; (with_reducible refine (clause_worst.calls k (decide ((l0.length : Int) > 1024)) _ _ y210 t213 _ ?side3 ?side1 ?side2 A2.out).mono ?_); (case side1 => repeat (first | exact (Kd.N_reads' HO212.out).2.2 | (with_reducible refine Kd.C_alloc ?_ _) | (with_reducible refine Kd.C_drewN ?_ _) | (with_reducible refine Kd.C_drew ?_))); (case side2 => exact (Kd.N_reads' HO212.out).2.1); (case side3 => exact Glob.below HG.out sq50); rintro e w6 ⟨rfl, hb⟩; refine ⟨_, rfl, ?_⟩; have n0_ := Aside0.mk (Kd.V_below (by (with_reducible repeat (first | apply Kd.V_alloc | apply Kd.V_drewN | apply Kd.V_drew)); exact HO0.out) hb); have n1_ := Aside0.mk (Kd.N_below (by (with_reducible repeat (first | apply Kd.N_alloc | apply Kd.N_drewN | apply Kd.N_drew)); exact HO212.out) hb); have n2_ := Aside0.mk (below_step sq50 hb); clear HO0; clear HO212; clear HB; have HO0 := n0_; have HO212 := n1_; have HB := n2_; clear n0_ n1_ n2_; (try clear hb); (try clear hb2); (try clear hk); (try clear hi)))
 go_ret
 exact ⟨sq11, sq50⟩

end Go.Proofs.Ytpfnnamicbbobaa.PAll
