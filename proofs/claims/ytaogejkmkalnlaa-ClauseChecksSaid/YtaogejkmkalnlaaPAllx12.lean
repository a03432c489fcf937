-- Written by a program of this session (wip/tools/print2.sh): functions as plain Lean, and that the machine's calls do what they say.
import Derived.Test.YtaogejkmkalnlaaPAllx0
import Derived.Test.YtaogejkmkalnlaaPAllx7
import Derived.Test.YtaogejkmkalnlaaPAllx8
import Derived.Test.YtaogejkmkalnlaaPAllx11
namespace Go.Proofs.Ytaogejkmkalnlaa.PAll
open Go.RowKit Go.Proofs.YtaogejkmkalnlaaW.PrintWords Go.Proofs.YtaogejkmkalnlaaW.PrintLast Go.Proofs.YtaogejkmkalnlaaW.PrintMore
attribute [local go_sem] max2_int min2_int max_two min_two max_three min_three max_four min_four   -- for this text's walks alone
set_option linter.unusedVariables false
set_option linter.unusedSimpArgs false

/-! ### tontineref17_Check: function 8 -/
mutual
def tontineref17_Check.j0 : Nat → Int → ByteArray → List (S41) → Option (Int)
 | 0, _, _, _ => none
 | k + 1, x3, x221000, x221001 => tontineref17_Check.l0 k x3 false 0 x221000 x221001
def tontineref17_Check.l0 : Nat → Int → Bool → Int → ByteArray → List (S41) → Option (Int)
 | 0, _, _, _, _, _ => none
 | k + 1, x3, x4, x5, x221000, x221001 => if x5 < (x221001.length : Int) then (if 0 ≤ x5 then ((tontineref17_line.f k ((rd_T41 x221001 x5).f0) ((rd_T41 x221001 x5).f1) ((rd_T41 x221001 x5).f2) ((rd_T41 x221001 x5).f3) ((rd_T41 x221001 x5).f4) ((rd_T41 x221001 x5).f5)).bind fun t223 => (if t223 = true then (tontineref17_Check.j2 k x3 x4 x5 x221000 x221001) else (tontineref17_Check.j2 k 5 x4 x5 x221000 x221001))) else (none)) else (if x3 = 0 then (if x4 = true then (some 173) else (some x3)) else (some x3))
def tontineref17_Check.j2 : Nat → Int → Bool → Int → ByteArray → List (S41) → Option (Int)
 | 0, _, _, _, _, _ => none
 | k + 1, x3, x4, x5, x221000, x221001 => if 0 ≤ x5 then (if x5 < (x221001.length : Int) then ((tontineref17_formulas.f ((rd_T41 x221001 x5).f0) ((rd_T41 x221001 x5).f1) ((rd_T41 x221001 x5).f2) ((rd_T41 x221001 x5).f3) ((rd_T41 x221001 x5).f4) ((rd_T41 x221001 x5).f5)).bind fun t225 => (tontineref17_Check.l1 k x3 x4 x5 t225 0 x221000 x221001)) else (none)) else (none)
def tontineref17_Check.l1 : Nat → Int → Bool → Int → List (List (S43)) → Int → ByteArray → List (S41) → Option (Int)
 | 0, _, _, _, _, _, _, _ => none
 | k + 1, x3, x4, x5, x6, x7, x221000, x221001 => if x7 < 3 then (if 0 ≤ x7 then (if x7 < (x6.length : Int) then (if ((rd_L3 x6 x7).length : Int) > 1024 then (some 3) else ((tontineref17_Right.f k (rd_L3 x6 x7)).bind fun bt230 => (if ((rd_L3 x6 x7).length : Int) > 0 then (if bt230.1 = true then (if x4 = true then (tontineref17_Check.l1 k x3 true x5 x6 (wrap64 (x7 + 1)) x221000 x221001) else (tontineref17_Check.l1 k x3 (decide (bt230.2 > 64)) x5 x6 (wrap64 (x7 + 1)) x221000 x221001)) else (if x4 = true then (tontineref17_Check.l1 k 5 true x5 x6 (wrap64 (x7 + 1)) x221000 x221001) else (tontineref17_Check.l1 k 5 (decide (bt230.2 > 64)) x5 x6 (wrap64 (x7 + 1)) x221000 x221001))) else (if x4 = true then (tontineref17_Check.l1 k x3 true x5 x6 (wrap64 (x7 + 1)) x221000 x221001) else (tontineref17_Check.l1 k x3 (decide (bt230.2 > 64)) x5 x6 (wrap64 (x7 + 1)) x221000 x221001))))) else (none)) else (none)) else (tontineref17_Check.l0 k x3 x4 (wrap64 (x5 + 1)) x221000 x221001)
end
def tontineref17_Check.f (k : Nat) (a0_0 : ByteArray) (l0_1 : List (S41)) : Option (Int) := if (l0_1.length : Int) > 128 then (some 3) else ((tontinebase_Name.f k a0_0).bind fun t221 => (if t221 = true then (tontineref17_Check.j0 k 0 a0_0 l0_1) else (tontineref17_Check.j0 k 5 a0_0 l0_1)))
theorem tontineref17_Check.mono_l : ∀ k, (∀ y0 y1 y2, LeO (tontineref17_Check.j0 k y0 y1 y2) (tontineref17_Check.j0 (k + 1) y0 y1 y2)) ∧ (∀ y0 y1 y2 y3 y4, LeO (tontineref17_Check.l0 k y0 y1 y2 y3 y4) (tontineref17_Check.l0 (k + 1) y0 y1 y2 y3 y4)) ∧ (∀ y0 y1 y2 y3 y4, LeO (tontineref17_Check.j2 k y0 y1 y2 y3 y4) (tontineref17_Check.j2 (k + 1) y0 y1 y2 y3 y4)) ∧ (∀ y0 y1 y2 y3 y4 y5 y6, LeO (tontineref17_Check.l1 k y0 y1 y2 y3 y4 y5 y6) (tontineref17_Check.l1 (k + 1) y0 y1 y2 y3 y4 y5 y6))
 | 0 => ⟨fun _ _ _ r h => by simp [tontineref17_Check.j0] at h, fun _ _ _ _ _ r h => by simp [tontineref17_Check.l0] at h, fun _ _ _ _ _ r h => by simp [tontineref17_Check.j2] at h, fun _ _ _ _ _ _ _ r h => by simp [tontineref17_Check.l1] at h⟩
 | k + 1 => by
  obtain ⟨ih0, ih1, ih2, ih3⟩ := tontineref17_Check.mono_l k
  refine ⟨?_, ?_, ?_, ?_⟩
  ·intro y0 y1 y2
   unfold tontineref17_Check.j0
   exact sq138
  ·intro y0 y1 y2 y3 y4
   unfold tontineref17_Check.l0
   exact sq138
  ·intro y0 y1 y2 y3 y4
   unfold tontineref17_Check.j2
   exact sq138
  intro y0 y1 y2 y3 y4 y5 y6
  unfold tontineref17_Check.l1
  exact sq138
theorem tontineref17_Check.mono : ∀ a0 a1 k, LeO (tontineref17_Check.f k a0 a1) (tontineref17_Check.f (k + 1) a0 a1) := by
 intro a0 a1 k
 obtain ⟨ih0, ih1, ih2, ih3⟩ := tontineref17_Check.mono_l k
 unfold tontineref17_Check.f
 exact sq138
set_option maxHeartbeats 8000000 in
set_option maxRecDepth 100000 in
theorem tontineref17_Check.calls (k : Nat) (a0_0 : ByteArray) (A0_1 : Option Addr) (c0_1 : Nat) (l0_1 : List (S41)) (r : Int) (w : World) (hr0_1 : Kd.C k41 w A0_1 l0_1.length l0_1) (hc0_1 : l0_1.length ≤ c0_1) (h : tontineref17_Check.f k a0_0 l0_1 = some r) :
  Calls Try.prog 8 #[.agg #[.string a0_0, .slice A0_1 l0_1.length c0_1]] w fun e w' => e = .returned (.int .i64 r) ∧ Below w.heap.size w w' := by
 have hu24 := Try.underlying24
 have hu41 := Try.underlying41
 have HR0_1 := Aside0.mk hr0_1
 have HC0_1 := Aside0.mk hc0_1
 clear hr0_1 hc0_1
 have HB := Aside0.mk (Below.refl w.heap.size w)
 have H : (if (l0_1.length : Int) > 128 then (some 3) else ((tontinebase_Name.f k a0_0).bind fun t221 => (if t221 = true then (tontineref17_Check.j0 k 0 a0_0 l0_1) else (tontineref17_Check.j0 k 5 a0_0 l0_1)))) = some r := h
 clear h
 by_cases c2 : (l0_1.length : Int) > 128
 ·rw [if_pos c2] at H
  have c2b0 : decide (128 < (l0_1.length : Int)) = true := decide_eq_true c2
  have c2b1 : decide (128 < l0_1.length) = true := decide_eq_true (by omega)
  clear c2
  obtain rfl := Option.some.inj H
  go_enter Try.func8, Try.ntmps8
  go_wp2_with (first | ((with_reducible refine gate_dst (N := 1) rfl ?_); refine box_event ?hg (N := 1) ?hd (cs := #[.string a0_0, .slice A0_1 l0_1.length c0_1]) (t := 24) ?hr ?_; (case hd => rfl); (case hg => rfl); (case hr => first | (go_simp; done) | (go_simp; rfl)); intro gb220 hg w3 hbox hb; have n0_ := Aside0.mk (below_step sq55 hb); have n1_ := Aside0.mk (hbox); have n2_ := Aside0.mk ((by rw [hg]; exact (below_size sq55) : w.heap.size ≤ gb220)); have n3_ := Aside0.mk ((by rw [hg]; exact (below_size sq55) : w.heap.size ≤ gb220)); clear HB; have HB := n0_; have BK220 := n1_; have GW220 := n2_; have GE220 := n3_; clear n0_ n1_ n2_ n3_; clear hb hbox hg; have hcz4_0 : w3.cell? ⟨gb220, 0, none⟩ = some (.string a0_0) := (blk_cell BK220.out 0).trans rfl; have hcz4_1 : w3.cell? ⟨gb220, 1, none⟩ = some (.slice A0_1 l0_1.length c0_1) := (blk_cell BK220.out 1).trans rfl; have hfz4_0 := blk_frozen BK220.out 0; have hfz4_1 := blk_frozen BK220.out 1))
  go_ret
  exact ⟨sq23, sq71⟩
 rw [if_neg c2] at H
 have c2b0 : decide (128 < (l0_1.length : Int)) = false := decide_eq_false c2
 have c2b1 : decide (128 < l0_1.length) = false := decide_eq_false (by omega)
 clear c2
 replace H := Option.bind_eq_some_iff.mp H
 obtain ⟨t221, A50, H⟩ := H
 replace H : (if t221 = true then (tontineref17_Check.j0 k 0 a0_0 l0_1) else (tontineref17_Check.j0 k 5 a0_0 l0_1)) = some r := H
 have A5 := Aside0.mk A50
 clear A50
 have HC6 := Aside0.mk H
 clear H
 go_enter Try.func8, Try.ntmps8
 go_upto_if 17 with (first | ((with_reducible refine gate_dst (N := 1) rfl ?_); refine box_event ?hg (N := 1) ?hd (cs := #[.string a0_0, .slice A0_1 l0_1.length c0_1]) (t := 24) ?hr ?_; (case hd => rfl); (case hg => rfl); (case hr => first | (go_simp; done) | (go_simp; rfl)); intro gb220 hg w7 hbox hb; have n0_ := Aside0.mk (below_step sq55 hb); have n1_ := Aside0.mk (hbox); have n2_ := Aside0.mk ((by rw [hg]; exact (below_size sq55) : w.heap.size ≤ gb220)); have n3_ := Aside0.mk ((by rw [hg]; exact (below_size sq55) : w.heap.size ≤ gb220)); clear HB; have HB := n0_; have BK220 := n1_; have GW220 := n2_; have GE220 := n3_; clear n0_ n1_ n2_ n3_; clear hb hbox hg; have hcz8_0 : w7.cell? ⟨gb220, 0, none⟩ = some (.string a0_0) := (blk_cell BK220.out 0).trans rfl; have hcz8_1 : w7.cell? ⟨gb220, 1, none⟩ = some (.slice A0_1 l0_1.length c0_1) := (blk_cell BK220.out 1).trans rfl; have hfz8_0 := blk_frozen BK220.out 0; have hfz8_1 := blk_frozen BK220.out 1) | ((with_reducible refine gate_callee (f := 18) rfl ?_); refine goesL_ (some 16) rfl rfl Try.func18 sq1 rfl #[.string a0_0] rfl sq56 ?_; (with_reducible refine (tontinebase_Name.calls k a0_0 t221 _ A5.out).mono ?_); rintro e w' ⟨rfl, ⟨nd, rfl⟩⟩; refine ⟨_, rfl, ?_⟩))
 (try simp only [Act.put, List.setIfInBounds_toArray, List.set_cons_zero, List.set_cons_succ])
 go_cut [3] (fun v3 wc => ∃ (kq : Nat) (x3_5 : Int), v3 = .int .i64 x3_5 ∧ Aside0 (tontineref17_Check.j0 kq x3_5 a0_0 l0_1 = some r) ∧ Aside0 (kq ≤ k) ∧ Aside0 (wc.heap[gb220]? = some (.cells #[.string a0_0, (.slice A0_1 l0_1.length c0_1)] 24 (0, 0))) ∧ Aside0 (Below w.heap.size w wc))
 case first =>
  have H := HC6.out
  clear HC6
  by_cases c9 : t221 = true
  ·subst c9
   replace H := (itT_ _ _).symm.trans H
   have H' := Aside0.mk H
   clear H
   go_wp2
   go_meet
   case rel => exact ⟨_, (0), sq4, H', ⟨sq2⟩, ⟨sq47⟩, ⟨sq71⟩⟩
  replace c9 := Bool.eq_false_iff.mpr c9
  subst c9
  replace H := (itF_ _ _).symm.trans H
  have H' := Aside0.mk H
  clear H
  go_wp2
  go_meet
  case rel => exact ⟨_, (5), sq4, H', ⟨sq2⟩, ⟨sq47⟩, ⟨sq71⟩⟩
 case rest =>
  clear HC6; try clear c1; try clear c2; try clear c2b0; try clear c2b1; try clear p2; try clear c8; try clear c9; try clear hcz4_0; try clear hcz4_1; try clear hcz8_0; try clear hcz8_1; try clear hfz4_0; try clear hfz4_1; try clear hfz8_0; try clear hfz8_1
  obtain ⟨kq, x3_5, rfl, HA, HJ5, BK220, HB⟩ := hcut
  cases kq with
  | zero => exact absurd HA.out (by simp [tontineref17_Check.j0])
  | succ kj5 =>
   have H := HA.out
   clear HA
   simp only [tontineref17_Check.j0] at H
   have H' := Aside0.mk H
   clear H
   go_wp2
   go_loopg [3, 4, 5] kj5 (fun kq v3 v4 v5 w' => ∃ (x3_2 : Int) (x4_2 : Bool) (x5_2 : Int), v3 = .int .i64 x3_2 ∧ v4 = .bool x4_2 ∧ v5 = .int .i64 x5_2 ∧ Aside0 (tontineref17_Check.l0 kq x3_2 x4_2 x5_2 a0_0 l0_1 = some r) ∧ Aside0 (kq ≤ kj5) ∧ Aside0 (w'.heap[gb220]? = some (.cells #[.string a0_0, (.slice A0_1 l0_1.length c0_1)] 24 (0, 0))) ∧ Aside0 (Below w.heap.size w w'))
   case atStart => exact ⟨(x3_5), (false), (0), sq4, sq4, sq4, H', ⟨Nat.le_refl _⟩, ⟨sq47⟩, ⟨sq71⟩⟩
   case round =>
    clear H'
    try clear c1; try clear c2; try clear c2b0; try clear c2b1; try clear p2; try clear c8; try clear c9; try clear hcz4_0; try clear hcz4_1; try clear hcz8_0; try clear hcz8_1; try clear hfz4_0; try clear hfz4_1; try clear hfz8_0; try clear hfz8_1; try clear p2
    obtain ⟨x3_2, x4_2, x5_2, rfl, rfl, rfl, HA, HK2, BK220, HB⟩ := hrel
    cases gk with
    | zero => exact absurd HA.out (by simp [tontineref17_Check.l0])
    | succ k2 =>
     have H := HA.out
     clear HA
     simp only [tontineref17_Check.l0] at H
     by_cases c10 : x5_2 < (l0_1.length : Int)
     ·rw [if_pos c10] at H
      have c10b0 : decide (x5_2 < (l0_1.length : Int)) = true := decide_eq_true c10; clear c10
      by_cases c11 : 0 ≤ x5_2
      ·rw [if_pos c11] at H
       have c11b0 : decide (0 ≤ x5_2) = true := decide_eq_true c11; clear c11
       replace H := Option.bind_eq_some_iff.mp H
       obtain ⟨t223, A120, H⟩ := H
       replace H : (if t223 = true then (tontineref17_Check.j2 k2 x3_2 x4_2 x5_2 a0_0 l0_1) else (tontineref17_Check.j2 k2 5 x4_2 x5_2 a0_0 l0_1)) = some r := H
       have A12 := Aside0.mk A120
       clear A120
       have HC13 := Aside0.mk H
       clear H
       have hcz14_0 : wr.cell? ⟨gb220, 0, none⟩ = some (.string a0_0) := (blk_cell BK220.out 0).trans rfl
       have hcz14_1 : wr.cell? ⟨gb220, 1, none⟩ = some (.slice A0_1 l0_1.length c0_1) := (blk_cell BK220.out 1).trans rfl
       have hfz14_0 := blk_frozen BK220.out 0
       have hfz14_1 := blk_frozen BK220.out 1
       have p222 : 0 ≤ (x5_2 : Int) := of_decide_eq_true sq5
       have q222 : x5_2 < (l0_1.length : Int) := of_decide_eq_true sq5
       obtain ⟨ad222, A222_3, c222_3, A222_4, c222_4, A222_5, c222_5, e222, hx222_0, hx222_1, hx222_2, hx222_3, hx222_4, hx222_5, hl222_3, hi222_3, hl222_4, hi222_4, hl222_5, hi222_5⟩ := at_T41 HR0_1.out x5_2 p222 q222
       cases e222
       try replace hx222_0 := (HB.out.cell (World.block_lt_of_cell? w _ hx222_0)).trans hx222_0
       try replace hx222_1 := (HB.out.cell (World.block_lt_of_cell? w _ hx222_1)).trans hx222_1
       try replace hx222_2 := (HB.out.cell (World.block_lt_of_cell? w _ hx222_2)).trans hx222_2
       try replace hx222_3 := (HB.out.cell (World.block_lt_of_cell? w _ hx222_3)).trans hx222_3
       try replace hx222_4 := (HB.out.cell (World.block_lt_of_cell? w _ hx222_4)).trans hx222_4
       try replace hx222_5 := (HB.out.cell (World.block_lt_of_cell? w _ hx222_5)).trans hx222_5
       have HR222_3 := Aside0.mk hi222_3
       have HC222_3 := Aside0.mk hl222_3
       clear hi222_3 hl222_3
       have HR222_4 := Aside0.mk hi222_4
       have HC222_4 := Aside0.mk hl222_4
       clear hi222_4 hl222_4
       have HR222_5 := Aside0.mk hi222_5
       have HC222_5 := Aside0.mk hl222_5
       clear hi222_5 hl222_5
       replace p222 := eq_true p222
       replace q222 := eq_true q222
       go_upto_if 31 with (first | ((with_reducible refine gate_callee (f := 19) rfl ?_); refine goesL_ (some 30) rfl rfl Try.func19 sq1 rfl #[.agg #[.int .i64 ((rd_T41 l0_1 x5_2).f0), .int .i64 ((rd_T41 l0_1 x5_2).f1), .string ((rd_T41 l0_1 x5_2).f2), .slice A222_3 ((rd_T41 l0_1 x5_2).f3).length c222_3, .slice A222_4 ((rd_T41 l0_1 x5_2).f4).length c222_4, .slice A222_5 ((rd_T41 l0_1 x5_2).f5).length c222_5]] rfl sq56 ?_; (with_reducible refine (tontineref17_line.calls k2 ((rd_T41 l0_1 x5_2).f0) ((rd_T41 l0_1 x5_2).f1) ((rd_T41 l0_1 x5_2).f2) _ _ ((rd_T41 l0_1 x5_2).f3) _ _ ((rd_T41 l0_1 x5_2).f4) _ _ ((rd_T41 l0_1 x5_2).f5) t223 _ ?side1 ?side2 ?side3 ?side4 ?side5 ?side6 A12.out).mono ?_); (case side1 => repeat (first | exact (Kd.C_below HR222_3.out HB.out) | (with_reducible refine Kd.C_alloc ?_ _) | (with_reducible refine Kd.C_drewN ?_ _) | (with_reducible refine Kd.C_drew ?_))); (case side2 => exact HC222_3.out); (case side3 => repeat (first | exact (Kd.C_below HR222_4.out HB.out) | (with_reducible refine Kd.C_alloc ?_ _) | (with_reducible refine Kd.C_drewN ?_ _) | (with_reducible refine Kd.C_drew ?_))); (case side4 => exact HC222_4.out); (case side5 => repeat (first | exact (Kd.C_below HR222_5.out HB.out) | (with_reducible refine Kd.C_alloc ?_ _) | (with_reducible refine Kd.C_drewN ?_ _) | (with_reducible refine Kd.C_drew ?_))); (case side6 => exact HC222_5.out); rintro e w15 ⟨rfl, hb⟩; refine ⟨_, rfl, ?_⟩; have n0_ := Aside0.mk (blk_below (g := gb220) (o := .cells #[.string a0_0, .slice (some ad222) l0_1.length c0_1] 24 (0, 0)) sq47 hb); have n1_ := Aside0.mk (below_step sq71 hb); clear BK220; clear HB; have BK220 := n0_; have HB := n1_; clear n0_ n1_; (try clear hb); (try clear hb2); (try clear hk); (try clear hi)))
       (try simp only [Act.put, List.setIfInBounds_toArray, List.set_cons_zero, List.set_cons_succ])
       go_cut [3] (fun v3 wc => ∃ (kq : Nat) (x3_12 : Int), v3 = .int .i64 x3_12 ∧ Aside0 (tontineref17_Check.j2 kq x3_12 x4_2 x5_2 a0_0 l0_1 = some r) ∧ Aside0 (kq ≤ k2) ∧ Aside0 (wc.heap[gb220]? = some (.cells #[.string a0_0, (.slice (some ad222) l0_1.length c0_1)] 24 (0, 0))) ∧ Aside0 (Below w.heap.size w wc))
       case first =>
        have H := HC13.out
        clear HC13
        by_cases c16 : t223 = true
        ·subst c16
         replace H := (itT_ _ _).symm.trans H
         have H' := Aside0.mk H
         clear H
         go_wp2
         go_meet
         case rel => exact ⟨_, (x3_2), sq4, H', ⟨by have := HJ5.out; have := HK2.out; first | omega | exact Nat.le_refl _⟩, ⟨sq47⟩, ⟨sq71⟩⟩
        replace c16 := Bool.eq_false_iff.mpr c16
        subst c16
        replace H := (itF_ _ _).symm.trans H
        have H' := Aside0.mk H
        clear H
        go_wp2
        go_meet
        case rel => exact ⟨_, (5), sq4, H', ⟨by have := HJ5.out; have := HK2.out; first | omega | exact Nat.le_refl _⟩, ⟨sq47⟩, ⟨sq71⟩⟩
       case rest =>
        clear HC13; try clear c1; try clear c2; try clear c2b0; try clear c2b1; try clear p2; try clear q2; try clear hx2; try clear c8; try clear c9; try clear c10; try clear c10b0; try clear c11; try clear c11b0; try clear c16; try clear hcz14_0; try clear hcz14_1; try clear hcz4_0; try clear hcz4_1; try clear hcz8_0; try clear hcz8_1; try clear hfz14_0; try clear hfz14_1; try clear hfz4_0; try clear hfz4_1; try clear hfz8_0; try clear hfz8_1; try clear hx222_0; try clear hx222_1; try clear hx222_2; try clear hx222_3; try clear hx222_4; try clear hx222_5; try clear p2; try clear p222; try clear q222
        obtain ⟨kq, x3_12, rfl, HA, HJ12, BK220, HB⟩ := hcut
        cases kq with
        | zero => exact absurd HA.out (by simp [tontineref17_Check.j2])
        | succ kj12 =>
         have H := HA.out
         clear HA
         simp only [tontineref17_Check.j2] at H
         by_cases c17 : 0 ≤ x5_2
         ·rw [if_pos c17] at H
          have c17b0 : decide (0 ≤ x5_2) = true := decide_eq_true c17
          try (have c17e0 := c17b0; rw [hl222_3] at c17e0)
          try (have c17e0 := c17b0; rw [hl222_4] at c17e0)
          try (have c17e0 := c17b0; rw [hl222_5] at c17e0)
          clear c17
          by_cases c18 : x5_2 < (l0_1.length : Int)
          ·rw [if_pos c18] at H
           have c18b0 : decide (x5_2 < (l0_1.length : Int)) = true := decide_eq_true c18
           try (have c18e0 := c18b0; rw [hl222_3] at c18e0)
           try (have c18e0 := c18b0; rw [hl222_4] at c18e0)
           try (have c18e0 := c18b0; rw [hl222_5] at c18e0)
           clear c18
           replace H := Option.bind_eq_some_iff.mp H
           obtain ⟨t225, A190, H⟩ := H
           replace H : (tontineref17_Check.l1 kj12 x3_12 x4_2 x5_2 t225 0 a0_0 l0_1) = some r := H
           have A19 := Aside0.mk A190
           clear A190
           have H' := Aside0.mk H
           clear H
           have hcz20_0 : wc.cell? ⟨gb220, 0, none⟩ = some (.string a0_0) := (blk_cell BK220.out 0).trans rfl
           have hcz20_1 : wc.cell? ⟨gb220, 1, none⟩ = some (.slice (some ad222) l0_1.length c0_1) := (blk_cell BK220.out 1).trans rfl
           have hfz20_0 := blk_frozen BK220.out 0
           have hfz20_1 := blk_frozen BK220.out 1
           have p224 : 0 ≤ (x5_2 : Int) := of_decide_eq_true sq5
           have q224 : x5_2 < (l0_1.length : Int) := of_decide_eq_true sq5
           obtain ⟨ad224, A224_3, c224_3, A224_4, c224_4, A224_5, c224_5, e224, hx224_0, hx224_1, hx224_2, hx224_3, hx224_4, hx224_5, hl224_3, hi224_3, hl224_4, hi224_4, hl224_5, hi224_5⟩ := at_T41 HR0_1.out x5_2 p224 q224
           obtain rfl : ad222 = ad224 := (by injection e224)
           try replace hx224_0 := (HB.out.cell (World.block_lt_of_cell? w _ hx224_0)).trans hx224_0
           try replace hx224_1 := (HB.out.cell (World.block_lt_of_cell? w _ hx224_1)).trans hx224_1
           try replace hx224_2 := (HB.out.cell (World.block_lt_of_cell? w _ hx224_2)).trans hx224_2
           try replace hx224_3 := (HB.out.cell (World.block_lt_of_cell? w _ hx224_3)).trans hx224_3
           try replace hx224_4 := (HB.out.cell (World.block_lt_of_cell? w _ hx224_4)).trans hx224_4
           try replace hx224_5 := (HB.out.cell (World.block_lt_of_cell? w _ hx224_5)).trans hx224_5
           have HR224_3 := Aside0.mk hi224_3
           have HC224_3 := Aside0.mk hl224_3
           clear hi224_3 hl224_3
           have HR224_4 := Aside0.mk hi224_4
           have HC224_4 := Aside0.mk hl224_4
           clear hi224_4 hl224_4
           have HR224_5 := Aside0.mk hi224_5
           have HC224_5 := Aside0.mk hl224_5
           clear hi224_5 hl224_5
           replace p224 := eq_true p224
           replace q224 := eq_true q224
           go_wp2_with (first | ((with_reducible refine gate_callee (f := 20) rfl ?_); refine goesL_ (some 37) rfl rfl Try.func20 sq1 rfl #[.agg #[.int .i64 ((rd_T41 l0_1 x5_2).f0), .int .i64 ((rd_T41 l0_1 x5_2).f1), .string ((rd_T41 l0_1 x5_2).f2), .slice A224_3 ((rd_T41 l0_1 x5_2).f3).length c224_3, .slice A224_4 ((rd_T41 l0_1 x5_2).f4).length c224_4, .slice A224_5 ((rd_T41 l0_1 x5_2).f5).length c224_5]] rfl sq56 ?_; (with_reducible refine (tontineref17_formulas.calls ((rd_T41 l0_1 x5_2).f0) ((rd_T41 l0_1 x5_2).f1) ((rd_T41 l0_1 x5_2).f2) (fun k_ => k_ < w.heap.size) _ _ ((rd_T41 l0_1 x5_2).f3) (fun k_ => k_ < w.heap.size) _ _ ((rd_T41 l0_1 x5_2).f4) (fun k_ => k_ < w.heap.size) _ _ ((rd_T41 l0_1 x5_2).f5) t225 _ ?side1 ?side2 ?side3 A19.out).mono ?_); (case side1 => exact Kd.V_mk HC224_3.out (Kd.F_below (Kd.C_F k43_heap HR224_3.out) sq71)); (case side2 => exact Kd.V_mk HC224_4.out (Kd.F_below (Kd.C_F k43_heap HR224_4.out) sq71)); (case side3 => exact Kd.V_mk HC224_5.out (Kd.F_below (Kd.C_F k43_heap HR224_5.out) sq71)); rintro e w21 ⟨v226, rfl, ho0, hb⟩; refine ⟨_, rfl, ?_⟩; have n0_ := Aside0.mk (Kd.N_lower (Kd.N_mono (ok' := fun k_ => k_ ≠ gb220) ho0 (fun k_ hk_ => Or.elim hk_ (fun hs_ => Or.elim hs_ (fun hs_ => fun e_ => Nat.not_le.2 hs_ (by rw [e_]; exact GW220.out)) (fun hs_ => Or.elim hs_ (fun hs_ => fun e_ => Nat.not_le.2 hs_ (by rw [e_]; exact GW220.out)) (fun hs_ => fun e_ => Nat.not_le.2 hs_ (by rw [e_]; exact GW220.out)))) (fun hn_ => (Kd.freshB (g := gb220) (o := .cells #[.string a0_0, .slice (some ad222) l0_1.length c0_1] 24 (0, 0)) sq47 k_ hn_)))) (below_size sq71)); have n1_ := Aside0.mk (blk_below (g := gb220) (o := .cells #[.string a0_0, .slice (some ad222) l0_1.length c0_1] 24 (0, 0)) sq47 hb); have n2_ := Aside0.mk (below_step sq71 hb); clear BK220; clear HB; have HO227 := n0_; have BK220 := n1_; have HB := n2_; clear n0_ n1_ n2_; (try clear hb); (try clear hb2); (try clear hk); (try clear hi); (try clear ho0)))
           go_loopg [3, 4, 7] kj12 (fun kq v3 v4 v7 w' => ∃ (x3_4 : Int) (x4_4 : Bool) (x7_4 : Int), v3 = .int .i64 x3_4 ∧ v4 = .bool x4_4 ∧ v7 = .int .i64 x7_4 ∧ Aside0 (tontineref17_Check.l1 kq x3_4 x4_4 x5_2 t225 x7_4 a0_0 l0_1 = some r) ∧ Aside0 (kq ≤ kj12) ∧ Aside0 (Kd.N (Kd.slice 43 k43) 26 w' w.heap.size (fun k_ => k_ ≠ gb220) v226 t225) ∧ Aside0 (w'.heap[gb220]? = some (.cells #[.string a0_0, (.slice (some ad222) l0_1.length c0_1)] 24 (0, 0))) ∧ Aside0 (Below w.heap.size w w'))
           case atStart => exact ⟨(x3_12), (x4_2), (0), sq4, sq4, sq4, H', ⟨Nat.le_refl _⟩, ⟨by (with_reducible repeat (first | apply Kd.N_alloc | apply Kd.N_drewN | apply Kd.N_drew)); exact HO227.out⟩, ⟨sq47⟩, ⟨sq71⟩⟩
           case round =>
            clear H'
            try clear c1; try clear c2; try clear c2b0; try clear c2b1; try clear p2; try clear q2; try clear hx2; try clear c8; try clear c9; try clear c10; try clear c10b0; try clear c11; try clear c11b0; try clear c16; try clear c17; try clear c17b0; try clear c18; try clear c18b0; try clear c19; try clear c20; try clear hcz14_0; try clear hcz14_1; try clear hcz20_0; try clear hcz20_1; try clear hcz4_0; try clear hcz4_1; try clear hcz8_0; try clear hcz8_1; try clear hfz14_0; try clear hfz14_1; try clear hfz20_0; try clear hfz20_1; try clear hfz4_0; try clear hfz4_1; try clear hfz8_0; try clear hfz8_1; try clear hx222_0; try clear hx222_1; try clear hx222_2; try clear hx222_3; try clear hx222_4; try clear hx222_5; try clear hx224_0; try clear hx224_1; try clear hx224_2; try clear hx224_3; try clear hx224_4; try clear hx224_5; try clear p2; try clear p222; try clear p224; try clear q2; try clear q222; try clear q224
            obtain ⟨x3_4, x4_4, x7_4, rfl, rfl, rfl, HA, HK4, HO_6, BK220, HB⟩ := hrel
            cases gk with
            | zero => exact absurd HA.out (by simp [tontineref17_Check.l1])
            | succ k4 =>
             have H := HA.out
             clear HA
             simp only [tontineref17_Check.l1] at H
             by_cases c22 : x7_4 < 3
             ·rw [if_pos c22] at H
              have c22b0 : decide (x7_4 < 3) = true := decide_eq_true c22
              try (have c22e0 := c22b0; rw [hl222_3] at c22e0)
              try (have c22e0 := c22b0; rw [hl222_4] at c22e0)
              try (have c22e0 := c22b0; rw [hl222_5] at c22e0)
              try (have c22e0 := c22b0; rw [hl224_3] at c22e0)
              try (have c22e0 := c22b0; rw [hl224_4] at c22e0)
              try (have c22e0 := c22b0; rw [hl224_5] at c22e0)
              clear c22
              by_cases c23 : 0 ≤ x7_4
              ·rw [if_pos c23] at H
               have c23b0 : decide (0 ≤ x7_4) = true := decide_eq_true c23
               try (have c23e0 := c23b0; rw [hl222_3] at c23e0)
               try (have c23e0 := c23b0; rw [hl222_4] at c23e0)
               try (have c23e0 := c23b0; rw [hl222_5] at c23e0)
               try (have c23e0 := c23b0; rw [hl224_3] at c23e0)
               try (have c23e0 := c23b0; rw [hl224_4] at c23e0)
               try (have c23e0 := c23b0; rw [hl224_5] at c23e0)
               clear c23
               by_cases c24 : x7_4 < (t225.length : Int)
               ·rw [if_pos c24] at H
                have c24b0 : decide (x7_4 < (t225.length : Int)) = true := decide_eq_true c24
                try (have c24e0 := c24b0; rw [hl222_3] at c24e0)
                try (have c24e0 := c24b0; rw [hl222_4] at c24e0)
                try (have c24e0 := c24b0; rw [hl222_5] at c24e0)
                try (have c24e0 := c24b0; rw [hl224_3] at c24e0)
                try (have c24e0 := c24b0; rw [hl224_4] at c24e0)
                try (have c24e0 := c24b0; rw [hl224_5] at c24e0)
                clear c24
                by_cases c25 : ((rd_L3 t225 x7_4).length : Int) > 1024
                ·rw [if_pos c25] at H
                 have c25b0 : decide (1024 < ((rd_L3 t225 x7_4).length : Int)) = true := decide_eq_true c25
                 try (have c25e0 := c25b0; rw [hl222_3] at c25e0)
                 try (have c25e0 := c25b0; rw [hl222_4] at c25e0)
                 try (have c25e0 := c25b0; rw [hl222_5] at c25e0)
                 try (have c25e0 := c25b0; rw [hl224_3] at c25e0)
                 try (have c25e0 := c25b0; rw [hl224_4] at c25e0)
                 try (have c25e0 := c25b0; rw [hl224_5] at c25e0)
                 have c25b1 : decide (1024 < (rd_L3 t225 x7_4).length) = true := decide_eq_true (by omega)
                 clear c25
                 obtain rfl := Option.some.inj H
                 obtain ⟨Ao26, co26, eo26⟩ := Kd.N_slice HO_6.out
                 subst eo26
                 have p228 : 0 ≤ (x7_4 : Int) := of_decide_eq_true sq5
                 have q228 : x7_4 < (t225.length : Int) := of_decide_eq_true sq5
                 obtain ⟨ad228, A228_0, c228_0, e228, hx228_0, hl228_0, hi228_0⟩ := at_L3 (Kd.N_reads' HO_6.out).2.2 x7_4 p228 q228
                 cases e228
                 obtain ⟨ce228, hce228, hMe228, hcc228⟩ := Kd.N_get HO_6.out [] x7_4 p228 sq58
                 obtain ⟨ua228_0, uc228_0, rfl, ul228_0, ge228_0⟩ := Kd.FK_slice_open hMe228
                 have hv228_0 := hcc228 0 _ rfl
                 rw [Nat.add_zero, show ((Kd.slice 43 k43)).sz = 1 from rfl, Nat.mul_one] at hv228_0
                 replace hv228_0 := Option.some.inj (hv228_0.symm.trans hx228_0)
                 injection hv228_0 with hva_ hvn_ hvc_
                 rw [hva_] at ge228_0
                 rw [hvc_] at ul228_0
                 have HL228_0 := Aside0.mk (show Kd.V k43 43 _ w.heap.size _ _ (rd_L3 t225 x7_4) from Kd.V_mk ul228_0 ge228_0)
                 clear hva_ hvn_ hvc_ ge228_0 ul228_0
                 clear hcc228 hce228
                 have HR228_0 := Aside0.mk hi228_0
                 have HC228_0 := Aside0.mk hl228_0
                 clear hi228_0 hl228_0
                 replace p228 := eq_true p228
                 replace q228 := eq_true q228
                 go_wp2
                 go_ret
                 exact ⟨sq23, sq71⟩
                rw [if_neg c25] at H
                have c25b0 : decide (1024 < ((rd_L3 t225 x7_4).length : Int)) = false := decide_eq_false c25
                try (have c25e0 := c25b0; rw [hl222_3] at c25e0)
                try (have c25e0 := c25b0; rw [hl222_4] at c25e0)
                try (have c25e0 := c25b0; rw [hl222_5] at c25e0)
                try (have c25e0 := c25b0; rw [hl224_3] at c25e0)
                try (have c25e0 := c25b0; rw [hl224_4] at c25e0)
                try (have c25e0 := c25b0; rw [hl224_5] at c25e0)
                try (have c25e0 := c25b0; rw [hl228_0] at c25e0)
                have c25b1 : decide (1024 < (rd_L3 t225 x7_4).length) = false := decide_eq_false (by omega)
                clear c25
                replace H := Option.bind_eq_some_iff.mp H
                obtain ⟨⟨t230, t231⟩, A270, H⟩ := H
                replace H : (if ((rd_L3 t225 x7_4).length : Int) > 0 then (if t230 = true then (if x4_4 = true then (tontineref17_Check.l1 k4 x3_4 true x5_2 t225 (wrap64 (x7_4 + 1)) a0_0 l0_1) else (tontineref17_Check.l1 k4 x3_4 (decide (t231 > 64)) x5_2 t225 (wrap64 (x7_4 + 1)) a0_0 l0_1)) else (if x4_4 = true then (tontineref17_Check.l1 k4 5 true x5_2 t225 (wrap64 (x7_4 + 1)) a0_0 l0_1) else (tontineref17_Check.l1 k4 5 (decide (t231 > 64)) x5_2 t225 (wrap64 (x7_4 + 1)) a0_0 l0_1))) else (if x4_4 = true then (tontineref17_Check.l1 k4 x3_4 true x5_2 t225 (wrap64 (x7_4 + 1)) a0_0 l0_1) else (tontineref17_Check.l1 k4 x3_4 (decide (t231 > 64)) x5_2 t225 (wrap64 (x7_4 + 1)) a0_0 l0_1))) = some r := H
                have A27 := Aside0.mk A270
                clear A270
                by_cases c28 : ((rd_L3 t225 x7_4).length : Int) > 0
                ·rw [if_pos c28] at H
                 have c28b0 : decide (0 < ((rd_L3 t225 x7_4).length : Int)) = true := decide_eq_true c28
                 try (have c28e0 := c28b0; rw [hl222_3] at c28e0)
                 try (have c28e0 := c28b0; rw [hl222_4] at c28e0)
                 try (have c28e0 := c28b0; rw [hl222_5] at c28e0)
                 try (have c28e0 := c28b0; rw [hl224_3] at c28e0)
                 try (have c28e0 := c28b0; rw [hl224_4] at c28e0)
                 try (have c28e0 := c28b0; rw [hl224_5] at c28e0)
                 try (have c28e0 := c28b0; rw [hl228_0] at c28e0)
                 have c28b1 : decide (0 < (rd_L3 t225 x7_4).length) = true := decide_eq_true (by omega)
                 clear c28
                 by_cases c29 : t230 = true
                 ·subst c29
                  replace H := (itT_ _ _).symm.trans H
                  by_cases c30 : x4_4 = true
                  ·subst c30
                   replace H := (itT_ _ _).symm.trans H
                   have H' := Aside0.mk H
                   clear H
                   obtain ⟨Ao31, co31, eo31⟩ := Kd.N_slice HO_6.out
                   subst eo31
                   have p228 : 0 ≤ (x7_4 : Int) := of_decide_eq_true sq5
                   have q228 : x7_4 < (t225.length : Int) := of_decide_eq_true sq5
                   obtain ⟨ad228, A228_0, c228_0, e228, hx228_0, hl228_0, hi228_0⟩ := at_L3 (Kd.N_reads' HO_6.out).2.2 x7_4 p228 q228
                   cases e228
                   obtain ⟨ce228, hce228, hMe228, hcc228⟩ := Kd.N_get HO_6.out [] x7_4 p228 sq58
                   obtain ⟨ua228_0, uc228_0, rfl, ul228_0, ge228_0⟩ := Kd.FK_slice_open hMe228
                   have hv228_0 := hcc228 0 _ rfl
                   rw [Nat.add_zero, show ((Kd.slice 43 k43)).sz = 1 from rfl, Nat.mul_one] at hv228_0
                   replace hv228_0 := Option.some.inj (hv228_0.symm.trans hx228_0)
                   injection hv228_0 with hva_ hvn_ hvc_
                   rw [hva_] at ge228_0
                   rw [hvc_] at ul228_0
                   have HL228_0 := Aside0.mk (show Kd.V k43 43 _ w.heap.size _ _ (rd_L3 t225 x7_4) from Kd.V_mk ul228_0 ge228_0)
                   clear hva_ hvn_ hvc_ ge228_0 ul228_0
                   clear hcc228 hce228
                   have HR228_0 := Aside0.mk hi228_0
                   have HC228_0 := Aside0.mk hl228_0
                   clear hi228_0 hl228_0
                   replace p228 := eq_true p228
                   replace q228 := eq_true q228
                   have p229 : 0 ≤ (x7_4 : Int) := of_decide_eq_true sq5
                   have q229 : x7_4 < (t225.length : Int) := of_decide_eq_true sq5
                   obtain ⟨ad229, A229_0, c229_0, e229, hx229_0, hl229_0, hi229_0⟩ := at_L3 (Kd.N_reads' HO_6.out).2.2 x7_4 p229 q229
                   obtain rfl : ad228 = ad229 := (by injection e229)
                   obtain ⟨ce229, hce229, hMe229, hcc229⟩ := Kd.N_get HO_6.out [] x7_4 p229 sq59
                   obtain ⟨ua229_0, uc229_0, rfl, ul229_0, ge229_0⟩ := Kd.FK_slice_open hMe229
                   have hv229_0 := hcc229 0 _ rfl
                   rw [Nat.add_zero, show ((Kd.slice 43 k43)).sz = 1 from rfl, Nat.mul_one] at hv229_0
                   replace hv229_0 := Option.some.inj (hv229_0.symm.trans hx229_0)
                   injection hv229_0 with hva_ hvn_ hvc_
                   rw [hva_] at ge229_0
                   rw [hvc_] at ul229_0
                   have HL229_0 := Aside0.mk (show Kd.V k43 43 _ w.heap.size _ _ (rd_L3 t225 x7_4) from Kd.V_mk ul229_0 ge229_0)
                   clear hva_ hvn_ hvc_ ge229_0 ul229_0
                   clear hcc229 hce229
                   have HR229_0 := Aside0.mk hi229_0
                   have HC229_0 := Aside0.mk hl229_0
                   clear hi229_0 hl229_0
                   replace p229 := eq_true p229
                   replace q229 := eq_true q229
                   have ea_ := Option.some.inj (hx228_0.symm.trans hx229_0)
                   injection ea_ with ea_ en_ ec_
                   subst ea_
                   subst ec_
                   clear en_
                   go_wp2_with (first | ((with_reducible refine gate_callee (f := 21) rfl ?_); refine goesL_ (some 53) rfl rfl Try.func21 sq1 rfl #[.slice A228_0 (rd_L3 t225 x7_4).length c228_0] rfl sq56 ?_; (with_reducible refine (tontineref17_Right.calls k4 _ _ (rd_L3 t225 x7_4) true t231 _ ?side1 ?side2 A27.out).mono ?_); (case side1 => repeat (first | exact sq75 | (with_reducible refine Kd.C_alloc ?_ _) | (with_reducible refine Kd.C_drewN ?_ _) | (with_reducible refine Kd.C_drew ?_))); (case side2 => exact HC229_0.out); rintro e w32 ⟨rfl, hb⟩; refine ⟨_, rfl, ?_⟩; have n0_ := Aside0.mk (Kd.N_below sq25 hb); have n1_ := Aside0.mk (Kd.V_below sq33 hb); have n2_ := Aside0.mk (Kd.V_below sq34 hb); have n3_ := Aside0.mk (blk_below (g := gb220) (o := .cells #[.string a0_0, .slice (some ad222) l0_1.length c0_1] 24 (0, 0)) sq47 hb); have n4_ := Aside0.mk (Kd.C_below sq76 hb); have n5_ := Aside0.mk (Kd.C_below sq75 hb); have n6_ := Aside0.mk (below_step sq71 hb); clear HO_6; clear HL228_0; clear HL229_0; clear BK220; clear HR228_0; clear HR229_0; clear HB; have HO_6 := n0_; have HL228_0 := n1_; have HL229_0 := n2_; have BK220 := n3_; have HR228_0 := n4_; have HR229_0 := n5_; have HB := n6_; clear n0_ n1_ n2_ n3_ n4_ n5_ n6_; (try clear hb); (try clear hb2); (try clear hk); (try clear hi); have p232 : 0 ≤ (x7_4 : Int) := of_decide_eq_true sq5; have q232 : x7_4 < (t225.length : Int) := of_decide_eq_true sq5; obtain ⟨ad232, A232_0, c232_0, e232, hx232_0, hl232_0, hi232_0⟩ := at_L3 (Kd.N_reads' HO_6.out).2.2 x7_4 p232 q232; obtain rfl : ad228 = ad232 := (by injection e232); obtain ⟨ce232, hce232, hMe232, hcc232⟩ := Kd.N_get HO_6.out [] x7_4 p232 sq60; obtain ⟨ua232_0, uc232_0, rfl, ul232_0, ge232_0⟩ := Kd.FK_slice_open hMe232; have hv232_0 := hcc232 0 _ rfl; rw [Nat.add_zero, show ((Kd.slice 43 k43)).sz = 1 from rfl, Nat.mul_one] at hv232_0; replace hv232_0 := Option.some.inj (hv232_0.symm.trans hx232_0); injection hv232_0 with hva_ hvn_ hvc_; rw [hva_] at ge232_0; rw [hvc_] at ul232_0; have HL232_0 := Aside0.mk (show Kd.V k43 43 _ w.heap.size _ _ (rd_L3 t225 x7_4) from Kd.V_mk ul232_0 ge232_0); clear hva_ hvn_ hvc_ ge232_0 ul232_0; clear hcc232 hce232; have HR232_0 := Aside0.mk hi232_0; have HC232_0 := Aside0.mk hl232_0; clear hi232_0 hl232_0; replace p232 := eq_true p232; replace q232 := eq_true q232))
                   go_roundg k4
                   case measure => have := HJ5.out; have := HK2.out; have := HJ12.out; have := HK4.out; omega
                   case rel => exact ⟨(x3_4), (true), (wrap64 (x7_4 + 1)), sq4, sq4, sq4, H', ⟨sq8⟩, ⟨sq25⟩, ⟨sq47⟩, ⟨sq71⟩⟩
                  replace c30 := Bool.eq_false_iff.mpr c30
                  subst c30
                  replace H := (itF_ _ _).symm.trans H
                  have H' := Aside0.mk H
                  clear H
                  obtain ⟨Ao33, co33, eo33⟩ := Kd.N_slice HO_6.out
                  subst eo33
                  have p228 : 0 ≤ (x7_4 : Int) := of_decide_eq_true sq5
                  have q228 : x7_4 < (t225.length : Int) := of_decide_eq_true sq5
                  obtain ⟨ad228, A228_0, c228_0, e228, hx228_0, hl228_0, hi228_0⟩ := at_L3 (Kd.N_reads' HO_6.out).2.2 x7_4 p228 q228
                  cases e228
                  obtain ⟨ce228, hce228, hMe228, hcc228⟩ := Kd.N_get HO_6.out [] x7_4 p228 sq58
                  obtain ⟨ua228_0, uc228_0, rfl, ul228_0, ge228_0⟩ := Kd.FK_slice_open hMe228
                  have hv228_0 := hcc228 0 _ rfl
                  rw [Nat.add_zero, show ((Kd.slice 43 k43)).sz = 1 from rfl, Nat.mul_one] at hv228_0
                  replace hv228_0 := Option.some.inj (hv228_0.symm.trans hx228_0)
                  injection hv228_0 with hva_ hvn_ hvc_
                  rw [hva_] at ge228_0
                  rw [hvc_] at ul228_0
                  have HL228_0 := Aside0.mk (show Kd.V k43 43 _ w.heap.size _ _ (rd_L3 t225 x7_4) from Kd.V_mk ul228_0 ge228_0)
                  clear hva_ hvn_ hvc_ ge228_0 ul228_0
                  clear hcc228 hce228
                  have HR228_0 := Aside0.mk hi228_0
                  have HC228_0 := Aside0.mk hl228_0
                  clear hi228_0 hl228_0
                  replace p228 := eq_true p228
                  replace q228 := eq_true q228
                  have p229 : 0 ≤ (x7_4 : Int) := of_decide_eq_true sq5
                  have q229 : x7_4 < (t225.length : Int) := of_decide_eq_true sq5
                  obtain ⟨ad229, A229_0, c229_0, e229, hx229_0, hl229_0, hi229_0⟩ := at_L3 (Kd.N_reads' HO_6.out).2.2 x7_4 p229 q229
                  obtain rfl : ad228 = ad229 := (by injection e229)
                  obtain ⟨ce229, hce229, hMe229, hcc229⟩ := Kd.N_get HO_6.out [] x7_4 p229 sq59
                  obtain ⟨ua229_0, uc229_0, rfl, ul229_0, ge229_0⟩ := Kd.FK_slice_open hMe229
                  have hv229_0 := hcc229 0 _ rfl
                  rw [Nat.add_zero, show ((Kd.slice 43 k43)).sz = 1 from rfl, Nat.mul_one] at hv229_0
                  replace hv229_0 := Option.some.inj (hv229_0.symm.trans hx229_0)
                  injection hv229_0 with hva_ hvn_ hvc_
                  rw [hva_] at ge229_0
                  rw [hvc_] at ul229_0
                  have HL229_0 := Aside0.mk (show Kd.V k43 43 _ w.heap.size _ _ (rd_L3 t225 x7_4) from Kd.V_mk ul229_0 ge229_0)
                  clear hva_ hvn_ hvc_ ge229_0 ul229_0
                  clear hcc229 hce229
                  have HR229_0 := Aside0.mk hi229_0
                  have HC229_0 := Aside0.mk hl229_0
                  clear hi229_0 hl229_0
                  replace p229 := eq_true p229
                  replace q229 := eq_true q229
                  have ea_ := Option.some.inj (hx228_0.symm.trans hx229_0)
                  injection ea_ with ea_ en_ ec_
                  subst ea_
                  subst ec_
                  clear en_
                  go_wp2_with (first | ((with_reducible refine gate_callee (f := 21) rfl ?_); refine goesL_ (some 53) rfl rfl Try.func21 sq1 rfl #[.slice A228_0 (rd_L3 t225 x7_4).length c228_0] rfl sq56 ?_; (with_reducible refine (tontineref17_Right.calls k4 _ _ (rd_L3 t225 x7_4) true t231 _ ?side1 ?side2 A27.out).mono ?_); (case side1 => repeat (first | exact sq75 | (with_reducible refine Kd.C_alloc ?_ _) | (with_reducible refine Kd.C_drewN ?_ _) | (with_reducible refine Kd.C_drew ?_))); (case side2 => exact HC229_0.out); rintro e w34 ⟨rfl, hb⟩; refine ⟨_, rfl, ?_⟩; have n0_ := Aside0.mk (Kd.N_below sq25 hb); have n1_ := Aside0.mk (Kd.V_below sq33 hb); have n2_ := Aside0.mk (Kd.V_below sq34 hb); have n3_ := Aside0.mk (blk_below (g := gb220) (o := .cells #[.string a0_0, .slice (some ad222) l0_1.length c0_1] 24 (0, 0)) sq47 hb); have n4_ := Aside0.mk (Kd.C_below sq76 hb); have n5_ := Aside0.mk (Kd.C_below sq75 hb); have n6_ := Aside0.mk (below_step sq71 hb); clear HO_6; clear HL228_0; clear HL229_0; clear BK220; clear HR228_0; clear HR229_0; clear HB; have HO_6 := n0_; have HL228_0 := n1_; have HL229_0 := n2_; have BK220 := n3_; have HR228_0 := n4_; have HR229_0 := n5_; have HB := n6_; clear n0_ n1_ n2_ n3_ n4_ n5_ n6_; (try clear hb); (try clear hb2); (try clear hk); (try clear hi); have p232 : 0 ≤ (x7_4 : Int) := of_decide_eq_true sq5; have q232 : x7_4 < (t225.length : Int) := of_decide_eq_true sq5; obtain ⟨ad232, A232_0, c232_0, e232, hx232_0, hl232_0, hi232_0⟩ := at_L3 (Kd.N_reads' HO_6.out).2.2 x7_4 p232 q232; obtain rfl : ad228 = ad232 := (by injection e232); obtain ⟨ce232, hce232, hMe232, hcc232⟩ := Kd.N_get HO_6.out [] x7_4 p232 sq60; obtain ⟨ua232_0, uc232_0, rfl, ul232_0, ge232_0⟩ := Kd.FK_slice_open hMe232; have hv232_0 := hcc232 0 _ rfl; rw [Nat.add_zero, show ((Kd.slice 43 k43)).sz = 1 from rfl, Nat.mul_one] at hv232_0; replace hv232_0 := Option.some.inj (hv232_0.symm.trans hx232_0); injection hv232_0 with hva_ hvn_ hvc_; rw [hva_] at ge232_0; rw [hvc_] at ul232_0; have HL232_0 := Aside0.mk (show Kd.V k43 43 _ w.heap.size _ _ (rd_L3 t225 x7_4) from Kd.V_mk ul232_0 ge232_0); clear hva_ hvn_ hvc_ ge232_0 ul232_0; clear hcc232 hce232; have HR232_0 := Aside0.mk hi232_0; have HC232_0 := Aside0.mk hl232_0; clear hi232_0 hl232_0; replace p232 := eq_true p232; replace q232 := eq_true q232))
                  go_roundg k4
                  case measure => have := HJ5.out; have := HK2.out; have := HJ12.out; have := HK4.out; omega
                  case rel => exact ⟨(x3_4), (decide (t231 > 64)), (wrap64 (x7_4 + 1)), sq4, sq4, sq4, H', ⟨sq8⟩, ⟨sq25⟩, ⟨sq47⟩, ⟨sq71⟩⟩
                 replace c29 := Bool.eq_false_iff.mpr c29
                 subst c29
                 replace H := (itF_ _ _).symm.trans H
                 by_cases c35 : x4_4 = true
                 ·subst c35
                  replace H := (itT_ _ _).symm.trans H
                  have H' := Aside0.mk H
                  clear H
                  obtain ⟨Ao36, co36, eo36⟩ := Kd.N_slice HO_6.out
                  subst eo36
                  have p228 : 0 ≤ (x7_4 : Int) := of_decide_eq_true sq5
                  have q228 : x7_4 < (t225.length : Int) := of_decide_eq_true sq5
                  obtain ⟨ad228, A228_0, c228_0, e228, hx228_0, hl228_0, hi228_0⟩ := at_L3 (Kd.N_reads' HO_6.out).2.2 x7_4 p228 q228
                  cases e228
                  obtain ⟨ce228, hce228, hMe228, hcc228⟩ := Kd.N_get HO_6.out [] x7_4 p228 sq58
                  obtain ⟨ua228_0, uc228_0, rfl, ul228_0, ge228_0⟩ := Kd.FK_slice_open hMe228
                  have hv228_0 := hcc228 0 _ rfl
                  rw [Nat.add_zero, show ((Kd.slice 43 k43)).sz = 1 from rfl, Nat.mul_one] at hv228_0
                  replace hv228_0 := Option.some.inj (hv228_0.symm.trans hx228_0)
                  injection hv228_0 with hva_ hvn_ hvc_
                  rw [hva_] at ge228_0
                  rw [hvc_] at ul228_0
                  have HL228_0 := Aside0.mk (show Kd.V k43 43 _ w.heap.size _ _ (rd_L3 t225 x7_4) from Kd.V_mk ul228_0 ge228_0)
                  clear hva_ hvn_ hvc_ ge228_0 ul228_0
                  clear hcc228 hce228
                  have HR228_0 := Aside0.mk hi228_0
                  have HC228_0 := Aside0.mk hl228_0
                  clear hi228_0 hl228_0
                  replace p228 := eq_true p228
                  replace q228 := eq_true q228
                  have p229 : 0 ≤ (x7_4 : Int) := of_decide_eq_true sq5
                  have q229 : x7_4 < (t225.length : Int) := of_decide_eq_true sq5
                  obtain ⟨ad229, A229_0, c229_0, e229, hx229_0, hl229_0, hi229_0⟩ := at_L3 (Kd.N_reads' HO_6.out).2.2 x7_4 p229 q229
                  obtain rfl : ad228 = ad229 := (by injection e229)
                  obtain ⟨ce229, hce229, hMe229, hcc229⟩ := Kd.N_get HO_6.out [] x7_4 p229 sq59
                  obtain ⟨ua229_0, uc229_0, rfl, ul229_0, ge229_0⟩ := Kd.FK_slice_open hMe229
                  have hv229_0 := hcc229 0 _ rfl
                  rw [Nat.add_zero, show ((Kd.slice 43 k43)).sz = 1 from rfl, Nat.mul_one] at hv229_0
                  replace hv229_0 := Option.some.inj (hv229_0.symm.trans hx229_0)
                  injection hv229_0 with hva_ hvn_ hvc_
                  rw [hva_] at ge229_0
                  rw [hvc_] at ul229_0
                  have HL229_0 := Aside0.mk (show Kd.V k43 43 _ w.heap.size _ _ (rd_L3 t225 x7_4) from Kd.V_mk ul229_0 ge229_0)
                  clear hva_ hvn_ hvc_ ge229_0 ul229_0
                  clear hcc229 hce229
                  have HR229_0 := Aside0.mk hi229_0
                  have HC229_0 := Aside0.mk hl229_0
                  clear hi229_0 hl229_0
                  replace p229 := eq_true p229
                  replace q229 := eq_true q229
                  have ea_ := Option.some.inj (hx228_0.symm.trans hx229_0)
                  injection ea_ with ea_ en_ ec_
                  subst ea_
                  subst ec_
                  clear en_
                  go_wp2_with (first | ((with_reducible refine gate_callee (f := 21) rfl ?_); refine goesL_ (some 53) rfl rfl Try.func21 sq1 rfl #[.slice A228_0 (rd_L3 t225 x7_4).length c228_0] rfl sq56 ?_; (with_reducible refine (tontineref17_Right.calls k4 _ _ (rd_L3 t225 x7_4) false t231 _ ?side1 ?side2 A27.out).mono ?_); (case side1 => repeat (first | exact sq75 | (with_reducible refine Kd.C_alloc ?_ _) | (with_reducible refine Kd.C_drewN ?_ _) | (with_reducible refine Kd.C_drew ?_))); (case side2 => exact HC229_0.out); rintro e w37 ⟨rfl, hb⟩; refine ⟨_, rfl, ?_⟩; have n0_ := Aside0.mk (Kd.N_below sq25 hb); have n1_ := Aside0.mk (Kd.V_below sq33 hb); have n2_ := Aside0.mk (Kd.V_below sq34 hb); have n3_ := Aside0.mk (blk_below (g := gb220) (o := .cells #[.string a0_0, .slice (some ad222) l0_1.length c0_1] 24 (0, 0)) sq47 hb); have n4_ := Aside0.mk (Kd.C_below sq76 hb); have n5_ := Aside0.mk (Kd.C_below sq75 hb); have n6_ := Aside0.mk (below_step sq71 hb); clear HO_6; clear HL228_0; clear HL229_0; clear BK220; clear HR228_0; clear HR229_0; clear HB; have HO_6 := n0_; have HL228_0 := n1_; have HL229_0 := n2_; have BK220 := n3_; have HR228_0 := n4_; have HR229_0 := n5_; have HB := n6_; clear n0_ n1_ n2_ n3_ n4_ n5_ n6_; (try clear hb); (try clear hb2); (try clear hk); (try clear hi); have p232 : 0 ≤ (x7_4 : Int) := of_decide_eq_true sq5; have q232 : x7_4 < (t225.length : Int) := of_decide_eq_true sq5; obtain ⟨ad232, A232_0, c232_0, e232, hx232_0, hl232_0, hi232_0⟩ := at_L3 (Kd.N_reads' HO_6.out).2.2 x7_4 p232 q232; obtain rfl : ad228 = ad232 := (by injection e232); obtain ⟨ce232, hce232, hMe232, hcc232⟩ := Kd.N_get HO_6.out [] x7_4 p232 sq60; obtain ⟨ua232_0, uc232_0, rfl, ul232_0, ge232_0⟩ := Kd.FK_slice_open hMe232; have hv232_0 := hcc232 0 _ rfl; rw [Nat.add_zero, show ((Kd.slice 43 k43)).sz = 1 from rfl, Nat.mul_one] at hv232_0; replace hv232_0 := Option.some.inj (hv232_0.symm.trans hx232_0); injection hv232_0 with hva_ hvn_ hvc_; rw [hva_] at ge232_0; rw [hvc_] at ul232_0; have HL232_0 := Aside0.mk (show Kd.V k43 43 _ w.heap.size _ _ (rd_L3 t225 x7_4) from Kd.V_mk ul232_0 ge232_0); clear hva_ hvn_ hvc_ ge232_0 ul232_0; clear hcc232 hce232; have HR232_0 := Aside0.mk hi232_0; have HC232_0 := Aside0.mk hl232_0; clear hi232_0 hl232_0; replace p232 := eq_true p232; replace q232 := eq_true q232))
                  go_roundg k4
                  case measure => have := HJ5.out; have := HK2.out; have := HJ12.out; have := HK4.out; omega
                  case rel => exact ⟨(5), (true), (wrap64 (x7_4 + 1)), sq4, sq4, sq4, H', ⟨sq8⟩, ⟨sq25⟩, ⟨sq47⟩, ⟨sq71⟩⟩
                 replace c35 := Bool.eq_false_iff.mpr c35
                 subst c35
                 replace H := (itF_ _ _).symm.trans H
                 have H' := Aside0.mk H
                 clear H
                 obtain ⟨Ao38, co38, eo38⟩ := Kd.N_slice HO_6.out
                 subst eo38
                 have p228 : 0 ≤ (x7_4 : Int) := of_decide_eq_true sq5
                 have q228 : x7_4 < (t225.length : Int) := of_decide_eq_true sq5
                 obtain ⟨ad228, A228_0, c228_0, e228, hx228_0, hl228_0, hi228_0⟩ := at_L3 (Kd.N_reads' HO_6.out).2.2 x7_4 p228 q228
                 cases e228
                 obtain ⟨ce228, hce228, hMe228, hcc228⟩ := Kd.N_get HO_6.out [] x7_4 p228 sq58
                 obtain ⟨ua228_0, uc228_0, rfl, ul228_0, ge228_0⟩ := Kd.FK_slice_open hMe228
                 have hv228_0 := hcc228 0 _ rfl
                 rw [Nat.add_zero, show ((Kd.slice 43 k43)).sz = 1 from rfl, Nat.mul_one] at hv228_0
                 replace hv228_0 := Option.some.inj (hv228_0.symm.trans hx228_0)
                 injection hv228_0 with hva_ hvn_ hvc_
                 rw [hva_] at ge228_0
                 rw [hvc_] at ul228_0
                 have HL228_0 := Aside0.mk (show Kd.V k43 43 _ w.heap.size _ _ (rd_L3 t225 x7_4) from Kd.V_mk ul228_0 ge228_0)
                 clear hva_ hvn_ hvc_ ge228_0 ul228_0
                 clear hcc228 hce228
                 have HR228_0 := Aside0.mk hi228_0
                 have HC228_0 := Aside0.mk hl228_0
                 clear hi228_0 hl228_0
                 replace p228 := eq_true p228
                 replace q228 := eq_true q228
                 have p229 : 0 ≤ (x7_4 : Int) := of_decide_eq_true sq5
                 have q229 : x7_4 < (t225.length : Int) := of_decide_eq_true sq5
                 obtain ⟨ad229, A229_0, c229_0, e229, hx229_0, hl229_0, hi229_0⟩ := at_L3 (Kd.N_reads' HO_6.out).2.2 x7_4 p229 q229
                 obtain rfl : ad228 = ad229 := (by injection e229)
                 obtain ⟨ce229, hce229, hMe229, hcc229⟩ := Kd.N_get HO_6.out [] x7_4 p229 sq59
                 obtain ⟨ua229_0, uc229_0, rfl, ul229_0, ge229_0⟩ := Kd.FK_slice_open hMe229
                 have hv229_0 := hcc229 0 _ rfl
                 rw [Nat.add_zero, show ((Kd.slice 43 k43)).sz = 1 from rfl, Nat.mul_one] at hv229_0
                 replace hv229_0 := Option.some.inj (hv229_0.symm.trans hx229_0)
                 injection hv229_0 with hva_ hvn_ hvc_
                 rw [hva_] at ge229_0
                 rw [hvc_] at ul229_0
                 have HL229_0 := Aside0.mk (show Kd.V k43 43 _ w.heap.size _ _ (rd_L3 t225 x7_4) from Kd.V_mk ul229_0 ge229_0)
                 clear hva_ hvn_ hvc_ ge229_0 ul229_0
                 clear hcc229 hce229
                 have HR229_0 := Aside0.mk hi229_0
                 have HC229_0 := Aside0.mk hl229_0
                 clear hi229_0 hl229_0
                 replace p229 := eq_true p229
                 replace q229 := eq_true q229
                 have ea_ := Option.some.inj (hx228_0.symm.trans hx229_0)
                 injection ea_ with ea_ en_ ec_
                 subst ea_
                 subst ec_
                 clear en_
                 go_wp2_with (first | ((with_reducible refine gate_callee (f := 21) rfl ?_); refine goesL_ (some 53) rfl rfl Try.func21 sq1 rfl #[.slice A228_0 (rd_L3 t225 x7_4).length c228_0] rfl sq56 ?_; (with_reducible refine (tontineref17_Right.calls k4 _ _ (rd_L3 t225 x7_4) false t231 _ ?side1 ?side2 A27.out).mono ?_); (case side1 => repeat (first | exact sq75 | (with_reducible refine Kd.C_alloc ?_ _) | (with_reducible refine Kd.C_drewN ?_ _) | (with_reducible refine Kd.C_drew ?_))); (case side2 => exact HC229_0.out); rintro e w39 ⟨rfl, hb⟩; refine ⟨_, rfl, ?_⟩; have n0_ := Aside0.mk (Kd.N_below sq25 hb); have n1_ := Aside0.mk (Kd.V_below sq33 hb); have n2_ := Aside0.mk (Kd.V_below sq34 hb); have n3_ := Aside0.mk (blk_below (g := gb220) (o := .cells #[.string a0_0, .slice (some ad222) l0_1.length c0_1] 24 (0, 0)) sq47 hb); have n4_ := Aside0.mk (Kd.C_below sq76 hb); have n5_ := Aside0.mk (Kd.C_below sq75 hb); have n6_ := Aside0.mk (below_step sq71 hb); clear HO_6; clear HL228_0; clear HL229_0; clear BK220; clear HR228_0; clear HR229_0; clear HB; have HO_6 := n0_; have HL228_0 := n1_; have HL229_0 := n2_; have BK220 := n3_; have HR228_0 := n4_; have HR229_0 := n5_; have HB := n6_; clear n0_ n1_ n2_ n3_ n4_ n5_ n6_; (try clear hb); (try clear hb2); (try clear hk); (try clear hi); have p232 : 0 ≤ (x7_4 : Int) := of_decide_eq_true sq5; have q232 : x7_4 < (t225.length : Int) := of_decide_eq_true sq5; obtain ⟨ad232, A232_0, c232_0, e232, hx232_0, hl232_0, hi232_0⟩ := at_L3 (Kd.N_reads' HO_6.out).2.2 x7_4 p232 q232; obtain rfl : ad228 = ad232 := (by injection e232); obtain ⟨ce232, hce232, hMe232, hcc232⟩ := Kd.N_get HO_6.out [] x7_4 p232 sq60; obtain ⟨ua232_0, uc232_0, rfl, ul232_0, ge232_0⟩ := Kd.FK_slice_open hMe232; have hv232_0 := hcc232 0 _ rfl; rw [Nat.add_zero, show ((Kd.slice 43 k43)).sz = 1 from rfl, Nat.mul_one] at hv232_0; replace hv232_0 := Option.some.inj (hv232_0.symm.trans hx232_0); injection hv232_0 with hva_ hvn_ hvc_; rw [hva_] at ge232_0; rw [hvc_] at ul232_0; have HL232_0 := Aside0.mk (show Kd.V k43 43 _ w.heap.size _ _ (rd_L3 t225 x7_4) from Kd.V_mk ul232_0 ge232_0); clear hva_ hvn_ hvc_ ge232_0 ul232_0; clear hcc232 hce232; have HR232_0 := Aside0.mk hi232_0; have HC232_0 := Aside0.mk hl232_0; clear hi232_0 hl232_0; replace p232 := eq_true p232; replace q232 := eq_true q232))
                 go_roundg k4
                 case measure => have := HJ5.out; have := HK2.out; have := HJ12.out; have := HK4.out; omega
                 case rel => exact ⟨(5), (decide (t231 > 64)), (wrap64 (x7_4 + 1)), sq4, sq4, sq4, H', ⟨sq8⟩, ⟨sq25⟩, ⟨sq47⟩, ⟨sq71⟩⟩
                rw [if_neg c28] at H
                have c28b0 : decide (0 < ((rd_L3 t225 x7_4).length : Int)) = false := decide_eq_false c28
                try (have c28e0 := c28b0; rw [hl222_3] at c28e0)
                try (have c28e0 := c28b0; rw [hl222_4] at c28e0)
                try (have c28e0 := c28b0; rw [hl222_5] at c28e0)
                try (have c28e0 := c28b0; rw [hl224_3] at c28e0)
                try (have c28e0 := c28b0; rw [hl224_4] at c28e0)
                try (have c28e0 := c28b0; rw [hl224_5] at c28e0)
                try (have c28e0 := c28b0; rw [hl228_0] at c28e0)
                try (have c28e0 := c28b0; rw [hl229_0] at c28e0)
                try (have c28e0 := c28b0; rw [hl232_0] at c28e0)
                have c28b1 : decide (0 < (rd_L3 t225 x7_4).length) = false := decide_eq_false (by omega)
                clear c28
                by_cases c40 : x4_4 = true
                ·subst c40
                 replace H := (itT_ _ _).symm.trans H
                 have H' := Aside0.mk H
                 clear H
                 obtain ⟨Ao41, co41, eo41⟩ := Kd.N_slice HO_6.out
                 subst eo41
                 have p228 : 0 ≤ (x7_4 : Int) := of_decide_eq_true sq5
                 have q228 : x7_4 < (t225.length : Int) := of_decide_eq_true sq5
                 obtain ⟨ad228, A228_0, c228_0, e228, hx228_0, hl228_0, hi228_0⟩ := at_L3 (Kd.N_reads' HO_6.out).2.2 x7_4 p228 q228
                 cases e228
                 obtain ⟨ce228, hce228, hMe228, hcc228⟩ := Kd.N_get HO_6.out [] x7_4 p228 sq58
                 obtain ⟨ua228_0, uc228_0, rfl, ul228_0, ge228_0⟩ := Kd.FK_slice_open hMe228
                 have hv228_0 := hcc228 0 _ rfl
                 rw [Nat.add_zero, show ((Kd.slice 43 k43)).sz = 1 from rfl, Nat.mul_one] at hv228_0
                 replace hv228_0 := Option.some.inj (hv228_0.symm.trans hx228_0)
                 injection hv228_0 with hva_ hvn_ hvc_
                 rw [hva_] at ge228_0
                 rw [hvc_] at ul228_0
                 have HL228_0 := Aside0.mk (show Kd.V k43 43 _ w.heap.size _ _ (rd_L3 t225 x7_4) from Kd.V_mk ul228_0 ge228_0)
                 clear hva_ hvn_ hvc_ ge228_0 ul228_0
                 clear hcc228 hce228
                 have HR228_0 := Aside0.mk hi228_0
                 have HC228_0 := Aside0.mk hl228_0
                 clear hi228_0 hl228_0
                 replace p228 := eq_true p228
                 replace q228 := eq_true q228
                 have p229 : 0 ≤ (x7_4 : Int) := of_decide_eq_true sq5
                 have q229 : x7_4 < (t225.length : Int) := of_decide_eq_true sq5
                 obtain ⟨ad229, A229_0, c229_0, e229, hx229_0, hl229_0, hi229_0⟩ := at_L3 (Kd.N_reads' HO_6.out).2.2 x7_4 p229 q229
                 obtain rfl : ad228 = ad229 := (by injection e229)
                 obtain ⟨ce229, hce229, hMe229, hcc229⟩ := Kd.N_get HO_6.out [] x7_4 p229 sq59
                 obtain ⟨ua229_0, uc229_0, rfl, ul229_0, ge229_0⟩ := Kd.FK_slice_open hMe229
                 have hv229_0 := hcc229 0 _ rfl
                 rw [Nat.add_zero, show ((Kd.slice 43 k43)).sz = 1 from rfl, Nat.mul_one] at hv229_0
                 replace hv229_0 := Option.some.inj (hv229_0.symm.trans hx229_0)
                 injection hv229_0 with hva_ hvn_ hvc_
                 rw [hva_] at ge229_0
                 rw [hvc_] at ul229_0
                 have HL229_0 := Aside0.mk (show Kd.V k43 43 _ w.heap.size _ _ (rd_L3 t225 x7_4) from Kd.V_mk ul229_0 ge229_0)
                 clear hva_ hvn_ hvc_ ge229_0 ul229_0
                 clear hcc229 hce229
                 have HR229_0 := Aside0.mk hi229_0
                 have HC229_0 := Aside0.mk hl229_0
                 clear hi229_0 hl229_0
                 replace p229 := eq_true p229
                 replace q229 := eq_true q229
                 have ea_ := Option.some.inj (hx228_0.symm.trans hx229_0)
                 injection ea_ with ea_ en_ ec_
                 subst ea_
                 subst ec_
                 clear en_
                 go_wp2_with (first | ((with_reducible refine gate_callee (f := 21) rfl ?_); refine goesL_ (some 53) rfl rfl Try.func21 sq1 rfl #[.slice A228_0 (rd_L3 t225 x7_4).length c228_0] rfl sq56 ?_; (with_reducible refine (tontineref17_Right.calls k4 _ _ (rd_L3 t225 x7_4) t230 t231 _ ?side1 ?side2 A27.out).mono ?_); (case side1 => repeat (first | exact sq75 | (with_reducible refine Kd.C_alloc ?_ _) | (with_reducible refine Kd.C_drewN ?_ _) | (with_reducible refine Kd.C_drew ?_))); (case side2 => exact HC229_0.out); rintro e w42 ⟨rfl, hb⟩; refine ⟨_, rfl, ?_⟩; have n0_ := Aside0.mk (Kd.N_below sq25 hb); have n1_ := Aside0.mk (Kd.V_below sq33 hb); have n2_ := Aside0.mk (Kd.V_below sq34 hb); have n3_ := Aside0.mk (blk_below (g := gb220) (o := .cells #[.string a0_0, .slice (some ad222) l0_1.length c0_1] 24 (0, 0)) sq47 hb); have n4_ := Aside0.mk (Kd.C_below sq76 hb); have n5_ := Aside0.mk (Kd.C_below sq75 hb); have n6_ := Aside0.mk (below_step sq71 hb); clear HO_6; clear HL228_0; clear HL229_0; clear BK220; clear HR228_0; clear HR229_0; clear HB; have HO_6 := n0_; have HL228_0 := n1_; have HL229_0 := n2_; have BK220 := n3_; have HR228_0 := n4_; have HR229_0 := n5_; have HB := n6_; clear n0_ n1_ n2_ n3_ n4_ n5_ n6_; (try clear hb); (try clear hb2); (try clear hk); (try clear hi); have p232 : 0 ≤ (x7_4 : Int) := of_decide_eq_true sq5; have q232 : x7_4 < (t225.length : Int) := of_decide_eq_true sq5; obtain ⟨ad232, A232_0, c232_0, e232, hx232_0, hl232_0, hi232_0⟩ := at_L3 (Kd.N_reads' HO_6.out).2.2 x7_4 p232 q232; obtain rfl : ad228 = ad232 := (by injection e232); obtain ⟨ce232, hce232, hMe232, hcc232⟩ := Kd.N_get HO_6.out [] x7_4 p232 sq60; obtain ⟨ua232_0, uc232_0, rfl, ul232_0, ge232_0⟩ := Kd.FK_slice_open hMe232; have hv232_0 := hcc232 0 _ rfl; rw [Nat.add_zero, show ((Kd.slice 43 k43)).sz = 1 from rfl, Nat.mul_one] at hv232_0; replace hv232_0 := Option.some.inj (hv232_0.symm.trans hx232_0); injection hv232_0 with hva_ hvn_ hvc_; rw [hva_] at ge232_0; rw [hvc_] at ul232_0; have HL232_0 := Aside0.mk (show Kd.V k43 43 _ w.heap.size _ _ (rd_L3 t225 x7_4) from Kd.V_mk ul232_0 ge232_0); clear hva_ hvn_ hvc_ ge232_0 ul232_0; clear hcc232 hce232; have HR232_0 := Aside0.mk hi232_0; have HC232_0 := Aside0.mk hl232_0; clear hi232_0 hl232_0; replace p232 := eq_true p232; replace q232 := eq_true q232))
                 go_roundg k4
                 case measure => have := HJ5.out; have := HK2.out; have := HJ12.out; have := HK4.out; omega
                 case rel => exact ⟨(x3_4), (true), (wrap64 (x7_4 + 1)), sq4, sq4, sq4, H', ⟨sq8⟩, ⟨sq25⟩, ⟨sq47⟩, ⟨sq71⟩⟩
                replace c40 := Bool.eq_false_iff.mpr c40
                subst c40
                replace H := (itF_ _ _).symm.trans H
                have H' := Aside0.mk H
                clear H
                obtain ⟨Ao43, co43, eo43⟩ := Kd.N_slice HO_6.out
                subst eo43
                have p228 : 0 ≤ (x7_4 : Int) := of_decide_eq_true sq5
                have q228 : x7_4 < (t225.length : Int) := of_decide_eq_true sq5
                obtain ⟨ad228, A228_0, c228_0, e228, hx228_0, hl228_0, hi228_0⟩ := at_L3 (Kd.N_reads' HO_6.out).2.2 x7_4 p228 q228
                cases e228
                obtain ⟨ce228, hce228, hMe228, hcc228⟩ := Kd.N_get HO_6.out [] x7_4 p228 sq58
                obtain ⟨ua228_0, uc228_0, rfl, ul228_0, ge228_0⟩ := Kd.FK_slice_open hMe228
                have hv228_0 := hcc228 0 _ rfl
                rw [Nat.add_zero, show ((Kd.slice 43 k43)).sz = 1 from rfl, Nat.mul_one] at hv228_0
                replace hv228_0 := Option.some.inj (hv228_0.symm.trans hx228_0)
                injection hv228_0 with hva_ hvn_ hvc_
                rw [hva_] at ge228_0
                rw [hvc_] at ul228_0
                have HL228_0 := Aside0.mk (show Kd.V k43 43 _ w.heap.size _ _ (rd_L3 t225 x7_4) from Kd.V_mk ul228_0 ge228_0)
                clear hva_ hvn_ hvc_ ge228_0 ul228_0
                clear hcc228 hce228
                have HR228_0 := Aside0.mk hi228_0
                have HC228_0 := Aside0.mk hl228_0
                clear hi228_0 hl228_0
                replace p228 := eq_true p228
                replace q228 := eq_true q228
                have p229 : 0 ≤ (x7_4 : Int) := of_decide_eq_true sq5
                have q229 : x7_4 < (t225.length : Int) := of_decide_eq_true sq5
                obtain ⟨ad229, A229_0, c229_0, e229, hx229_0, hl229_0, hi229_0⟩ := at_L3 (Kd.N_reads' HO_6.out).2.2 x7_4 p229 q229
                obtain rfl : ad228 = ad229 := (by injection e229)
                obtain ⟨ce229, hce229, hMe229, hcc229⟩ := Kd.N_get HO_6.out [] x7_4 p229 sq59
                obtain ⟨ua229_0, uc229_0, rfl, ul229_0, ge229_0⟩ := Kd.FK_slice_open hMe229
                have hv229_0 := hcc229 0 _ rfl
                rw [Nat.add_zero, show ((Kd.slice 43 k43)).sz = 1 from rfl, Nat.mul_one] at hv229_0
                replace hv229_0 := Option.some.inj (hv229_0.symm.trans hx229_0)
                injection hv229_0 with hva_ hvn_ hvc_
                rw [hva_] at ge229_0
                rw [hvc_] at ul229_0
                have HL229_0 := Aside0.mk (show Kd.V k43 43 _ w.heap.size _ _ (rd_L3 t225 x7_4) from Kd.V_mk ul229_0 ge229_0)
                clear hva_ hvn_ hvc_ ge229_0 ul229_0
                clear hcc229 hce229
                have HR229_0 := Aside0.mk hi229_0
                have HC229_0 := Aside0.mk hl229_0
                clear hi229_0 hl229_0
                replace p229 := eq_true p229
                replace q229 := eq_true q229
                have ea_ := Option.some.inj (hx228_0.symm.trans hx229_0)
                injection ea_ with ea_ en_ ec_
                subst ea_
                subst ec_
                clear en_
                go_wp2_with (first | ((with_reducible refine gate_callee (f := 21) rfl ?_); refine goesL_ (some 53) rfl rfl Try.func21 sq1 rfl #[.slice A228_0 (rd_L3 t225 x7_4).length c228_0] rfl sq56 ?_; (with_reducible refine (tontineref17_Right.calls k4 _ _ (rd_L3 t225 x7_4) t230 t231 _ ?side1 ?side2 A27.out).mono ?_); (case side1 => repeat (first | exact sq75 | (with_reducible refine Kd.C_alloc ?_ _) | (with_reducible refine Kd.C_drewN ?_ _) | (with_reducible refine Kd.C_drew ?_))); (case side2 => exact HC229_0.out); rintro e w44 ⟨rfl, hb⟩; refine ⟨_, rfl, ?_⟩; have n0_ := Aside0.mk (Kd.N_below sq25 hb); have n1_ := Aside0.mk (Kd.V_below sq33 hb); have n2_ := Aside0.mk (Kd.V_below sq34 hb); have n3_ := Aside0.mk (blk_below (g := gb220) (o := .cells #[.string a0_0, .slice (some ad222) l0_1.length c0_1] 24 (0, 0)) sq47 hb); have n4_ := Aside0.mk (Kd.C_below sq76 hb); have n5_ := Aside0.mk (Kd.C_below sq75 hb); have n6_ := Aside0.mk (below_step sq71 hb); clear HO_6; clear HL228_0; clear HL229_0; clear BK220; clear HR228_0; clear HR229_0; clear HB; have HO_6 := n0_; have HL228_0 := n1_; have HL229_0 := n2_; have BK220 := n3_; have HR228_0 := n4_; have HR229_0 := n5_; have HB := n6_; clear n0_ n1_ n2_ n3_ n4_ n5_ n6_; (try clear hb); (try clear hb2); (try clear hk); (try clear hi); have p232 : 0 ≤ (x7_4 : Int) := of_decide_eq_true sq5; have q232 : x7_4 < (t225.length : Int) := of_decide_eq_true sq5; obtain ⟨ad232, A232_0, c232_0, e232, hx232_0, hl232_0, hi232_0⟩ := at_L3 (Kd.N_reads' HO_6.out).2.2 x7_4 p232 q232; obtain rfl : ad228 = ad232 := (by injection e232); obtain ⟨ce232, hce232, hMe232, hcc232⟩ := Kd.N_get HO_6.out [] x7_4 p232 sq60; obtain ⟨ua232_0, uc232_0, rfl, ul232_0, ge232_0⟩ := Kd.FK_slice_open hMe232; have hv232_0 := hcc232 0 _ rfl; rw [Nat.add_zero, show ((Kd.slice 43 k43)).sz = 1 from rfl, Nat.mul_one] at hv232_0; replace hv232_0 := Option.some.inj (hv232_0.symm.trans hx232_0); injection hv232_0 with hva_ hvn_ hvc_; rw [hva_] at ge232_0; rw [hvc_] at ul232_0; have HL232_0 := Aside0.mk (show Kd.V k43 43 _ w.heap.size _ _ (rd_L3 t225 x7_4) from Kd.V_mk ul232_0 ge232_0); clear hva_ hvn_ hvc_ ge232_0 ul232_0; clear hcc232 hce232; have HR232_0 := Aside0.mk hi232_0; have HC232_0 := Aside0.mk hl232_0; clear hi232_0 hl232_0; replace p232 := eq_true p232; replace q232 := eq_true q232))
                go_roundg k4
                case measure => have := HJ5.out; have := HK2.out; have := HJ12.out; have := HK4.out; omega
                case rel => exact ⟨(x3_4), (decide (t231 > 64)), (wrap64 (x7_4 + 1)), sq4, sq4, sq4, H', ⟨sq8⟩, ⟨sq25⟩, ⟨sq47⟩, ⟨sq71⟩⟩
               rw [if_neg c24] at H
               exact absurd H (by simp)
              rw [if_neg c23] at H
              exact absurd H (by simp)
             rw [if_neg c22] at H
             have c22b0 : decide (x7_4 < 3) = false := decide_eq_false c22
             try (have c22e0 := c22b0; rw [hl222_3] at c22e0)
             try (have c22e0 := c22b0; rw [hl222_4] at c22e0)
             try (have c22e0 := c22b0; rw [hl222_5] at c22e0)
             try (have c22e0 := c22b0; rw [hl224_3] at c22e0)
             try (have c22e0 := c22b0; rw [hl224_4] at c22e0)
             try (have c22e0 := c22b0; rw [hl224_5] at c22e0)
             try (have c22e0 := c22b0; rw [hl228_0] at c22e0)
             try (have c22e0 := c22b0; rw [hl229_0] at c22e0)
             try (have c22e0 := c22b0; rw [hl232_0] at c22e0)
             clear c22
             have H' := Aside0.mk H
             clear H
             go_wp2
             go_roundg k4
             case measure => have := HJ5.out; have := HK2.out; have := HJ12.out; have := HK4.out; omega
             case rel => exact ⟨(x3_4), (x4_4), (wrap64 (x5_2 + 1)), sq4, sq4, sq4, H', ⟨sq8⟩, ⟨sq47⟩, ⟨sq71⟩⟩
          rw [if_neg c18] at H
          exact absurd H (by simp)
         rw [if_neg c17] at H
         exact absurd H (by simp)
      rw [if_neg c11] at H
      exact absurd H (by simp)
     rw [if_neg c10] at H
     have c10b0 : decide (x5_2 < (l0_1.length : Int)) = false := decide_eq_false c10
     try (have c10e0 := c10b0; rw [hl222_3] at c10e0)
     try (have c10e0 := c10b0; rw [hl222_4] at c10e0)
     try (have c10e0 := c10b0; rw [hl222_5] at c10e0)
     try (have c10e0 := c10b0; rw [hl224_3] at c10e0)
     try (have c10e0 := c10b0; rw [hl224_4] at c10e0)
     try (have c10e0 := c10b0; rw [hl224_5] at c10e0)
     try (have c10e0 := c10b0; rw [hl228_0] at c10e0)
     try (have c10e0 := c10b0; rw [hl229_0] at c10e0)
     try (have c10e0 := c10b0; rw [hl232_0] at c10e0)
     clear c10
     by_cases c45 : x3_2 = 0
     ·rw [if_pos c45] at H
      have c45b0 : (x3_2 == 0) = true := beq_iff_eq.mpr c45
      have c45b1 : (x3_2 != 0) = false := bne_eq_false_iff_eq.mpr c45
      clear c45
      by_cases c46 : x4_2 = true
      ·subst c46
       replace H := (itT_ _ _).symm.trans H
       obtain rfl := Option.some.inj H
       have hcz47_0 : wr.cell? ⟨gb220, 0, none⟩ = some (.string a0_0) := (blk_cell BK220.out 0).trans rfl
       have hcz47_1 : wr.cell? ⟨gb220, 1, none⟩ = some (.slice A0_1 l0_1.length c0_1) := (blk_cell BK220.out 1).trans rfl
       have hfz47_0 := blk_frozen BK220.out 0
       have hfz47_1 := blk_frozen BK220.out 1
       go_wp2
       go_ret
       exact ⟨sq23, sq71⟩
      replace c46 := Bool.eq_false_iff.mpr c46
      subst c46
      replace H := (itF_ _ _).symm.trans H
      obtain rfl := Option.some.inj H
      have hcz48_0 : wr.cell? ⟨gb220, 0, none⟩ = some (.string a0_0) := (blk_cell BK220.out 0).trans rfl
      have hcz48_1 : wr.cell? ⟨gb220, 1, none⟩ = some (.slice A0_1 l0_1.length c0_1) := (blk_cell BK220.out 1).trans rfl
      have hfz48_0 := blk_frozen BK220.out 0
      have hfz48_1 := blk_frozen BK220.out 1
      go_wp2
      go_ret
      exact ⟨sq23, sq71⟩
     rw [if_neg c45] at H
     have c45b0 : (x3_2 == 0) = false := beq_eq_false_iff_ne.mpr c45
     have c45b1 : (x3_2 != 0) = true := bne_iff_ne.mpr c45
     obtain rfl := Option.some.inj H
     have hcz49_0 : wr.cell? ⟨gb220, 0, none⟩ = some (.string a0_0) := (blk_cell BK220.out 0).trans rfl
     have hcz49_1 : wr.cell? ⟨gb220, 1, none⟩ = some (.slice A0_1 l0_1.length c0_1) := (blk_cell BK220.out 1).trans rfl
     have hfz49_0 := blk_frozen BK220.out 0
     have hfz49_1 := blk_frozen BK220.out 1
     go_wp2
     go_ret
     exact ⟨sq23, sq71⟩

end Go.Proofs.Ytaogejkmkalnlaa.PAll
