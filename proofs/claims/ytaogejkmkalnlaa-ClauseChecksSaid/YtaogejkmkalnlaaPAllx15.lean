-- Written by a program of this session (wip/tools/print2.sh): functions as plain Lean, and that the machine's calls do what they say.
import Derived.Test.YtaogejkmkalnlaaPAllx0
import Derived.Test.YtaogejkmkalnlaaPAllx14
namespace Go.Proofs.Ytaogejkmkalnlaa.PAll
open Go.RowKit Go.Proofs.YtaogejkmkalnlaaW.PrintWords Go.Proofs.YtaogejkmkalnlaaW.PrintLast Go.Proofs.YtaogejkmkalnlaaW.PrintMore
attribute [local go_sem] max2_int min2_int max_two min_two max_three min_three max_four min_four   -- for this text's walks alone
set_option linter.unusedVariables false
set_option linter.unusedSimpArgs false

/-! ### tontinebook_SameProduct: function 13 -/
mutual
def tontinebook_SameProduct.j0 : Nat → Bool → ByteArray → List (S41) → ByteArray → List (S41) → Option (Bool)
 | 0, _, _, _, _, _ => none
 | k + 1, x21, x287000, x287001, x288000, x288001 => if x21 = true then (some false) else (tontinebook_SameProduct.l0 k 0 x287000 x287001 x288000 x288001)
def tontinebook_SameProduct.l0 : Nat → Int → ByteArray → List (S41) → ByteArray → List (S41) → Option (Bool)
 | 0, _, _, _, _, _ => none
 | k + 1, x5, x287000, x287001, x288000, x288001 => if x5 < (x287001.length : Int) then (if 0 ≤ x5 then (if x5 < (x288001.length : Int) then (if ((rd_T41 x287001 x5).f0) = ((rd_T41 x288001 x5).f0) then (if ((rd_T41 x287001 x5).f1) = ((rd_T41 x288001 x5).f1) then (if ((rd_T41 x287001 x5).f2).toList = ((rd_T41 x288001 x5).f2).toList then ((tontinebook_SameFormula.f k ((rd_T41 x287001 x5).f3) ((rd_T41 x288001 x5).f3)).bind fun t292 => (if t292 = true then ((tontinebook_SameFormula.f k ((rd_T41 x287001 x5).f4) ((rd_T41 x288001 x5).f4)).bind fun t293 => (if t293 = true then ((tontinebook_SameFormula.f k ((rd_T41 x287001 x5).f5) ((rd_T41 x288001 x5).f5)).bind fun t294 => (if t294 = true then (tontinebook_SameProduct.l0 k (wrap64 (x5 + 1)) x287000 x287001 x288000 x288001) else (some false))) else (some false))) else (some false))) else (some false)) else (some false)) else (some false)) else (none)) else (none)) else (some true)
end
def tontinebook_SameProduct.f (k : Nat) (a0_0 : ByteArray) (l0_1 : List (S41)) (a1_0 : ByteArray) (l1_1 : List (S41)) : Option (Bool) := if a0_0.toList = a1_0.toList then (tontinebook_SameProduct.j0 k ((l0_1.length : Int) != (l1_1.length : Int)) a0_0 l0_1 a1_0 l1_1) else (tontinebook_SameProduct.j0 k true a0_0 l0_1 a1_0 l1_1)
theorem tontinebook_SameProduct.mono_l : ∀ k, (∀ y0 y1 y2 y3 y4, LeO (tontinebook_SameProduct.j0 k y0 y1 y2 y3 y4) (tontinebook_SameProduct.j0 (k + 1) y0 y1 y2 y3 y4)) ∧ (∀ y0 y1 y2 y3 y4, LeO (tontinebook_SameProduct.l0 k y0 y1 y2 y3 y4) (tontinebook_SameProduct.l0 (k + 1) y0 y1 y2 y3 y4))
 | 0 => ⟨fun _ _ _ _ _ r h => by simp [tontinebook_SameProduct.j0] at h, fun _ _ _ _ _ r h => by simp [tontinebook_SameProduct.l0] at h⟩
 | k + 1 => by
  obtain ⟨ih0, ih1⟩ := tontinebook_SameProduct.mono_l k
  refine ⟨?_, ?_⟩
  ·intro y0 y1 y2 y3 y4
   unfold tontinebook_SameProduct.j0
   exact sq103
  intro y0 y1 y2 y3 y4
  unfold tontinebook_SameProduct.l0
  exact sq103
theorem tontinebook_SameProduct.mono : ∀ a0 a1 a2 a3 k, LeO (tontinebook_SameProduct.f k a0 a1 a2 a3) (tontinebook_SameProduct.f (k + 1) a0 a1 a2 a3) := by
 intro a0 a1 a2 a3 k
 obtain ⟨ih0, ih1⟩ := tontinebook_SameProduct.mono_l k
 unfold tontinebook_SameProduct.f
 exact sq103
def tontinebook_SameProduct.T6 : Bool × List (List Nat × List Nat) := (true, [([], []), ([0], [0]), ([], []), ([1, 2], [1, 2]), ([3], [3]), ([], []), ([5], [5]), ([], []), ([6, 7], [6, 7]), ([8], [8]), ([], []), ([], []), ([10, 4, 0, 1, 2, 3, 4, 10, 11], [4, 10]), ([11, 9, 12, 0, 1, 2, 3, 4, 5, 6, 7, 8, 9, 10, 11, 12], [9, 11])])
def tontinebook_SameProduct.B6 : List Nat := [0, 1, 0, 7, 15, 0, 32, 0, 224, 480, 0, 0, 3103, 8191]
theorem tontinebook_SameProduct.tab6 : rtab .any (opsOf Try.f13 6) = tontinebook_SameProduct.T6 := by kernel_rfl
theorem tontinebook_SameProduct.bits6 : waitsOk tontinebook_SameProduct.T6.2 tontinebook_SameProduct.B6 = true := by kernel_rfl
set_option maxHeartbeats 8000000 in
set_option maxRecDepth 100000 in
theorem tontinebook_SameProduct.calls (k : Nat) (a0_0 : ByteArray) (A0_1 : Option Addr) (c0_1 : Nat) (l0_1 : List (S41)) (a1_0 : ByteArray) (A1_1 : Option Addr) (c1_1 : Nat) (l1_1 : List (S41)) (r : Bool) (w : World) (hr0_1 : Kd.C k41 w A0_1 l0_1.length l0_1) (hc0_1 : l0_1.length ≤ c0_1) (hr1_1 : Kd.C k41 w A1_1 l1_1.length l1_1) (hc1_1 : l1_1.length ≤ c1_1) (h : tontinebook_SameProduct.f k a0_0 l0_1 a1_0 l1_1 = some r) :
  Calls Try.prog 13 #[.agg #[.string a0_0, .slice A0_1 l0_1.length c0_1], .agg #[.string a1_0, .slice A1_1 l1_1.length c1_1]] w fun e w' => e = .returned (.bool r) ∧ Below w.heap.size w w' := by
 have hu24 := Try.underlying24
 have hu41 := Try.underlying41
 have HR0_1 := Aside0.mk hr0_1
 have HC0_1 := Aside0.mk hc0_1
 clear hr0_1 hc0_1
 have HR1_1 := Aside0.mk hr1_1
 have HC1_1 := Aside0.mk hc1_1
 clear hr1_1 hc1_1
 have HB := Aside0.mk (Below.refl w.heap.size w)
 have H : (if a0_0.toList = a1_0.toList then (tontinebook_SameProduct.j0 k ((l0_1.length : Int) != (l1_1.length : Int)) a0_0 l0_1 a1_0 l1_1) else (tontinebook_SameProduct.j0 k true a0_0 l0_1 a1_0 l1_1)) = some r := h
 clear h
 have HC3 := Aside0.mk H
 clear H
 go_enter Try.func13, Try.ntmps13
 go_upto_region 1 with (first | ((with_reducible refine gate_dst (N := 2) rfl ?_); (try (refine gate_guard (by rfl) ?_; dsimp only)); refine box_event ?hg (N := 2) ?hd (cs := #[.string a0_0, .slice A0_1 l0_1.length c0_1]) (t := 24) ?hr ?_; (case hd => rfl); (case hg => rfl); (case hr => first | (go_simp; done) | (go_simp; rfl)); intro gb286 hg w4 hbox hb; have n0_ := Aside0.mk (below_step sq55 hb); have n1_ := Aside0.mk (hbox); have n2_ := Aside0.mk ((by rw [hg]; exact (below_size sq55) : w.heap.size ≤ gb286)); have n3_ := Aside0.mk ((by rw [hg]; exact (below_size sq55) : w.heap.size ≤ gb286)); clear HB; have HB := n0_; have BK286 := n1_; have GW286 := n2_; have GE286 := n3_; clear n0_ n1_ n2_ n3_; clear hb hbox hg) | ((with_reducible refine gate_dst (N := 3) rfl ?_); (try (refine gate_guard (by rfl) ?_; dsimp only)); refine box_event ?hg (N := 3) ?hd (cs := #[.string a1_0, .slice A1_1 l1_1.length c1_1]) (t := 24) ?hr ?_; (case hd => rfl); (case hg => rfl); (case hr => first | (go_simp; done) | (go_simp; rfl)); intro gb287 hg w5 hbox hb; have n0_ := Aside0.mk (blk_below (g := gb286) (o := .cells #[.string a0_0, .slice A0_1 l0_1.length c0_1] 24 (0, 0)) sq49 hb); have n1_ := Aside0.mk (below_step sq73 hb); have n2_ := Aside0.mk (hbox); have n3_ := Aside0.mk ((by rw [hg]; exact (below_size sq73) : w.heap.size ≤ gb287)); have n4_ := Aside0.mk ((by rw [hg]; exact (below_size sq73) : w.heap.size ≤ gb287)); have n5_ := Aside0.mk ((by rw [hg]; exact Nat.ne_of_lt (blk_lt (g := gb286) (o := .cells #[.string a0_0, .slice A0_1 l0_1.length c0_1] 24 (0, 0)) sq49) : gb286 ≠ gb287)); have n6_ := Aside0.mk ((by rw [hg]; exact Nat.ne_of_gt (blk_lt (g := gb286) (o := .cells #[.string a0_0, .slice A0_1 l0_1.length c0_1] 24 (0, 0)) sq49) : gb287 ≠ gb286)); clear BK286; clear HB; have BK286 := n0_; have HB := n1_; have BK287 := n2_; have GW287 := n3_; have GE287 := n4_; have NB286_287 := n5_; have NB287_286 := n6_; clear n0_ n1_ n2_ n3_ n4_ n5_ n6_; clear hb hbox hg))
 (try simp only [Act.put, List.setIfInBounds_toArray, List.set_cons_zero, List.set_cons_succ])
 go_cut [21] (fun v21 wc => ∃ (kq : Nat) (x21_2 : Bool), v21 = .bool x21_2 ∧ Aside0 (tontinebook_SameProduct.j0 kq x21_2 a0_0 l0_1 a1_0 l1_1 = some r) ∧ Aside0 (kq ≤ k) ∧ Aside0 (wc.heap[gb286]? = some (.cells #[.string a0_0, (.slice A0_1 l0_1.length c0_1)] 24 (0, 0))) ∧ Aside0 (wc.heap[gb287]? = some (.cells #[.string a1_0, (.slice A1_1 l1_1.length c1_1)] 24 (0, 0))) ∧ Aside0 (Below w.heap.size w wc))
 case first =>
  have H := HC3.out
  clear HC3
  by_cases c6 : a0_0.toList = a1_0.toList
  ·rw [if_pos c6] at H
   have c6b0 : (a0_0.toList == a1_0.toList) = true := beq_iff_eq.mpr c6
   have c6b1 : (a0_0.toList != a1_0.toList) = false := bne_eq_false_iff_eq.mpr c6
   clear c6
   (first | rw [c6b0] | (simp only [i64_w, i32_w]; rw [c6b0]) | skip)
   have H' := Aside0.mk H
   clear H
   have hnb7 := NB286_287.out
   have hnc7 := NB287_286.out
   have hcz8_0 : w5.cell? ⟨gb286, 0, none⟩ = some (.string a0_0) := (blk_cell BK286.out 0).trans rfl
   have hcz8_1 : w5.cell? ⟨gb286, 1, none⟩ = some (.slice A0_1 l0_1.length c0_1) := (blk_cell BK286.out 1).trans rfl
   have hfz8_0 := blk_frozen BK286.out 0
   have hfz8_1 := blk_frozen BK286.out 1
   have hcz9_0 : w5.cell? ⟨gb287, 0, none⟩ = some (.string a1_0) := (blk_cell BK287.out 0).trans rfl
   have hcz9_1 : w5.cell? ⟨gb287, 1, none⟩ = some (.slice A1_1 l1_1.length c1_1) := (blk_cell BK287.out 1).trans rfl
   have hfz9_0 := blk_frozen BK287.out 0
   have hfz9_1 := blk_frozen BK287.out 1
   go_wp2
   go_meet
   case rel => exact ⟨_, (((l0_1.length : Int) != (l1_1.length : Int))), sq4, H', ⟨sq2⟩, ⟨sq49⟩, ⟨sq50⟩, ⟨sq78⟩⟩
  rw [if_neg c6] at H
  have c6b0 : (a0_0.toList == a1_0.toList) = false := beq_eq_false_iff_ne.mpr c6
  have c6b1 : (a0_0.toList != a1_0.toList) = true := bne_iff_ne.mpr c6
  (first | rw [c6b0] | (simp only [i64_w, i32_w]; rw [c6b0]) | skip)
  have H' := Aside0.mk H
  clear H
  have hnb10 := NB286_287.out
  have hnc10 := NB287_286.out
  have hcz11_0 : w5.cell? ⟨gb286, 0, none⟩ = some (.string a0_0) := (blk_cell BK286.out 0).trans rfl
  have hcz11_1 : w5.cell? ⟨gb286, 1, none⟩ = some (.slice A0_1 l0_1.length c0_1) := (blk_cell BK286.out 1).trans rfl
  have hfz11_0 := blk_frozen BK286.out 0
  have hfz11_1 := blk_frozen BK286.out 1
  have hcz12_0 : w5.cell? ⟨gb287, 0, none⟩ = some (.string a1_0) := (blk_cell BK287.out 0).trans rfl
  have hcz12_1 : w5.cell? ⟨gb287, 1, none⟩ = some (.slice A1_1 l1_1.length c1_1) := (blk_cell BK287.out 1).trans rfl
  have hfz12_0 := blk_frozen BK287.out 0
  have hfz12_1 := blk_frozen BK287.out 1
  go_wp2
  go_meet
  case rel => exact ⟨_, (true), sq4, H', ⟨sq2⟩, ⟨sq49⟩, ⟨sq50⟩, ⟨sq78⟩⟩
 case rest =>
  clear HC3; try clear c1; try clear p2; try clear c6; try clear c6b0; try clear c6b1; try clear c7; try clear c10; try clear hcz11_0; try clear hcz11_1; try clear hcz12_0; try clear hcz12_1; try clear hcz8_0; try clear hcz8_1; try clear hcz9_0; try clear hcz9_1; try clear hfz11_0; try clear hfz11_1; try clear hfz12_0; try clear hfz12_1; try clear hfz8_0; try clear hfz8_1; try clear hfz9_0; try clear hfz9_1
  obtain ⟨kq, x21_2, rfl, HA, HJ2, BK286, BK287, HB⟩ := hcut
  cases kq with
  | zero => exact absurd HA.out (by simp [tontinebook_SameProduct.j0])
  | succ kj2 =>
   have H := HA.out
   clear HA
   simp only [tontinebook_SameProduct.j0] at H
   by_cases c13 : x21_2 = true
   ·subst c13
    replace H := (itT_ _ _).symm.trans H
    obtain rfl := Option.some.inj H
    go_wp2
    go_ret
    exact ⟨sq23, sq78⟩
   replace c13 := Bool.eq_false_iff.mpr c13
   subst c13
   replace H := (itF_ _ _).symm.trans H
   have H' := Aside0.mk H
   clear H
   go_wp2
   go_loopg [5] kj2 (fun kq v5 w' => ∃ (x5_2 : Int), v5 = .int .i64 x5_2 ∧ Aside0 (tontinebook_SameProduct.l0 kq x5_2 a0_0 l0_1 a1_0 l1_1 = some r) ∧ Aside0 (kq ≤ kj2) ∧ Aside0 (w'.heap[gb286]? = some (.cells #[.string a0_0, (.slice A0_1 l0_1.length c0_1)] 24 (0, 0))) ∧ Aside0 (w'.heap[gb287]? = some (.cells #[.string a1_0, (.slice A1_1 l1_1.length c1_1)] 24 (0, 0))) ∧ Aside0 (Below w.heap.size w w'))
   case atStart => exact ⟨(0), sq4, H', ⟨Nat.le_refl _⟩, ⟨sq49⟩, ⟨sq50⟩, ⟨sq78⟩⟩
   case round =>
    clear H'
    try clear c1; try clear p2; try clear c6; try clear c6b0; try clear c6b1; try clear c7; try clear c10; try clear c13; try clear hcz11_0; try clear hcz11_1; try clear hcz12_0; try clear hcz12_1; try clear hcz8_0; try clear hcz8_1; try clear hcz9_0; try clear hcz9_1; try clear hfz11_0; try clear hfz11_1; try clear hfz12_0; try clear hfz12_1; try clear hfz8_0; try clear hfz8_1; try clear hfz9_0; try clear hfz9_1; try clear p2
    obtain ⟨x5_2, rfl, HA, HK2, BK286, BK287, HB⟩ := hrel
    cases gk with
    | zero => exact absurd HA.out (by simp [tontinebook_SameProduct.l0])
    | succ k2 =>
     have H := HA.out
     clear HA
     simp only [tontinebook_SameProduct.l0] at H
     by_cases c14 : x5_2 < (l0_1.length : Int)
     ·rw [if_pos c14] at H
      have c14b0 : decide (x5_2 < (l0_1.length : Int)) = true := decide_eq_true c14; clear c14
      by_cases c15 : 0 ≤ x5_2
      ·rw [if_pos c15] at H
       have c15b0 : decide (0 ≤ x5_2) = true := decide_eq_true c15; clear c15
       by_cases c16 : x5_2 < (l1_1.length : Int)
       ·rw [if_pos c16] at H
        have c16b0 : decide (x5_2 < (l1_1.length : Int)) = true := decide_eq_true c16; clear c16
        have HX_ := Aside0.mk H
        clear H
        have hnb26 := NB286_287.out
        have hnc26 := NB287_286.out
        have hcz27_0 : wr.cell? ⟨gb286, 0, none⟩ = some (.string a0_0) := (blk_cell BK286.out 0).trans rfl
        have hcz27_1 : wr.cell? ⟨gb286, 1, none⟩ = some (.slice A0_1 l0_1.length c0_1) := (blk_cell BK286.out 1).trans rfl
        have hfz27_0 := blk_frozen BK286.out 0
        have hfz27_1 := blk_frozen BK286.out 1
        try go_wp2
        have n0_ := Aside0.mk (blk_drew BK286.out)
        have n1_ := Aside0.mk (blk_drew BK287.out)
        have n2_ := Aside0.mk (below_drew1 HB.out)
        clear BK286; clear BK287; clear HB
        have BK286 := n0_
        have BK287 := n1_
        have HB := n2_
        clear n0_ n1_ n2_
        have p288 : 0 ≤ (x5_2 : Int) := of_decide_eq_true sq5
        have q288 : x5_2 < (l0_1.length : Int) := of_decide_eq_true sq5
        obtain ⟨ad288, A288_3, c288_3, A288_4, c288_4, A288_5, c288_5, e288, hx288_0, hx288_1, hx288_2, hx288_3, hx288_4, hx288_5, hl288_3, hi288_3, hl288_4, hi288_4, hl288_5, hi288_5⟩ := at_T41 HR0_1.out x5_2 p288 q288
        have hw288_5 := hx288_5
        have hw288_4 := hx288_4
        have hw288_3 := hx288_3
        have hw288_2 := hx288_2
        have hw288_1 := hx288_1
        have hw288_0 := hx288_0
        cases e288
        try replace hx288_0 := (HB.out.cell (World.block_lt_of_cell? w _ hx288_0)).trans hx288_0
        try replace hx288_1 := (HB.out.cell (World.block_lt_of_cell? w _ hx288_1)).trans hx288_1
        try replace hx288_2 := (HB.out.cell (World.block_lt_of_cell? w _ hx288_2)).trans hx288_2
        try replace hx288_3 := (HB.out.cell (World.block_lt_of_cell? w _ hx288_3)).trans hx288_3
        try replace hx288_4 := (HB.out.cell (World.block_lt_of_cell? w _ hx288_4)).trans hx288_4
        try replace hx288_5 := (HB.out.cell (World.block_lt_of_cell? w _ hx288_5)).trans hx288_5
        have HR288_3 := Aside0.mk hi288_3
        have HC288_3 := Aside0.mk hl288_3
        clear hi288_3 hl288_3
        have HR288_4 := Aside0.mk hi288_4
        have HC288_4 := Aside0.mk hl288_4
        clear hi288_4 hl288_4
        have HR288_5 := Aside0.mk hi288_5
        have HC288_5 := Aside0.mk hl288_5
        clear hi288_5 hl288_5
        replace p288 := eq_true p288
        replace q288 := eq_true q288
        have p289 : 0 ≤ (x5_2 : Int) := of_decide_eq_true sq5
        have q289 : x5_2 < (l1_1.length : Int) := of_decide_eq_true sq5
        obtain ⟨ad289, A289_3, c289_3, A289_4, c289_4, A289_5, c289_5, e289, hx289_0, hx289_1, hx289_2, hx289_3, hx289_4, hx289_5, hl289_3, hi289_3, hl289_4, hi289_4, hl289_5, hi289_5⟩ := at_T41 HR1_1.out x5_2 p289 q289
        have hw289_5 := hx289_5
        have hw289_4 := hx289_4
        have hw289_3 := hx289_3
        have hw289_2 := hx289_2
        have hw289_1 := hx289_1
        have hw289_0 := hx289_0
        cases e289
        try replace hx289_0 := (HB.out.cell (World.block_lt_of_cell? w _ hx289_0)).trans hx289_0
        try replace hx289_1 := (HB.out.cell (World.block_lt_of_cell? w _ hx289_1)).trans hx289_1
        try replace hx289_2 := (HB.out.cell (World.block_lt_of_cell? w _ hx289_2)).trans hx289_2
        try replace hx289_3 := (HB.out.cell (World.block_lt_of_cell? w _ hx289_3)).trans hx289_3
        try replace hx289_4 := (HB.out.cell (World.block_lt_of_cell? w _ hx289_4)).trans hx289_4
        try replace hx289_5 := (HB.out.cell (World.block_lt_of_cell? w _ hx289_5)).trans hx289_5
        have HR289_3 := Aside0.mk hi289_3
        have HC289_3 := Aside0.mk hl289_3
        clear hi289_3 hl289_3
        have HR289_4 := Aside0.mk hi289_4
        have HC289_4 := Aside0.mk hl289_4
        clear hi289_4 hl289_4
        have HR289_5 := Aside0.mk hi289_5
        have HC289_5 := Aside0.mk hl289_5
        clear hi289_5 hl289_5
        replace p289 := eq_true p289
        replace q289 := eq_true q289
        refine start_ (n := 14) (S := fun w' => w'.cell? ⟨gb286, 0, none⟩ = some (.string a0_0) ∧ w'.cell? ⟨gb286, 1, none⟩ = some (.slice (some ad288) l0_1.length c0_1) ∧ w'.cell? ⟨gb287, 0, none⟩ = some (.string a1_0) ∧ w'.cell? ⟨gb287, 1, none⟩ = some (.slice (some ad289) l1_1.length c1_1) ∧ w'.cell? (ad288.add ((x5_2).toNat * 6)) = some (.int .i64 ((rd_T41 l0_1 x5_2).f0)) ∧ w'.cell? ⟨(ad288.add ((x5_2).toNat * 6)).block, (ad288.add ((x5_2).toNat * 6)).off + 1, none⟩ = some (.int .i64 ((rd_T41 l0_1 x5_2).f1)) ∧ w'.cell? ⟨(ad288.add ((x5_2).toNat * 6)).block, (ad288.add ((x5_2).toNat * 6)).off + 2, none⟩ = some (.string ((rd_T41 l0_1 x5_2).f2)) ∧ w'.cell? ⟨(ad288.add ((x5_2).toNat * 6)).block, (ad288.add ((x5_2).toNat * 6)).off + 3, none⟩ = some (.slice A288_3 ((rd_T41 l0_1 x5_2).f3).length c288_3) ∧ w'.cell? ⟨(ad288.add ((x5_2).toNat * 6)).block, (ad288.add ((x5_2).toNat * 6)).off + 4, none⟩ = some (.slice A288_4 ((rd_T41 l0_1 x5_2).f4).length c288_4) ∧ w'.cell? ⟨(ad288.add ((x5_2).toNat * 6)).block, (ad288.add ((x5_2).toNat * 6)).off + 5, none⟩ = some (.slice A288_5 ((rd_T41 l0_1 x5_2).f5).length c288_5) ∧ w'.cell? (ad289.add ((x5_2).toNat * 6)) = some (.int .i64 ((rd_T41 l1_1 x5_2).f0)) ∧ w'.cell? ⟨(ad289.add ((x5_2).toNat * 6)).block, (ad289.add ((x5_2).toNat * 6)).off + 1, none⟩ = some (.int .i64 ((rd_T41 l1_1 x5_2).f1)) ∧ w'.cell? ⟨(ad289.add ((x5_2).toNat * 6)).block, (ad289.add ((x5_2).toNat * 6)).off + 2, none⟩ = some (.string ((rd_T41 l1_1 x5_2).f2)) ∧ w'.cell? ⟨(ad289.add ((x5_2).toNat * 6)).block, (ad289.add ((x5_2).toNat * 6)).off + 3, none⟩ = some (.slice A289_3 ((rd_T41 l1_1 x5_2).f3).length c289_3) ∧ w'.cell? ⟨(ad289.add ((x5_2).toNat * 6)).block, (ad289.add ((x5_2).toNat * 6)).off + 4, none⟩ = some (.slice A289_4 ((rd_T41 l1_1 x5_2).f4).length c289_4) ∧ w'.cell? ⟨(ad289.add ((x5_2).toNat * 6)).block, (ad289.add ((x5_2).toNat * 6)).off + 5, none⟩ = some (.slice A289_5 ((rd_T41 l1_1 x5_2).f5).length c289_5)) (ds := []) #[false, false, false, false, false, false, false, false, false, false, false, false, false, false] sq1 rfl rfl ⟨(blk_cell BK286.out 0).trans rfl, (blk_cell BK286.out 1).trans rfl, (blk_cell BK287.out 0).trans rfl, (blk_cell BK287.out 1).trans rfl, ((HB.out.cell (World.block_lt_of_cell? w _ hw288_0)).trans hw288_0), ((HB.out.cell (World.block_lt_of_cell? w _ hw288_1)).trans hw288_1), ((HB.out.cell (World.block_lt_of_cell? w _ hw288_2)).trans hw288_2), ((HB.out.cell (World.block_lt_of_cell? w _ hw288_3)).trans hw288_3), ((HB.out.cell (World.block_lt_of_cell? w _ hw288_4)).trans hw288_4), ((HB.out.cell (World.block_lt_of_cell? w _ hw288_5)).trans hw288_5), ((HB.out.cell (World.block_lt_of_cell? w _ hw289_0)).trans hw289_0), ((HB.out.cell (World.block_lt_of_cell? w _ hw289_1)).trans hw289_1), ((HB.out.cell (World.block_lt_of_cell? w _ hw289_2)).trans hw289_2), ((HB.out.cell (World.block_lt_of_cell? w _ hw289_3)).trans hw289_3), ((HB.out.cell (World.block_lt_of_cell? w _ hw289_4)).trans hw289_4), ((HB.out.cell (World.block_lt_of_cell? w _ hw289_5)).trans hw289_5)⟩ (fun hHeld => ?_); refine with_tabW tontinebook_SameProduct.tab6 tontinebook_SameProduct.bits6 (fun HT_ HW_ => ?_)
        generalize wr.drew = w28 at BK286 BK287 HB HR288_3 HR288_4 HR288_5 HR289_3 HR289_4 HR289_5 hx288_0 hx288_1 hx288_2 hx288_3 hx288_4 hx288_5 hx289_0 hx289_1 hx289_2 hx289_3 hx289_4 hx289_5 hHeld ⊢
        refine pure_ (i := 0) (N := some 29) (v := ?_) (a' := ?_) #[true, false, false, false, false, false, false, false, false, false, false, false, false, false] rfl rfl (any_of HT_.out sq1) (fun _ _ _ h => h) (Or.inl ⟨by rfl, ?_⟩) ?_ ?_
        rotate_left
        ·intro w'
         go_simp
         with_reducible rfl
        rotate_left
        ·simp only [Act.put, List.setIfInBounds_toArray, List.set_cons_zero, List.set_cons_succ, i64_w, i32_w]
         rfl
        refine pure_ (i := 2) (N := some 31) (v := ?_) (a' := ?_) #[true, false, true, false, false, false, false, false, false, false, false, false, false, false] rfl rfl (any_of HT_.out sq1) (fun _ _ _ h => h) (Or.inl ⟨by rfl, ?_⟩) ?_ ?_
        rotate_left
        ·intro w'
         go_simp
         with_reducible rfl
        rotate_left
        ·simp only [Act.put, List.setIfInBounds_toArray, List.set_cons_zero, List.set_cons_succ, i64_w, i32_w]
         rfl
        refine pure_ (i := 5) (N := some 34) (v := ?_) (a' := ?_) #[true, false, true, false, false, true, false, false, false, false, false, false, false, false] rfl rfl (any_of HT_.out sq1) (fun _ _ _ h => h) (Or.inl ⟨by rfl, ?_⟩) ?_ ?_
        rotate_left
        ·intro w'
         go_simp
         with_reducible rfl
        rotate_left
        ·simp only [Act.put, List.setIfInBounds_toArray, List.set_cons_zero, List.set_cons_succ, i64_w, i32_w]
         rfl
        refine pure_ (i := 7) (N := some 36) (v := ?_) (a' := ?_) #[true, false, true, false, false, true, false, true, false, false, false, false, false, false] rfl rfl (any_of HT_.out sq1) (fun _ _ _ h => h) (Or.inl ⟨by rfl, ?_⟩) ?_ ?_
        rotate_left
        ·intro w'
         go_simp
         with_reducible rfl
        rotate_left
        ·simp only [Act.put, List.setIfInBounds_toArray, List.set_cons_zero, List.set_cons_succ, i64_w, i32_w]
         rfl
        refine take_ (i := 1) (N := some 30) (v := ?_) (a' := ?_) #[true, true, true, false, false, true, false, true, false, false, false, false, false, false] rfl rfl (take_ofW HT_.out HW_.out sq1) (fun _ _ _ h => h) (Or.inl ⟨by rfl, ?_⟩) hHeld ?_ ?_
        rotate_left
        ·rintro w' ⟨s0, s1, s2, s3, s4, s5, s6, s7, s8, s9, s10, s11, s12, s13, s14, s15⟩
         go_simp
         with_reducible rfl
        rotate_left
        ·simp only [Act.put, List.setIfInBounds_toArray, List.set_cons_zero, List.set_cons_succ, i64_w, i32_w]
         rfl
        refine pure_ (i := 3) (N := some 32) (v := ?_) (a' := ?_) #[true, true, true, true, false, true, false, true, false, false, false, false, false, false] rfl rfl (any_of HT_.out sq1) (fun _ _ _ h => h) (Or.inl ⟨by rfl, ?_⟩) ?_ ?_
        rotate_left
        ·intro w'
         go_simp
         with_reducible rfl
        rotate_left
        ·simp only [Act.put, List.setIfInBounds_toArray, List.set_cons_zero, List.set_cons_succ, i64_w, i32_w]
         rfl
        refine take_ (i := 4) (N := some 33) (v := ?_) (a' := ?_) #[true, true, true, true, true, true, false, true, false, false, false, false, false, false] rfl rfl (take_ofW HT_.out HW_.out sq1) (fun _ _ _ h => h) (Or.inl ⟨by rfl, ?_⟩) hHeld ?_ ?_
        rotate_left
        ·rintro w' ⟨s0, s1, s2, s3, s4, s5, s6, s7, s8, s9, s10, s11, s12, s13, s14, s15⟩
         go_simp
         with_reducible rfl
        rotate_left
        ·simp only [Act.put, List.setIfInBounds_toArray, List.set_cons_zero, List.set_cons_succ, i64_w, i32_w]
         rfl
        refine take_ (i := 6) (N := some 35) (v := ?_) (a' := ?_) #[true, true, true, true, true, true, true, true, false, false, false, false, false, false] rfl rfl (take_ofW HT_.out HW_.out sq1) (fun _ _ _ h => h) (Or.inl ⟨by rfl, ?_⟩) hHeld ?_ ?_
        rotate_left
        ·rintro w' ⟨s0, s1, s2, s3, s4, s5, s6, s7, s8, s9, s10, s11, s12, s13, s14, s15⟩
         go_simp
         with_reducible rfl
        rotate_left
        ·simp only [Act.put, List.setIfInBounds_toArray, List.set_cons_zero, List.set_cons_succ, i64_w, i32_w]
         rfl
        refine pure_ (i := 8) (N := some 37) (v := ?_) (a' := ?_) #[true, true, true, true, true, true, true, true, true, false, false, false, false, false] rfl rfl (any_of HT_.out sq1) (fun _ _ _ h => h) (Or.inl ⟨by rfl, ?_⟩) ?_ ?_
        rotate_left
        ·intro w'
         go_simp
         with_reducible rfl
        rotate_left
        ·simp only [Act.put, List.setIfInBounds_toArray, List.set_cons_zero, List.set_cons_succ, i64_w, i32_w]
         rfl
        refine take_ (i := 9) (N := some 38) (v := ?_) (a' := ?_) #[true, true, true, true, true, true, true, true, true, true, false, false, false, false] rfl rfl (take_ofW HT_.out HW_.out sq1) (fun _ _ _ h => h) (Or.inl ⟨by rfl, ?_⟩) hHeld ?_ ?_
        rotate_left
        ·rintro w' ⟨s0, s1, s2, s3, s4, s5, s6, s7, s8, s9, s10, s11, s12, s13, s14, s15⟩
         go_simp
         with_reducible rfl
        rotate_left
        ·simp only [Act.put, List.setIfInBounds_toArray, List.set_cons_zero, List.set_cons_succ, i64_w, i32_w]
         rfl
        refine join_ (σ := Nat × Nat) 2 #[true, true, true, true, true, true, true, true, true, true, true, true, false, false] (fun s_ => [(6, .pointer (some ⟨s_.1, 0, none⟩)), (7, .pointer (some ⟨s_.2, 0, none⟩))]) (fun s_ w' => (w'.cell? ⟨gb286, 0, none⟩ = some (.string a0_0) ∧ w'.cell? ⟨gb286, 1, none⟩ = some (.slice (some ad288) l0_1.length c0_1) ∧ w'.cell? ⟨gb287, 0, none⟩ = some (.string a1_0) ∧ w'.cell? ⟨gb287, 1, none⟩ = some (.slice (some ad289) l1_1.length c1_1) ∧ w'.cell? (ad288.add ((x5_2).toNat * 6)) = some (.int .i64 ((rd_T41 l0_1 x5_2).f0)) ∧ w'.cell? ⟨(ad288.add ((x5_2).toNat * 6)).block, (ad288.add ((x5_2).toNat * 6)).off + 1, none⟩ = some (.int .i64 ((rd_T41 l0_1 x5_2).f1)) ∧ w'.cell? ⟨(ad288.add ((x5_2).toNat * 6)).block, (ad288.add ((x5_2).toNat * 6)).off + 2, none⟩ = some (.string ((rd_T41 l0_1 x5_2).f2)) ∧ w'.cell? ⟨(ad288.add ((x5_2).toNat * 6)).block, (ad288.add ((x5_2).toNat * 6)).off + 3, none⟩ = some (.slice A288_3 ((rd_T41 l0_1 x5_2).f3).length c288_3) ∧ w'.cell? ⟨(ad288.add ((x5_2).toNat * 6)).block, (ad288.add ((x5_2).toNat * 6)).off + 4, none⟩ = some (.slice A288_4 ((rd_T41 l0_1 x5_2).f4).length c288_4) ∧ w'.cell? ⟨(ad288.add ((x5_2).toNat * 6)).block, (ad288.add ((x5_2).toNat * 6)).off + 5, none⟩ = some (.slice A288_5 ((rd_T41 l0_1 x5_2).f5).length c288_5) ∧ w'.cell? (ad289.add ((x5_2).toNat * 6)) = some (.int .i64 ((rd_T41 l1_1 x5_2).f0)) ∧ w'.cell? ⟨(ad289.add ((x5_2).toNat * 6)).block, (ad289.add ((x5_2).toNat * 6)).off + 1, none⟩ = some (.int .i64 ((rd_T41 l1_1 x5_2).f1)) ∧ w'.cell? ⟨(ad289.add ((x5_2).toNat * 6)).block, (ad289.add ((x5_2).toNat * 6)).off + 2, none⟩ = some (.string ((rd_T41 l1_1 x5_2).f2)) ∧ w'.cell? ⟨(ad289.add ((x5_2).toNat * 6)).block, (ad289.add ((x5_2).toNat * 6)).off + 3, none⟩ = some (.slice A289_3 ((rd_T41 l1_1 x5_2).f3).length c289_3) ∧ w'.cell? ⟨(ad289.add ((x5_2).toNat * 6)).block, (ad289.add ((x5_2).toNat * 6)).off + 4, none⟩ = some (.slice A289_4 ((rd_T41 l1_1 x5_2).f4).length c289_4) ∧ w'.cell? ⟨(ad289.add ((x5_2).toNat * 6)).block, (ad289.add ((x5_2).toNat * 6)).off + 5, none⟩ = some (.slice A289_5 ((rd_T41 l1_1 x5_2).f5).length c289_5)) ∧ (w'.heap[gb286]? = some (.cells #[.string a0_0, .slice (some ad288) l0_1.length c0_1] 24 (0, 0))) ∧ (w'.heap[gb287]? = some (.cells #[.string a1_0, .slice (some ad289) l1_1.length c1_1] 24 (0, 0))) ∧ (w'.heap[s_.1]? = some (.cells #[.int .i64 0, .int .i64 0, .string (⟨#[]⟩ : ByteArray), .slice none 0 0, .slice none 0 0, .slice none 0 0] 41 (0, 0))) ∧ (w'.heap[s_.2]? = some (.cells #[.int .i64 0, .int .i64 0, .string (⟨#[]⟩ : ByteArray), .slice none 0 0, .slice none 0 0, .slice none 0 0] 41 (0, 0))) ∧ (w.heap.size ≤ s_.1) ∧ (w.heap.size ≤ s_.1) ∧ (gb286 ≠ s_.1) ∧ (s_.1 ≠ gb286) ∧ (gb287 ≠ s_.1) ∧ (s_.1 ≠ gb287) ∧ (s_.2 ≠ s_.1) ∧ (s_.1 ≠ s_.2) ∧ (w.heap.size ≤ s_.2) ∧ (w.heap.size ≤ s_.2) ∧ (gb286 ≠ s_.2) ∧ (s_.2 ≠ gb286) ∧ (gb287 ≠ s_.2) ∧ (s_.2 ≠ gb287) ∧ (Below w.heap.size w w')) ?_ ?_
        rotate_left
        ·intro hCont
         refine two_ (i := 10) (j := 11) (Ni := some 6) (Nj := some 7) #[true, true, true, true, true, true, true, true, true, true, true, false, false, false] #[true, true, true, true, true, true, true, true, true, true, false, true, false, false] rfl rfl rfl rfl (two_of HT_.out sq1) sq0 sq0 (fun K hK => ?_) (fun K hK => ?_)
         ·skip
          refine box_step ?hg (N := 6) ?hd (cs := #[.int .i64 0, .int .i64 0, .string (⟨#[]⟩ : ByteArray), .slice none 0 0, .slice none 0 0, .slice none 0 0]) (t := 41) ?hr ?_; (case hd => rfl); (case hg => rfl); (case hr => first | (go_simp; done) | (go_simp; rfl))
          intro gb290 hg w29 hbox hb
          have n0_ := Aside0.mk (blk_below (g := gb286) (o := .cells #[.string a0_0, .slice (some ad288) l0_1.length c0_1] 24 (0, 0)) sq49 hb)
          have n1_ := Aside0.mk (blk_below (g := gb287) (o := .cells #[.string a1_0, .slice (some ad289) l1_1.length c1_1] 24 (0, 0)) sq50 hb)
          have n2_ := Aside0.mk (below_step sq78 hb)
          have n3_ := Aside0.mk (hbox)
          have n4_ := Aside0.mk ((by rw [hg]; exact (below_size sq78) : w.heap.size ≤ gb290))
          have n5_ := Aside0.mk ((by rw [hg]; exact (below_size sq78) : w.heap.size ≤ gb290))
          have n6_ := Aside0.mk ((by rw [hg]; exact Nat.ne_of_lt (blk_lt (g := gb286) (o := .cells #[.string a0_0, .slice (some ad288) l0_1.length c0_1] 24 (0, 0)) sq49) : gb286 ≠ gb290))
          have n7_ := Aside0.mk ((by rw [hg]; exact Nat.ne_of_gt (blk_lt (g := gb286) (o := .cells #[.string a0_0, .slice (some ad288) l0_1.length c0_1] 24 (0, 0)) sq49) : gb290 ≠ gb286))
          have n8_ := Aside0.mk ((by rw [hg]; exact Nat.ne_of_lt (blk_lt (g := gb287) (o := .cells #[.string a1_0, .slice (some ad289) l1_1.length c1_1] 24 (0, 0)) sq50) : gb287 ≠ gb290))
          have n9_ := Aside0.mk ((by rw [hg]; exact Nat.ne_of_gt (blk_lt (g := gb287) (o := .cells #[.string a1_0, .slice (some ad289) l1_1.length c1_1] 24 (0, 0)) sq50) : gb290 ≠ gb287))
          clear BK286; clear BK287; clear HB
          have BK286 := n0_
          have BK287 := n1_
          have HB := n2_
          have BK290 := n3_
          have GW290 := n4_
          have GE290 := n5_
          have NB286_290 := n6_
          have NB290_286 := n7_
          have NB287_290 := n8_
          have NB290_287 := n9_
          clear n0_ n1_ n2_ n3_ n4_ n5_ n6_ n7_ n8_ n9_
          clear hb hbox hg
          refine hK.out _ _ ⟨(blk_cell BK286.out 0).trans rfl, (blk_cell BK286.out 1).trans rfl, (blk_cell BK287.out 0).trans rfl, (blk_cell BK287.out 1).trans rfl, ((HB.out.cell (World.block_lt_of_cell? w _ hw288_0)).trans hw288_0), ((HB.out.cell (World.block_lt_of_cell? w _ hw288_1)).trans hw288_1), ((HB.out.cell (World.block_lt_of_cell? w _ hw288_2)).trans hw288_2), ((HB.out.cell (World.block_lt_of_cell? w _ hw288_3)).trans hw288_3), ((HB.out.cell (World.block_lt_of_cell? w _ hw288_4)).trans hw288_4), ((HB.out.cell (World.block_lt_of_cell? w _ hw288_5)).trans hw288_5), ((HB.out.cell (World.block_lt_of_cell? w _ hw289_0)).trans hw289_0), ((HB.out.cell (World.block_lt_of_cell? w _ hw289_1)).trans hw289_1), ((HB.out.cell (World.block_lt_of_cell? w _ hw289_2)).trans hw289_2), ((HB.out.cell (World.block_lt_of_cell? w _ hw289_3)).trans hw289_3), ((HB.out.cell (World.block_lt_of_cell? w _ hw289_4)).trans hw289_4), ((HB.out.cell (World.block_lt_of_cell? w _ hw289_5)).trans hw289_5)⟩ (fun hHeld => ?_)
          clear hK K
          refine norm_ (a' := ?_) ?_ ?_
          rotate_left
          ·show Act.put _ (some 6) _ = _
           simp only [Act.put, List.setIfInBounds_toArray, List.set_cons_zero, List.set_cons_succ, i64_w, i32_w]
           rfl
          refine one_ (i := 11) (N := some 7) #[true, true, true, true, true, true, true, true, true, true, true, true, false, false] rfl rfl (one_of HT_.out sq1) sq0 (fun K hK => ?_)
          refine box_step ?hg (N := 7) ?hd (cs := #[.int .i64 0, .int .i64 0, .string (⟨#[]⟩ : ByteArray), .slice none 0 0, .slice none 0 0, .slice none 0 0]) (t := 41) ?hr ?_; (case hd => rfl); (case hg => rfl); (case hr => first | (go_simp; done) | (go_simp; rfl))
          intro gb291 hg w30 hbox hb
          have n0_ := Aside0.mk (blk_below (g := gb286) (o := .cells #[.string a0_0, .slice (some ad288) l0_1.length c0_1] 24 (0, 0)) sq49 hb)
          have n1_ := Aside0.mk (blk_below (g := gb287) (o := .cells #[.string a1_0, .slice (some ad289) l1_1.length c1_1] 24 (0, 0)) sq50 hb)
          have n2_ := Aside0.mk (blk_below (g := gb290) (o := .cells #[.int .i64 0, .int .i64 0, .string (⟨#[]⟩ : ByteArray), .slice none 0 0, .slice none 0 0, .slice none 0 0] 41 (0, 0)) sq51 hb)
          have n3_ := Aside0.mk (below_step sq82 hb)
          have n4_ := Aside0.mk (hbox)
          have n5_ := Aside0.mk ((by rw [hg]; exact (below_size sq82) : w.heap.size ≤ gb291))
          have n6_ := Aside0.mk ((by rw [hg]; exact (below_size sq82) : w.heap.size ≤ gb291))
          have n7_ := Aside0.mk ((by rw [hg]; exact Nat.ne_of_lt (blk_lt (g := gb286) (o := .cells #[.string a0_0, .slice (some ad288) l0_1.length c0_1] 24 (0, 0)) sq49) : gb286 ≠ gb291))
          have n8_ := Aside0.mk ((by rw [hg]; exact Nat.ne_of_gt (blk_lt (g := gb286) (o := .cells #[.string a0_0, .slice (some ad288) l0_1.length c0_1] 24 (0, 0)) sq49) : gb291 ≠ gb286))
          have n9_ := Aside0.mk ((by rw [hg]; exact Nat.ne_of_lt (blk_lt (g := gb287) (o := .cells #[.string a1_0, .slice (some ad289) l1_1.length c1_1] 24 (0, 0)) sq50) : gb287 ≠ gb291))
          have n10_ := Aside0.mk ((by rw [hg]; exact Nat.ne_of_gt (blk_lt (g := gb287) (o := .cells #[.string a1_0, .slice (some ad289) l1_1.length c1_1] 24 (0, 0)) sq50) : gb291 ≠ gb287))
          have n11_ := Aside0.mk ((by rw [hg]; exact Nat.ne_of_lt (blk_lt (g := gb290) (o := .cells #[.int .i64 0, .int .i64 0, .string (⟨#[]⟩ : ByteArray), .slice none 0 0, .slice none 0 0, .slice none 0 0] 41 (0, 0)) sq51) : gb290 ≠ gb291))
          have n12_ := Aside0.mk ((by rw [hg]; exact Nat.ne_of_gt (blk_lt (g := gb290) (o := .cells #[.int .i64 0, .int .i64 0, .string (⟨#[]⟩ : ByteArray), .slice none 0 0, .slice none 0 0, .slice none 0 0] 41 (0, 0)) sq51) : gb291 ≠ gb290))
          clear BK286; clear BK287; clear BK290; clear HB
          have BK286 := n0_
          have BK287 := n1_
          have BK290 := n2_
          have HB := n3_
          have BK291 := n4_
          have GW291 := n5_
          have GE291 := n6_
          have NB286_291 := n7_
          have NB291_286 := n8_
          have NB287_291 := n9_
          have NB291_287 := n10_
          have NB290_291 := n11_
          have NB291_290 := n12_
          clear n0_ n1_ n2_ n3_ n4_ n5_ n6_ n7_ n8_ n9_ n10_ n11_ n12_
          clear hb hbox hg
          refine hK.out _ _ ⟨(blk_cell BK286.out 0).trans rfl, (blk_cell BK286.out 1).trans rfl, (blk_cell BK287.out 0).trans rfl, (blk_cell BK287.out 1).trans rfl, ((HB.out.cell (World.block_lt_of_cell? w _ hw288_0)).trans hw288_0), ((HB.out.cell (World.block_lt_of_cell? w _ hw288_1)).trans hw288_1), ((HB.out.cell (World.block_lt_of_cell? w _ hw288_2)).trans hw288_2), ((HB.out.cell (World.block_lt_of_cell? w _ hw288_3)).trans hw288_3), ((HB.out.cell (World.block_lt_of_cell? w _ hw288_4)).trans hw288_4), ((HB.out.cell (World.block_lt_of_cell? w _ hw288_5)).trans hw288_5), ((HB.out.cell (World.block_lt_of_cell? w _ hw289_0)).trans hw289_0), ((HB.out.cell (World.block_lt_of_cell? w _ hw289_1)).trans hw289_1), ((HB.out.cell (World.block_lt_of_cell? w _ hw289_2)).trans hw289_2), ((HB.out.cell (World.block_lt_of_cell? w _ hw289_3)).trans hw289_3), ((HB.out.cell (World.block_lt_of_cell? w _ hw289_4)).trans hw289_4), ((HB.out.cell (World.block_lt_of_cell? w _ hw289_5)).trans hw289_5)⟩ (fun hHeld => ?_)
          clear hK K
          refine norm_ (a' := ?_) ?_ ?_
          rotate_left
          ·show Act.put _ (some 7) _ = _
           simp only [Act.put, List.setIfInBounds_toArray, List.set_cons_zero, List.set_cons_succ, i64_w, i32_w]
           rfl
          exact norm_ (by simp only [putAll, Act.put, List.setIfInBounds_toArray, List.set_cons_zero, List.set_cons_succ]) (hCont (gb290, gb291) _ ⟨hHeld, sq49, sq50, sq51, sq52, GW290.out, GE290.out, NB286_290.out, NB290_286.out, NB287_290.out, NB290_287.out, NB291_290.out, NB290_291.out, GW291.out, GE291.out, NB286_291.out, NB291_286.out, NB287_291.out, NB291_287.out, sq85⟩)
         skip
         refine box_step ?hg (N := 7) ?hd (cs := #[.int .i64 0, .int .i64 0, .string (⟨#[]⟩ : ByteArray), .slice none 0 0, .slice none 0 0, .slice none 0 0]) (t := 41) ?hr ?_; (case hd => rfl); (case hg => rfl); (case hr => first | (go_simp; done) | (go_simp; rfl))
         intro gb291 hg w29 hbox hb
         have n0_ := Aside0.mk (blk_below (g := gb286) (o := .cells #[.string a0_0, .slice (some ad288) l0_1.length c0_1] 24 (0, 0)) sq49 hb)
         have n1_ := Aside0.mk (blk_below (g := gb287) (o := .cells #[.string a1_0, .slice (some ad289) l1_1.length c1_1] 24 (0, 0)) sq50 hb)
         have n2_ := Aside0.mk (below_step sq78 hb)
         have n3_ := Aside0.mk (hbox)
         have n4_ := Aside0.mk ((by rw [hg]; exact (below_size sq78) : w.heap.size ≤ gb291))
         have n5_ := Aside0.mk ((by rw [hg]; exact (below_size sq78) : w.heap.size ≤ gb291))
         have n6_ := Aside0.mk ((by rw [hg]; exact Nat.ne_of_lt (blk_lt (g := gb286) (o := .cells #[.string a0_0, .slice (some ad288) l0_1.length c0_1] 24 (0, 0)) sq49) : gb286 ≠ gb291))
         have n7_ := Aside0.mk ((by rw [hg]; exact Nat.ne_of_gt (blk_lt (g := gb286) (o := .cells #[.string a0_0, .slice (some ad288) l0_1.length c0_1] 24 (0, 0)) sq49) : gb291 ≠ gb286))
         have n8_ := Aside0.mk ((by rw [hg]; exact Nat.ne_of_lt (blk_lt (g := gb287) (o := .cells #[.string a1_0, .slice (some ad289) l1_1.length c1_1] 24 (0, 0)) sq50) : gb287 ≠ gb291))
         have n9_ := Aside0.mk ((by rw [hg]; exact Nat.ne_of_gt (blk_lt (g := gb287) (o := .cells #[.string a1_0, .slice (some ad289) l1_1.length c1_1] 24 (0, 0)) sq50) : gb291 ≠ gb287))
         clear BK286; clear BK287; clear HB
         have BK286 := n0_
         have BK287 := n1_
         have HB := n2_
         have BK291 := n3_
         have GW291 := n4_
         have GE291 := n5_
         have NB286_291 := n6_
         have NB291_286 := n7_
         have NB287_291 := n8_
         have NB291_287 := n9_
         clear n0_ n1_ n2_ n3_ n4_ n5_ n6_ n7_ n8_ n9_
         clear hb hbox hg
         refine hK.out _ _ ⟨(blk_cell BK286.out 0).trans rfl, (blk_cell BK286.out 1).trans rfl, (blk_cell BK287.out 0).trans rfl, (blk_cell BK287.out 1).trans rfl, ((HB.out.cell (World.block_lt_of_cell? w _ hw288_0)).trans hw288_0), ((HB.out.cell (World.block_lt_of_cell? w _ hw288_1)).trans hw288_1), ((HB.out.cell (World.block_lt_of_cell? w _ hw288_2)).trans hw288_2), ((HB.out.cell (World.block_lt_of_cell? w _ hw288_3)).trans hw288_3), ((HB.out.cell (World.block_lt_of_cell? w _ hw288_4)).trans hw288_4), ((HB.out.cell (World.block_lt_of_cell? w _ hw288_5)).trans hw288_5), ((HB.out.cell (World.block_lt_of_cell? w _ hw289_0)).trans hw289_0), ((HB.out.cell (World.block_lt_of_cell? w _ hw289_1)).trans hw289_1), ((HB.out.cell (World.block_lt_of_cell? w _ hw289_2)).trans hw289_2), ((HB.out.cell (World.block_lt_of_cell? w _ hw289_3)).trans hw289_3), ((HB.out.cell (World.block_lt_of_cell? w _ hw289_4)).trans hw289_4), ((HB.out.cell (World.block_lt_of_cell? w _ hw289_5)).trans hw289_5)⟩ (fun hHeld => ?_)
         clear hK K
         refine norm_ (a' := ?_) ?_ ?_
         rotate_left
         ·show Act.put _ (some 7) _ = _
          simp only [Act.put, List.setIfInBounds_toArray, List.set_cons_zero, List.set_cons_succ, i64_w, i32_w]
          rfl
         refine one_ (i := 10) (N := some 6) #[true, true, true, true, true, true, true, true, true, true, true, true, false, false] rfl rfl (one_of HT_.out sq1) sq0 (fun K hK => ?_)
         refine box_step ?hg (N := 6) ?hd (cs := #[.int .i64 0, .int .i64 0, .string (⟨#[]⟩ : ByteArray), .slice none 0 0, .slice none 0 0, .slice none 0 0]) (t := 41) ?hr ?_; (case hd => rfl); (case hg => rfl); (case hr => first | (go_simp; done) | (go_simp; rfl))
         intro gb290 hg w30 hbox hb
         have n0_ := Aside0.mk (blk_below (g := gb286) (o := .cells #[.string a0_0, .slice (some ad288) l0_1.length c0_1] 24 (0, 0)) sq49 hb)
         have n1_ := Aside0.mk (blk_below (g := gb287) (o := .cells #[.string a1_0, .slice (some ad289) l1_1.length c1_1] 24 (0, 0)) sq50 hb)
         have n2_ := Aside0.mk (blk_below (g := gb291) (o := .cells #[.int .i64 0, .int .i64 0, .string (⟨#[]⟩ : ByteArray), .slice none 0 0, .slice none 0 0, .slice none 0 0] 41 (0, 0)) sq52 hb)
         have n3_ := Aside0.mk (below_step sq83 hb)
         have n4_ := Aside0.mk (hbox)
         have n5_ := Aside0.mk ((by rw [hg]; exact (below_size sq83) : w.heap.size ≤ gb290))
         have n6_ := Aside0.mk ((by rw [hg]; exact (below_size sq83) : w.heap.size ≤ gb290))
         have n7_ := Aside0.mk ((by rw [hg]; exact Nat.ne_of_lt (blk_lt (g := gb286) (o := .cells #[.string a0_0, .slice (some ad288) l0_1.length c0_1] 24 (0, 0)) sq49) : gb286 ≠ gb290))
         have n8_ := Aside0.mk ((by rw [hg]; exact Nat.ne_of_gt (blk_lt (g := gb286) (o := .cells #[.string a0_0, .slice (some ad288) l0_1.length c0_1] 24 (0, 0)) sq49) : gb290 ≠ gb286))
         have n9_ := Aside0.mk ((by rw [hg]; exact Nat.ne_of_lt (blk_lt (g := gb287) (o := .cells #[.string a1_0, .slice (some ad289) l1_1.length c1_1] 24 (0, 0)) sq50) : gb287 ≠ gb290))
         have n10_ := Aside0.mk ((by rw [hg]; exact Nat.ne_of_gt (blk_lt (g := gb287) (o := .cells #[.string a1_0, .slice (some ad289) l1_1.length c1_1] 24 (0, 0)) sq50) : gb290 ≠ gb287))
         have n11_ := Aside0.mk ((by rw [hg]; exact Nat.ne_of_lt (blk_lt (g := gb291) (o := .cells #[.int .i64 0, .int .i64 0, .string (⟨#[]⟩ : ByteArray), .slice none 0 0, .slice none 0 0, .slice none 0 0] 41 (0, 0)) sq52) : gb291 ≠ gb290))
         have n12_ := Aside0.mk ((by rw [hg]; exact Nat.ne_of_gt (blk_lt (g := gb291) (o := .cells #[.int .i64 0, .int .i64 0, .string (⟨#[]⟩ : ByteArray), .slice none 0 0, .slice none 0 0, .slice none 0 0] 41 (0, 0)) sq52) : gb290 ≠ gb291))
         clear BK286; clear BK287; clear BK291; clear HB
         have BK286 := n0_
         have BK287 := n1_
         have BK291 := n2_
         have HB := n3_
         have BK290 := n4_
         have GW290 := n5_
         have GE290 := n6_
         have NB286_290 := n7_
         have NB290_286 := n8_
         have NB287_290 := n9_
         have NB290_287 := n10_
         have NB291_290 := n11_
         have NB290_291 := n12_
         clear n0_ n1_ n2_ n3_ n4_ n5_ n6_ n7_ n8_ n9_ n10_ n11_ n12_
         clear hb hbox hg
         refine hK.out _ _ ⟨(blk_cell BK286.out 0).trans rfl, (blk_cell BK286.out 1).trans rfl, (blk_cell BK287.out 0).trans rfl, (blk_cell BK287.out 1).trans rfl, ((HB.out.cell (World.block_lt_of_cell? w _ hw288_0)).trans hw288_0), ((HB.out.cell (World.block_lt_of_cell? w _ hw288_1)).trans hw288_1), ((HB.out.cell (World.block_lt_of_cell? w _ hw288_2)).trans hw288_2), ((HB.out.cell (World.block_lt_of_cell? w _ hw288_3)).trans hw288_3), ((HB.out.cell (World.block_lt_of_cell? w _ hw288_4)).trans hw288_4), ((HB.out.cell (World.block_lt_of_cell? w _ hw288_5)).trans hw288_5), ((HB.out.cell (World.block_lt_of_cell? w _ hw289_0)).trans hw289_0), ((HB.out.cell (World.block_lt_of_cell? w _ hw289_1)).trans hw289_1), ((HB.out.cell (World.block_lt_of_cell? w _ hw289_2)).trans hw289_2), ((HB.out.cell (World.block_lt_of_cell? w _ hw289_3)).trans hw289_3), ((HB.out.cell (World.block_lt_of_cell? w _ hw289_4)).trans hw289_4), ((HB.out.cell (World.block_lt_of_cell? w _ hw289_5)).trans hw289_5)⟩ (fun hHeld => ?_)
         clear hK K
         refine norm_ (a' := ?_) ?_ ?_
         rotate_left
         ·show Act.put _ (some 6) _ = _
          simp only [Act.put, List.setIfInBounds_toArray, List.set_cons_zero, List.set_cons_succ, i64_w, i32_w]
          rfl
         exact norm_ (by simp only [putAll, Act.put, List.setIfInBounds_toArray, List.set_cons_zero, List.set_cons_succ]) (hCont (gb290, gb291) _ ⟨hHeld, sq49, sq50, sq51, sq52, GW290.out, GE290.out, NB286_290.out, NB290_286.out, NB287_290.out, NB290_287.out, NB291_290.out, NB290_291.out, GW291.out, GE291.out, NB286_291.out, NB291_286.out, NB287_291.out, NB291_287.out, (by repeat (first | (with_reducible first | exact HB.out | apply below_alloc | apply pw_below_drewN | apply below_drew1 | refine below_set ?_ GE286.out | refine below_set ?_ GE287.out | refine below_set ?_ GE291.out | refine below_set ?_ GE290.out) | exact HB.out))⟩)
        rintro ⟨gb290, gb291⟩ w31 ⟨hS_, h0_, h1_, h2_, h3_, h4_, h5_, h6_, h7_, h8_, h9_, h10_, h11_, h12_, h13_, h14_, h15_, h16_, h17_, h18_⟩
        have n0_ : Aside0 (w31.heap[gb286]? = some (.cells #[.string a0_0, .slice (some ad288) l0_1.length c0_1] 24 (0, 0))) := ⟨h0_⟩
        have n1_ : Aside0 (w31.heap[gb287]? = some (.cells #[.string a1_0, .slice (some ad289) l1_1.length c1_1] 24 (0, 0))) := ⟨h1_⟩
        have n2_ : Aside0 (w31.heap[gb290]? = some (.cells #[.int .i64 0, .int .i64 0, .string (⟨#[]⟩ : ByteArray), .slice none 0 0, .slice none 0 0, .slice none 0 0] 41 (0, 0))) := ⟨h2_⟩
        have n3_ : Aside0 (w31.heap[gb291]? = some (.cells #[.int .i64 0, .int .i64 0, .string (⟨#[]⟩ : ByteArray), .slice none 0 0, .slice none 0 0, .slice none 0 0] 41 (0, 0))) := ⟨h3_⟩
        have n4_ : Aside0 (w.heap.size ≤ gb290) := ⟨h4_⟩
        have n5_ : Aside0 (w.heap.size ≤ gb290) := ⟨h5_⟩
        have n6_ : Aside0 (gb286 ≠ gb290) := ⟨h6_⟩
        have n7_ : Aside0 (gb290 ≠ gb286) := ⟨h7_⟩
        have n8_ : Aside0 (gb287 ≠ gb290) := ⟨h8_⟩
        have n9_ : Aside0 (gb290 ≠ gb287) := ⟨h9_⟩
        have n10_ : Aside0 (gb291 ≠ gb290) := ⟨h10_⟩
        have n11_ : Aside0 (gb290 ≠ gb291) := ⟨h11_⟩
        have n12_ : Aside0 (w.heap.size ≤ gb291) := ⟨h12_⟩
        have n13_ : Aside0 (w.heap.size ≤ gb291) := ⟨h13_⟩
        have n14_ : Aside0 (gb286 ≠ gb291) := ⟨h14_⟩
        have n15_ : Aside0 (gb291 ≠ gb286) := ⟨h15_⟩
        have n16_ : Aside0 (gb287 ≠ gb291) := ⟨h16_⟩
        have n17_ : Aside0 (gb291 ≠ gb287) := ⟨h17_⟩
        have n18_ : Aside0 (Below w.heap.size w w31) := ⟨h18_⟩
        clear BK286; clear BK287; clear HB
        clear h0_ h1_ h2_ h3_ h4_ h5_ h6_ h7_ h8_ h9_ h10_ h11_ h12_ h13_ h14_ h15_ h16_ h17_ h18_
        have BK286 := n0_
        have BK287 := n1_
        have BK290 := n2_
        have BK291 := n3_
        have GW290 := n4_
        have GE290 := n5_
        have NB286_290 := n6_
        have NB290_286 := n7_
        have NB287_290 := n8_
        have NB290_287 := n9_
        have NB291_290 := n10_
        have NB290_291 := n11_
        have GW291 := n12_
        have GE291 := n13_
        have NB286_291 := n14_
        have NB291_286 := n15_
        have NB287_291 := n16_
        have NB291_287 := n17_
        have HB := n18_
        clear n0_ n1_ n2_ n3_ n4_ n5_ n6_ n7_ n8_ n9_ n10_ n11_ n12_ n13_ n14_ n15_ n16_ n17_ n18_
        have hHeld : w31.cell? ⟨gb286, 0, none⟩ = some (.string a0_0) ∧ w31.cell? ⟨gb286, 1, none⟩ = some (.slice (some ad288) l0_1.length c0_1) ∧ w31.cell? ⟨gb287, 0, none⟩ = some (.string a1_0) ∧ w31.cell? ⟨gb287, 1, none⟩ = some (.slice (some ad289) l1_1.length c1_1) ∧ w31.cell? (ad288.add ((x5_2).toNat * 6)) = some (.int .i64 ((rd_T41 l0_1 x5_2).f0)) ∧ w31.cell? ⟨(ad288.add ((x5_2).toNat * 6)).block, (ad288.add ((x5_2).toNat * 6)).off + 1, none⟩ = some (.int .i64 ((rd_T41 l0_1 x5_2).f1)) ∧ w31.cell? ⟨(ad288.add ((x5_2).toNat * 6)).block, (ad288.add ((x5_2).toNat * 6)).off + 2, none⟩ = some (.string ((rd_T41 l0_1 x5_2).f2)) ∧ w31.cell? ⟨(ad288.add ((x5_2).toNat * 6)).block, (ad288.add ((x5_2).toNat * 6)).off + 3, none⟩ = some (.slice A288_3 ((rd_T41 l0_1 x5_2).f3).length c288_3) ∧ w31.cell? ⟨(ad288.add ((x5_2).toNat * 6)).block, (ad288.add ((x5_2).toNat * 6)).off + 4, none⟩ = some (.slice A288_4 ((rd_T41 l0_1 x5_2).f4).length c288_4) ∧ w31.cell? ⟨(ad288.add ((x5_2).toNat * 6)).block, (ad288.add ((x5_2).toNat * 6)).off + 5, none⟩ = some (.slice A288_5 ((rd_T41 l0_1 x5_2).f5).length c288_5) ∧ w31.cell? (ad289.add ((x5_2).toNat * 6)) = some (.int .i64 ((rd_T41 l1_1 x5_2).f0)) ∧ w31.cell? ⟨(ad289.add ((x5_2).toNat * 6)).block, (ad289.add ((x5_2).toNat * 6)).off + 1, none⟩ = some (.int .i64 ((rd_T41 l1_1 x5_2).f1)) ∧ w31.cell? ⟨(ad289.add ((x5_2).toNat * 6)).block, (ad289.add ((x5_2).toNat * 6)).off + 2, none⟩ = some (.string ((rd_T41 l1_1 x5_2).f2)) ∧ w31.cell? ⟨(ad289.add ((x5_2).toNat * 6)).block, (ad289.add ((x5_2).toNat * 6)).off + 3, none⟩ = some (.slice A289_3 ((rd_T41 l1_1 x5_2).f3).length c289_3) ∧ w31.cell? ⟨(ad289.add ((x5_2).toNat * 6)).block, (ad289.add ((x5_2).toNat * 6)).off + 4, none⟩ = some (.slice A289_4 ((rd_T41 l1_1 x5_2).f4).length c289_4) ∧ w31.cell? ⟨(ad289.add ((x5_2).toNat * 6)).block, (ad289.add ((x5_2).toNat * 6)).off + 5, none⟩ = some (.slice A289_5 ((rd_T41 l1_1 x5_2).f5).length c289_5) := hS_
        refine norm_ (a' := ?_) ?_ ?_
        rotate_left
        ·simp only [putAll, Act.put, List.setIfInBounds_toArray, List.set_cons_zero, List.set_cons_succ]
         rfl
        refine one_ (i := 12) (N := none) #[true, true, true, true, true, true, true, true, true, true, true, true, true, false] rfl rfl (one_of HT_.out sq1) sq0 (fun K hK => ?_)
        have hs32 : w31.cell? ⟨gb290, 0, none⟩ = some (.int .i64 0) := (blk_cell BK290.out 0).trans rfl
        have hfs32 := blk_frozen BK290.out 0
        have hns32_0 := NB286_290.out
        have hns32_1 := NB287_290.out
        have hns32_3 := NB291_290.out
        have hms32_0 := NB290_286.out
        have hms32_1 := NB290_287.out
        have hms32_3 := NB290_291.out
        have hs33 : w31.cell? ⟨gb290, 1, none⟩ = some (.int .i64 0) := (blk_cell BK290.out 1).trans rfl
        have hfs33 := blk_frozen BK290.out 1
        have hns33_0 := NB286_290.out
        have hns33_1 := NB287_290.out
        have hns33_3 := NB291_290.out
        have hms33_0 := NB290_286.out
        have hms33_1 := NB290_287.out
        have hms33_3 := NB290_291.out
        have hs34 : w31.cell? ⟨gb290, 2, none⟩ = some (.string (⟨#[]⟩ : ByteArray)) := (blk_cell BK290.out 2).trans rfl
        have hfs34 := blk_frozen BK290.out 2
        have hns34_0 := NB286_290.out
        have hns34_1 := NB287_290.out
        have hns34_3 := NB291_290.out
        have hms34_0 := NB290_286.out
        have hms34_1 := NB290_287.out
        have hms34_3 := NB290_291.out
        have hs35 : w31.cell? ⟨gb290, 3, none⟩ = some (.slice none 0 0) := (blk_cell BK290.out 3).trans rfl
        have hfs35 := blk_frozen BK290.out 3
        have hns35_0 := NB286_290.out
        have hns35_1 := NB287_290.out
        have hns35_3 := NB291_290.out
        have hms35_0 := NB290_286.out
        have hms35_1 := NB290_287.out
        have hms35_3 := NB290_291.out
        have hs36 : w31.cell? ⟨gb290, 4, none⟩ = some (.slice none 0 0) := (blk_cell BK290.out 4).trans rfl
        have hfs36 := blk_frozen BK290.out 4
        have hns36_0 := NB286_290.out
        have hns36_1 := NB287_290.out
        have hns36_3 := NB291_290.out
        have hms36_0 := NB290_286.out
        have hms36_1 := NB290_287.out
        have hms36_3 := NB290_291.out
        have hs37 : w31.cell? ⟨gb290, 5, none⟩ = some (.slice none 0 0) := (blk_cell BK290.out 5).trans rfl
        have hfs37 := blk_frozen BK290.out 5
        have hns37_0 := NB286_290.out
        have hns37_1 := NB287_290.out
        have hns37_3 := NB291_290.out
        have hms37_0 := NB290_286.out
        have hms37_1 := NB290_287.out
        have hms37_3 := NB290_291.out
        refine skip_ (w1 := ?_) (by rfl) rfl ?_ ?_
        rotate_left
        ·go_simp
         rfl
        refine hK.out _ _ ⟨((cell_far (p := ⟨gb290, _, none⟩) NB286_290.out _).trans (((cell_far (p := ⟨gb290, _, none⟩) NB286_290.out _).trans (((cell_far (p := ⟨gb290, _, none⟩) NB286_290.out _).trans (((cell_far (p := ⟨gb290, _, none⟩) NB286_290.out _).trans (((cell_far (p := ⟨gb290, _, none⟩) NB286_290.out _).trans (((cell_far (p := ⟨gb290, _, none⟩) NB286_290.out _).trans (hHeld.1)))))))))))), ((cell_far (p := ⟨gb290, _, none⟩) NB286_290.out _).trans (((cell_far (p := ⟨gb290, _, none⟩) NB286_290.out _).trans (((cell_far (p := ⟨gb290, _, none⟩) NB286_290.out _).trans (((cell_far (p := ⟨gb290, _, none⟩) NB286_290.out _).trans (((cell_far (p := ⟨gb290, _, none⟩) NB286_290.out _).trans (((cell_far (p := ⟨gb290, _, none⟩) NB286_290.out _).trans (hHeld.2.1)))))))))))), ((cell_far (p := ⟨gb290, _, none⟩) NB287_290.out _).trans (((cell_far (p := ⟨gb290, _, none⟩) NB287_290.out _).trans (((cell_far (p := ⟨gb290, _, none⟩) NB287_290.out _).trans (((cell_far (p := ⟨gb290, _, none⟩) NB287_290.out _).trans (((cell_far (p := ⟨gb290, _, none⟩) NB287_290.out _).trans (((cell_far (p := ⟨gb290, _, none⟩) NB287_290.out _).trans (hHeld.2.2.1)))))))))))), ((cell_far (p := ⟨gb290, _, none⟩) NB287_290.out _).trans (((cell_far (p := ⟨gb290, _, none⟩) NB287_290.out _).trans (((cell_far (p := ⟨gb290, _, none⟩) NB287_290.out _).trans (((cell_far (p := ⟨gb290, _, none⟩) NB287_290.out _).trans (((cell_far (p := ⟨gb290, _, none⟩) NB287_290.out _).trans (((cell_far (p := ⟨gb290, _, none⟩) NB287_290.out _).trans (hHeld.2.2.2.1)))))))))))), ((cell_far (p := ⟨gb290, _, none⟩) sq112 _).trans (((cell_far (p := ⟨gb290, _, none⟩) sq112 _).trans (((cell_far (p := ⟨gb290, _, none⟩) sq112 _).trans (((cell_far (p := ⟨gb290, _, none⟩) sq112 _).trans (((cell_far (p := ⟨gb290, _, none⟩) sq112 _).trans (((cell_far (p := ⟨gb290, _, none⟩) sq112 _).trans (hHeld.2.2.2.2.1)))))))))))), ((cell_far (p := ⟨gb290, _, none⟩) sq113 _).trans (((cell_far (p := ⟨gb290, _, none⟩) sq113 _).trans (((cell_far (p := ⟨gb290, _, none⟩) sq113 _).trans (((cell_far (p := ⟨gb290, _, none⟩) sq113 _).trans (((cell_far (p := ⟨gb290, _, none⟩) sq113 _).trans (((cell_far (p := ⟨gb290, _, none⟩) sq113 _).trans (hHeld.2.2.2.2.2.1)))))))))))), ((cell_far (p := ⟨gb290, _, none⟩) sq114 _).trans (((cell_far (p := ⟨gb290, _, none⟩) sq114 _).trans (((cell_far (p := ⟨gb290, _, none⟩) sq114 _).trans (((cell_far (p := ⟨gb290, _, none⟩) sq114 _).trans (((cell_far (p := ⟨gb290, _, none⟩) sq114 _).trans (((cell_far (p := ⟨gb290, _, none⟩) sq114 _).trans (hHeld.2.2.2.2.2.2.1)))))))))))), ((cell_far (p := ⟨gb290, _, none⟩) sq115 _).trans (((cell_far (p := ⟨gb290, _, none⟩) sq115 _).trans (((cell_far (p := ⟨gb290, _, none⟩) sq115 _).trans (((cell_far (p := ⟨gb290, _, none⟩) sq115 _).trans (((cell_far (p := ⟨gb290, _, none⟩) sq115 _).trans (((cell_far (p := ⟨gb290, _, none⟩) sq115 _).trans (hHeld.2.2.2.2.2.2.2.1)))))))))))), ((cell_far (p := ⟨gb290, _, none⟩) sq116 _).trans (((cell_far (p := ⟨gb290, _, none⟩) sq116 _).trans (((cell_far (p := ⟨gb290, _, none⟩) sq116 _).trans (((cell_far (p := ⟨gb290, _, none⟩) sq116 _).trans (((cell_far (p := ⟨gb290, _, none⟩) sq116 _).trans (((cell_far (p := ⟨gb290, _, none⟩) sq116 _).trans (hHeld.2.2.2.2.2.2.2.2.1)))))))))))), ((cell_far (p := ⟨gb290, _, none⟩) sq117 _).trans (((cell_far (p := ⟨gb290, _, none⟩) sq117 _).trans (((cell_far (p := ⟨gb290, _, none⟩) sq117 _).trans (((cell_far (p := ⟨gb290, _, none⟩) sq117 _).trans (((cell_far (p := ⟨gb290, _, none⟩) sq117 _).trans (((cell_far (p := ⟨gb290, _, none⟩) sq117 _).trans (hHeld.2.2.2.2.2.2.2.2.2.1)))))))))))), ((cell_far (p := ⟨gb290, _, none⟩) sq118 _).trans (((cell_far (p := ⟨gb290, _, none⟩) sq118 _).trans (((cell_far (p := ⟨gb290, _, none⟩) sq118 _).trans (((cell_far (p := ⟨gb290, _, none⟩) sq118 _).trans (((cell_far (p := ⟨gb290, _, none⟩) sq118 _).trans (((cell_far (p := ⟨gb290, _, none⟩) sq118 _).trans (hHeld.2.2.2.2.2.2.2.2.2.2.1)))))))))))), ((cell_far (p := ⟨gb290, _, none⟩) sq119 _).trans (((cell_far (p := ⟨gb290, _, none⟩) sq119 _).trans (((cell_far (p := ⟨gb290, _, none⟩) sq119 _).trans (((cell_far (p := ⟨gb290, _, none⟩) sq119 _).trans (((cell_far (p := ⟨gb290, _, none⟩) sq119 _).trans (((cell_far (p := ⟨gb290, _, none⟩) sq119 _).trans (hHeld.2.2.2.2.2.2.2.2.2.2.2.1)))))))))))), ((cell_far (p := ⟨gb290, _, none⟩) sq120 _).trans (((cell_far (p := ⟨gb290, _, none⟩) sq120 _).trans (((cell_far (p := ⟨gb290, _, none⟩) sq120 _).trans (((cell_far (p := ⟨gb290, _, none⟩) sq120 _).trans (((cell_far (p := ⟨gb290, _, none⟩) sq120 _).trans (((cell_far (p := ⟨gb290, _, none⟩) sq120 _).trans (hHeld.2.2.2.2.2.2.2.2.2.2.2.2.1)))))))))))), ((cell_far (p := ⟨gb290, _, none⟩) sq121 _).trans (((cell_far (p := ⟨gb290, _, none⟩) sq121 _).trans (((cell_far (p := ⟨gb290, _, none⟩) sq121 _).trans (((cell_far (p := ⟨gb290, _, none⟩) sq121 _).trans (((cell_far (p := ⟨gb290, _, none⟩) sq121 _).trans (((cell_far (p := ⟨gb290, _, none⟩) sq121 _).trans (hHeld.2.2.2.2.2.2.2.2.2.2.2.2.2.1)))))))))))), ((cell_far (p := ⟨gb290, _, none⟩) sq122 _).trans (((cell_far (p := ⟨gb290, _, none⟩) sq122 _).trans (((cell_far (p := ⟨gb290, _, none⟩) sq122 _).trans (((cell_far (p := ⟨gb290, _, none⟩) sq122 _).trans (((cell_far (p := ⟨gb290, _, none⟩) sq122 _).trans (((cell_far (p := ⟨gb290, _, none⟩) sq122 _).trans (hHeld.2.2.2.2.2.2.2.2.2.2.2.2.2.2.1)))))))))))), ((cell_far (p := ⟨gb290, _, none⟩) sq123 _).trans (((cell_far (p := ⟨gb290, _, none⟩) sq123 _).trans (((cell_far (p := ⟨gb290, _, none⟩) sq123 _).trans (((cell_far (p := ⟨gb290, _, none⟩) sq123 _).trans (((cell_far (p := ⟨gb290, _, none⟩) sq123 _).trans (((cell_far (p := ⟨gb290, _, none⟩) sq123 _).trans (hHeld.2.2.2.2.2.2.2.2.2.2.2.2.2.2.2))))))))))))⟩ (fun hHeld => ?_)
        clear hK K
        refine one_ (i := 13) (N := none) #[true, true, true, true, true, true, true, true, true, true, true, true, true, true] rfl rfl (one_of HT_.out sq1) sq0 (fun K hK => ?_)
        have hs38 : w31.cell? ⟨gb291, 0, none⟩ = some (.int .i64 0) := (blk_cell BK291.out 0).trans rfl
        have hfs38 := blk_frozen BK291.out 0
        have hns38_0 := NB286_291.out
        have hns38_1 := NB287_291.out
        have hns38_2 := NB290_291.out
        have hms38_0 := NB291_286.out
        have hms38_1 := NB291_287.out
        have hms38_2 := NB291_290.out
        have hs39 : w31.cell? ⟨gb291, 1, none⟩ = some (.int .i64 0) := (blk_cell BK291.out 1).trans rfl
        have hfs39 := blk_frozen BK291.out 1
        have hns39_0 := NB286_291.out
        have hns39_1 := NB287_291.out
        have hns39_2 := NB290_291.out
        have hms39_0 := NB291_286.out
        have hms39_1 := NB291_287.out
        have hms39_2 := NB291_290.out
        have hs40 : w31.cell? ⟨gb291, 2, none⟩ = some (.string (⟨#[]⟩ : ByteArray)) := (blk_cell BK291.out 2).trans rfl
        have hfs40 := blk_frozen BK291.out 2
        have hns40_0 := NB286_291.out
        have hns40_1 := NB287_291.out
        have hns40_2 := NB290_291.out
        have hms40_0 := NB291_286.out
        have hms40_1 := NB291_287.out
        have hms40_2 := NB291_290.out
        have hs41 : w31.cell? ⟨gb291, 3, none⟩ = some (.slice none 0 0) := (blk_cell BK291.out 3).trans rfl
        have hfs41 := blk_frozen BK291.out 3
        have hns41_0 := NB286_291.out
        have hns41_1 := NB287_291.out
        have hns41_2 := NB290_291.out
        have hms41_0 := NB291_286.out
        have hms41_1 := NB291_287.out
        have hms41_2 := NB291_290.out
        have hs42 : w31.cell? ⟨gb291, 4, none⟩ = some (.slice none 0 0) := (blk_cell BK291.out 4).trans rfl
        have hfs42 := blk_frozen BK291.out 4
        have hns42_0 := NB286_291.out
        have hns42_1 := NB287_291.out
        have hns42_2 := NB290_291.out
        have hms42_0 := NB291_286.out
        have hms42_1 := NB291_287.out
        have hms42_2 := NB291_290.out
        have hs43 : w31.cell? ⟨gb291, 5, none⟩ = some (.slice none 0 0) := (blk_cell BK291.out 5).trans rfl
        have hfs43 := blk_frozen BK291.out 5
        have hns43_0 := NB286_291.out
        have hns43_1 := NB287_291.out
        have hns43_2 := NB290_291.out
        have hms43_0 := NB291_286.out
        have hms43_1 := NB291_287.out
        have hms43_2 := NB291_290.out
        refine skip_ (w1 := ?_) (by rfl) rfl ?_ ?_
        rotate_left
        ·go_simp
         rfl
        refine hK.out _ _ ⟨((cell_far (p := ⟨gb291, _, none⟩) NB286_291.out _).trans (((cell_far (p := ⟨gb291, _, none⟩) NB286_291.out _).trans (((cell_far (p := ⟨gb291, _, none⟩) NB286_291.out _).trans (((cell_far (p := ⟨gb291, _, none⟩) NB286_291.out _).trans (((cell_far (p := ⟨gb291, _, none⟩) NB286_291.out _).trans (((cell_far (p := ⟨gb291, _, none⟩) NB286_291.out _).trans (hHeld.1)))))))))))), ((cell_far (p := ⟨gb291, _, none⟩) NB286_291.out _).trans (((cell_far (p := ⟨gb291, _, none⟩) NB286_291.out _).trans (((cell_far (p := ⟨gb291, _, none⟩) NB286_291.out _).trans (((cell_far (p := ⟨gb291, _, none⟩) NB286_291.out _).trans (((cell_far (p := ⟨gb291, _, none⟩) NB286_291.out _).trans (((cell_far (p := ⟨gb291, _, none⟩) NB286_291.out _).trans (hHeld.2.1)))))))))))), ((cell_far (p := ⟨gb291, _, none⟩) NB287_291.out _).trans (((cell_far (p := ⟨gb291, _, none⟩) NB287_291.out _).trans (((cell_far (p := ⟨gb291, _, none⟩) NB287_291.out _).trans (((cell_far (p := ⟨gb291, _, none⟩) NB287_291.out _).trans (((cell_far (p := ⟨gb291, _, none⟩) NB287_291.out _).trans (((cell_far (p := ⟨gb291, _, none⟩) NB287_291.out _).trans (hHeld.2.2.1)))))))))))), ((cell_far (p := ⟨gb291, _, none⟩) NB287_291.out _).trans (((cell_far (p := ⟨gb291, _, none⟩) NB287_291.out _).trans (((cell_far (p := ⟨gb291, _, none⟩) NB287_291.out _).trans (((cell_far (p := ⟨gb291, _, none⟩) NB287_291.out _).trans (((cell_far (p := ⟨gb291, _, none⟩) NB287_291.out _).trans (((cell_far (p := ⟨gb291, _, none⟩) NB287_291.out _).trans (hHeld.2.2.2.1)))))))))))), ((cell_far (p := ⟨gb291, _, none⟩) sq124 _).trans (((cell_far (p := ⟨gb291, _, none⟩) sq124 _).trans (((cell_far (p := ⟨gb291, _, none⟩) sq124 _).trans (((cell_far (p := ⟨gb291, _, none⟩) sq124 _).trans (((cell_far (p := ⟨gb291, _, none⟩) sq124 _).trans (((cell_far (p := ⟨gb291, _, none⟩) sq124 _).trans (hHeld.2.2.2.2.1)))))))))))), ((cell_far (p := ⟨gb291, _, none⟩) sq125 _).trans (((cell_far (p := ⟨gb291, _, none⟩) sq125 _).trans (((cell_far (p := ⟨gb291, _, none⟩) sq125 _).trans (((cell_far (p := ⟨gb291, _, none⟩) sq125 _).trans (((cell_far (p := ⟨gb291, _, none⟩) sq125 _).trans (((cell_far (p := ⟨gb291, _, none⟩) sq125 _).trans (hHeld.2.2.2.2.2.1)))))))))))), ((cell_far (p := ⟨gb291, _, none⟩) sq126 _).trans (((cell_far (p := ⟨gb291, _, none⟩) sq126 _).trans (((cell_far (p := ⟨gb291, _, none⟩) sq126 _).trans (((cell_far (p := ⟨gb291, _, none⟩) sq126 _).trans (((cell_far (p := ⟨gb291, _, none⟩) sq126 _).trans (((cell_far (p := ⟨gb291, _, none⟩) sq126 _).trans (hHeld.2.2.2.2.2.2.1)))))))))))), ((cell_far (p := ⟨gb291, _, none⟩) sq127 _).trans (((cell_far (p := ⟨gb291, _, none⟩) sq127 _).trans (((cell_far (p := ⟨gb291, _, none⟩) sq127 _).trans (((cell_far (p := ⟨gb291, _, none⟩) sq127 _).trans (((cell_far (p := ⟨gb291, _, none⟩) sq127 _).trans (((cell_far (p := ⟨gb291, _, none⟩) sq127 _).trans (hHeld.2.2.2.2.2.2.2.1)))))))))))), ((cell_far (p := ⟨gb291, _, none⟩) sq128 _).trans (((cell_far (p := ⟨gb291, _, none⟩) sq128 _).trans (((cell_far (p := ⟨gb291, _, none⟩) sq128 _).trans (((cell_far (p := ⟨gb291, _, none⟩) sq128 _).trans (((cell_far (p := ⟨gb291, _, none⟩) sq128 _).trans (((cell_far (p := ⟨gb291, _, none⟩) sq128 _).trans (hHeld.2.2.2.2.2.2.2.2.1)))))))))))), ((cell_far (p := ⟨gb291, _, none⟩) sq129 _).trans (((cell_far (p := ⟨gb291, _, none⟩) sq129 _).trans (((cell_far (p := ⟨gb291, _, none⟩) sq129 _).trans (((cell_far (p := ⟨gb291, _, none⟩) sq129 _).trans (((cell_far (p := ⟨gb291, _, none⟩) sq129 _).trans (((cell_far (p := ⟨gb291, _, none⟩) sq129 _).trans (hHeld.2.2.2.2.2.2.2.2.2.1)))))))))))), ((cell_far (p := ⟨gb291, _, none⟩) sq130 _).trans (((cell_far (p := ⟨gb291, _, none⟩) sq130 _).trans (((cell_far (p := ⟨gb291, _, none⟩) sq130 _).trans (((cell_far (p := ⟨gb291, _, none⟩) sq130 _).trans (((cell_far (p := ⟨gb291, _, none⟩) sq130 _).trans (((cell_far (p := ⟨gb291, _, none⟩) sq130 _).trans (hHeld.2.2.2.2.2.2.2.2.2.2.1)))))))))))), ((cell_far (p := ⟨gb291, _, none⟩) sq131 _).trans (((cell_far (p := ⟨gb291, _, none⟩) sq131 _).trans (((cell_far (p := ⟨gb291, _, none⟩) sq131 _).trans (((cell_far (p := ⟨gb291, _, none⟩) sq131 _).trans (((cell_far (p := ⟨gb291, _, none⟩) sq131 _).trans (((cell_far (p := ⟨gb291, _, none⟩) sq131 _).trans (hHeld.2.2.2.2.2.2.2.2.2.2.2.1)))))))))))), ((cell_far (p := ⟨gb291, _, none⟩) sq132 _).trans (((cell_far (p := ⟨gb291, _, none⟩) sq132 _).trans (((cell_far (p := ⟨gb291, _, none⟩) sq132 _).trans (((cell_far (p := ⟨gb291, _, none⟩) sq132 _).trans (((cell_far (p := ⟨gb291, _, none⟩) sq132 _).trans (((cell_far (p := ⟨gb291, _, none⟩) sq132 _).trans (hHeld.2.2.2.2.2.2.2.2.2.2.2.2.1)))))))))))), ((cell_far (p := ⟨gb291, _, none⟩) sq133 _).trans (((cell_far (p := ⟨gb291, _, none⟩) sq133 _).trans (((cell_far (p := ⟨gb291, _, none⟩) sq133 _).trans (((cell_far (p := ⟨gb291, _, none⟩) sq133 _).trans (((cell_far (p := ⟨gb291, _, none⟩) sq133 _).trans (((cell_far (p := ⟨gb291, _, none⟩) sq133 _).trans (hHeld.2.2.2.2.2.2.2.2.2.2.2.2.2.1)))))))))))), ((cell_far (p := ⟨gb291, _, none⟩) sq134 _).trans (((cell_far (p := ⟨gb291, _, none⟩) sq134 _).trans (((cell_far (p := ⟨gb291, _, none⟩) sq134 _).trans (((cell_far (p := ⟨gb291, _, none⟩) sq134 _).trans (((cell_far (p := ⟨gb291, _, none⟩) sq134 _).trans (((cell_far (p := ⟨gb291, _, none⟩) sq134 _).trans (hHeld.2.2.2.2.2.2.2.2.2.2.2.2.2.2.1)))))))))))), ((cell_far (p := ⟨gb291, _, none⟩) sq135 _).trans (((cell_far (p := ⟨gb291, _, none⟩) sq135 _).trans (((cell_far (p := ⟨gb291, _, none⟩) sq135 _).trans (((cell_far (p := ⟨gb291, _, none⟩) sq135 _).trans (((cell_far (p := ⟨gb291, _, none⟩) sq135 _).trans (((cell_far (p := ⟨gb291, _, none⟩) sq135 _).trans (hHeld.2.2.2.2.2.2.2.2.2.2.2.2.2.2.2))))))))))))⟩ (fun hHeld => ?_)
        clear hK K
        refine done_ (done_of HT_.out sq1) ?_
        have hnb44 := NB290_286.out
        have hnc44 := NB286_290.out
        have hnb45 := NB290_287.out
        have hnc45 := NB287_290.out
        have hnb46 := NB290_291.out
        have hnc46 := NB291_290.out
        have hcz47_0 : w31.cell? ⟨gb290, 0, none⟩ = some (.int .i64 0) := (blk_cell BK290.out 0).trans rfl
        have hcz47_1 : w31.cell? ⟨gb290, 1, none⟩ = some (.int .i64 0) := (blk_cell BK290.out 1).trans rfl
        have hcz47_2 : w31.cell? ⟨gb290, 2, none⟩ = some (.string (⟨#[]⟩ : ByteArray)) := (blk_cell BK290.out 2).trans rfl
        have hcz47_3 : w31.cell? ⟨gb290, 3, none⟩ = some (.slice none 0 0) := (blk_cell BK290.out 3).trans rfl
        have hcz47_4 : w31.cell? ⟨gb290, 4, none⟩ = some (.slice none 0 0) := (blk_cell BK290.out 4).trans rfl
        have hcz47_5 : w31.cell? ⟨gb290, 5, none⟩ = some (.slice none 0 0) := (blk_cell BK290.out 5).trans rfl
        have hfz47_0 := blk_frozen BK290.out 0
        have hfz47_1 := blk_frozen BK290.out 1
        have hfz47_2 := blk_frozen BK290.out 2
        have hfz47_3 := blk_frozen BK290.out 3
        have hfz47_4 := blk_frozen BK290.out 4
        have hfz47_5 := blk_frozen BK290.out 5
        have hnb48 := NB291_286.out
        have hnc48 := NB286_291.out
        have hnb49 := NB291_287.out
        have hnc49 := NB287_291.out
        have hcz50_0 : w31.cell? ⟨gb291, 0, none⟩ = some (.int .i64 0) := (blk_cell BK291.out 0).trans rfl
        have hcz50_1 : w31.cell? ⟨gb291, 1, none⟩ = some (.int .i64 0) := (blk_cell BK291.out 1).trans rfl
        have hcz50_2 : w31.cell? ⟨gb291, 2, none⟩ = some (.string (⟨#[]⟩ : ByteArray)) := (blk_cell BK291.out 2).trans rfl
        have hcz50_3 : w31.cell? ⟨gb291, 3, none⟩ = some (.slice none 0 0) := (blk_cell BK291.out 3).trans rfl
        have hcz50_4 : w31.cell? ⟨gb291, 4, none⟩ = some (.slice none 0 0) := (blk_cell BK291.out 4).trans rfl
        have hcz50_5 : w31.cell? ⟨gb291, 5, none⟩ = some (.slice none 0 0) := (blk_cell BK291.out 5).trans rfl
        have hfz50_0 := blk_frozen BK291.out 0
        have hfz50_1 := blk_frozen BK291.out 1
        have hfz50_2 := blk_frozen BK291.out 2
        have hfz50_3 := blk_frozen BK291.out 3
        have hfz50_4 := blk_frozen BK291.out 4
        have hfz50_5 := blk_frozen BK291.out 5
        have H := HX_.out
        clear HX_
        by_cases c17 : ((rd_T41 l0_1 x5_2).f0) = ((rd_T41 l1_1 x5_2).f0)
        ·rw [if_pos c17] at H
         have c17b0 : (((rd_T41 l0_1 x5_2).f0) == ((rd_T41 l1_1 x5_2).f0)) = true := beq_iff_eq.mpr c17
         have c17b1 : (((rd_T41 l0_1 x5_2).f0) != ((rd_T41 l1_1 x5_2).f0)) = false := bne_eq_false_iff_eq.mpr c17
         clear c17
         by_cases c18 : ((rd_T41 l0_1 x5_2).f1) = ((rd_T41 l1_1 x5_2).f1)
         ·rw [if_pos c18] at H
          have c18b0 : (((rd_T41 l0_1 x5_2).f1) == ((rd_T41 l1_1 x5_2).f1)) = true := beq_iff_eq.mpr c18
          have c18b1 : (((rd_T41 l0_1 x5_2).f1) != ((rd_T41 l1_1 x5_2).f1)) = false := bne_eq_false_iff_eq.mpr c18
          clear c18
          by_cases c19 : ((rd_T41 l0_1 x5_2).f2).toList = ((rd_T41 l1_1 x5_2).f2).toList
          ·rw [if_pos c19] at H
           have c19b0 : (((rd_T41 l0_1 x5_2).f2).toList == ((rd_T41 l1_1 x5_2).f2).toList) = true := beq_iff_eq.mpr c19
           have c19b1 : (((rd_T41 l0_1 x5_2).f2).toList != ((rd_T41 l1_1 x5_2).f2).toList) = false := bne_eq_false_iff_eq.mpr c19
           clear c19
           replace H := Option.bind_eq_some_iff.mp H
           obtain ⟨t292, A200, H⟩ := H
           replace H : (if t292 = true then ((tontinebook_SameFormula.f k2 ((rd_T41 l0_1 x5_2).f4) ((rd_T41 l1_1 x5_2).f4)).bind fun t293 => (if t293 = true then ((tontinebook_SameFormula.f k2 ((rd_T41 l0_1 x5_2).f5) ((rd_T41 l1_1 x5_2).f5)).bind fun t294 => (if t294 = true then (tontinebook_SameProduct.l0 k2 (wrap64 (x5_2 + 1)) a0_0 l0_1 a1_0 l1_1) else (some false))) else (some false))) else (some false)) = some r := H
           have A20 := Aside0.mk A200
           clear A200
           by_cases c21 : t292 = true
           ·subst c21
            replace H := (itT_ _ _).symm.trans H
            replace H := Option.bind_eq_some_iff.mp H
            obtain ⟨t293, A220, H⟩ := H
            replace H : (if t293 = true then ((tontinebook_SameFormula.f k2 ((rd_T41 l0_1 x5_2).f5) ((rd_T41 l1_1 x5_2).f5)).bind fun t294 => (if t294 = true then (tontinebook_SameProduct.l0 k2 (wrap64 (x5_2 + 1)) a0_0 l0_1 a1_0 l1_1) else (some false))) else (some false)) = some r := H
            have A22 := Aside0.mk A220
            clear A220
            by_cases c23 : t293 = true
            ·subst c23
             replace H := (itT_ _ _).symm.trans H
             replace H := Option.bind_eq_some_iff.mp H
             obtain ⟨t294, A240, H⟩ := H
             replace H : (if t294 = true then (tontinebook_SameProduct.l0 k2 (wrap64 (x5_2 + 1)) a0_0 l0_1 a1_0 l1_1) else (some false)) = some r := H
             have A24 := Aside0.mk A240
             clear A240
             by_cases c25 : t294 = true
             ·subst c25
              replace H := (itT_ _ _).symm.trans H
              have H' := Aside0.mk H
              clear H
              try go_wp2_with (first | (go_at_call 14; (with_reducible refine (tontinebook_SameFormula.calls k2 _ _ ((rd_T41 l0_1 x5_2).f3) _ _ ((rd_T41 l1_1 x5_2).f3) true _ ?side1 ?side2 ?side3 ?side4 A20.out).mono ?_); (case side1 => exact Kd.C_below HR288_3.out sq85); (case side2 => exact HC288_3.out); (case side3 => exact Kd.C_below HR289_3.out sq85); (case side4 => exact HC289_3.out); rintro e w' ⟨rfl, ⟨nd, rfl⟩⟩) | (go_at_call 14; (with_reducible refine (tontinebook_SameFormula.calls k2 _ _ ((rd_T41 l0_1 x5_2).f4) _ _ ((rd_T41 l1_1 x5_2).f4) true _ ?side1 ?side2 ?side3 ?side4 A22.out).mono ?_); (case side1 => exact Kd.C_below HR288_4.out sq85); (case side2 => exact HC288_4.out); (case side3 => exact Kd.C_below HR289_4.out sq85); (case side4 => exact HC289_4.out); rintro e w' ⟨rfl, ⟨nd, rfl⟩⟩) | (go_at_call 14; (with_reducible refine (tontinebook_SameFormula.calls k2 _ _ ((rd_T41 l0_1 x5_2).f5) _ _ ((rd_T41 l1_1 x5_2).f5) true _ ?side1 ?side2 ?side3 ?side4 A24.out).mono ?_); (case side1 => exact Kd.C_below HR288_5.out sq85); (case side2 => exact HC288_5.out); (case side3 => exact Kd.C_below HR289_5.out sq85); (case side4 => exact HC289_5.out); rintro e w' ⟨rfl, ⟨nd, rfl⟩⟩))
              go_roundg k2
              case measure => have := HJ2.out; have := HK2.out; omega
              case rel => exact ⟨(wrap64 (x5_2 + 1)), sq4, H', ⟨by have := HJ2.out; have := HK2.out; omega⟩, ⟨by (with_reducible repeat (first | refine blk_drewN ?_ _ | refine blk_drew ?_ | refine blk_alloc ?_ _)); refine blk_far ?_ NB286_291.out _; (with_reducible repeat (first | refine blk_drewN ?_ _ | refine blk_drew ?_ | refine blk_alloc ?_ _)); refine blk_far ?_ NB286_291.out _; (with_reducible repeat (first | refine blk_drewN ?_ _ | refine blk_drew ?_ | refine blk_alloc ?_ _)); refine blk_far ?_ NB286_291.out _; (with_reducible repeat (first | refine blk_drewN ?_ _ | refine blk_drew ?_ | refine blk_alloc ?_ _)); refine blk_far ?_ NB286_291.out _; (with_reducible repeat (first | refine blk_drewN ?_ _ | refine blk_drew ?_ | refine blk_alloc ?_ _)); refine blk_far ?_ NB286_291.out _; (with_reducible repeat (first | refine blk_drewN ?_ _ | refine blk_drew ?_ | refine blk_alloc ?_ _)); refine blk_far ?_ NB286_291.out _; (with_reducible repeat (first | refine blk_drewN ?_ _ | refine blk_drew ?_ | refine blk_alloc ?_ _)); refine blk_far ?_ NB286_290.out _; (with_reducible repeat (first | refine blk_drewN ?_ _ | refine blk_drew ?_ | refine blk_alloc ?_ _)); refine blk_far ?_ NB286_290.out _; (with_reducible repeat (first | refine blk_drewN ?_ _ | refine blk_drew ?_ | refine blk_alloc ?_ _)); refine blk_far ?_ NB286_290.out _; (with_reducible repeat (first | refine blk_drewN ?_ _ | refine blk_drew ?_ | refine blk_alloc ?_ _)); refine blk_far ?_ NB286_290.out _; (with_reducible repeat (first | refine blk_drewN ?_ _ | refine blk_drew ?_ | refine blk_alloc ?_ _)); refine blk_far ?_ NB286_290.out _; (with_reducible repeat (first | refine blk_drewN ?_ _ | refine blk_drew ?_ | refine blk_alloc ?_ _)); refine blk_far ?_ NB286_290.out _; (with_reducible repeat (first | refine blk_drewN ?_ _ | refine blk_drew ?_ | refine blk_alloc ?_ _)); exact BK286.out⟩, ⟨by (with_reducible repeat (first | refine blk_drewN ?_ _ | refine blk_drew ?_ | refine blk_alloc ?_ _)); refine blk_far ?_ NB287_291.out _; (with_reducible repeat (first | refine blk_drewN ?_ _ | refine blk_drew ?_ | refine blk_alloc ?_ _)); refine blk_far ?_ NB287_291.out _; (with_reducible repeat (first | refine blk_drewN ?_ _ | refine blk_drew ?_ | refine blk_alloc ?_ _)); refine blk_far ?_ NB287_291.out _; (with_reducible repeat (first | refine blk_drewN ?_ _ | refine blk_drew ?_ | refine blk_alloc ?_ _)); refine blk_far ?_ NB287_291.out _; (with_reducible repeat (first | refine blk_drewN ?_ _ | refine blk_drew ?_ | refine blk_alloc ?_ _)); refine blk_far ?_ NB287_291.out _; (with_reducible repeat (first | refine blk_drewN ?_ _ | refine blk_drew ?_ | refine blk_alloc ?_ _)); refine blk_far ?_ NB287_291.out _; (with_reducible repeat (first | refine blk_drewN ?_ _ | refine blk_drew ?_ | refine blk_alloc ?_ _)); refine blk_far ?_ NB287_290.out _; (with_reducible repeat (first | refine blk_drewN ?_ _ | refine blk_drew ?_ | refine blk_alloc ?_ _)); refine blk_far ?_ NB287_290.out _; (with_reducible repeat (first | refine blk_drewN ?_ _ | refine blk_drew ?_ | refine blk_alloc ?_ _)); refine blk_far ?_ NB287_290.out _; (with_reducible repeat (first | refine blk_drewN ?_ _ | refine blk_drew ?_ | refine blk_alloc ?_ _)); refine blk_far ?_ NB287_290.out _; (with_reducible repeat (first | refine blk_drewN ?_ _ | refine blk_drew ?_ | refine blk_alloc ?_ _)); refine blk_far ?_ NB287_290.out _; (with_reducible repeat (first | refine blk_drewN ?_ _ | refine blk_drew ?_ | refine blk_alloc ?_ _)); refine blk_far ?_ NB287_290.out _; (with_reducible repeat (first | refine blk_drewN ?_ _ | refine blk_drew ?_ | refine blk_alloc ?_ _)); exact BK287.out⟩, ⟨sq85⟩⟩
             replace c25 := Bool.eq_false_iff.mpr c25
             subst c25
             replace H := (itF_ _ _).symm.trans H
             obtain rfl := Option.some.inj H
             try go_wp2_with (first | (go_at_call 14; (with_reducible refine (tontinebook_SameFormula.calls k2 _ _ ((rd_T41 l0_1 x5_2).f3) _ _ ((rd_T41 l1_1 x5_2).f3) true _ ?side1 ?side2 ?side3 ?side4 A20.out).mono ?_); (case side1 => exact Kd.C_below HR288_3.out sq85); (case side2 => exact HC288_3.out); (case side3 => exact Kd.C_below HR289_3.out sq85); (case side4 => exact HC289_3.out); rintro e w' ⟨rfl, ⟨nd, rfl⟩⟩) | (go_at_call 14; (with_reducible refine (tontinebook_SameFormula.calls k2 _ _ ((rd_T41 l0_1 x5_2).f4) _ _ ((rd_T41 l1_1 x5_2).f4) true _ ?side1 ?side2 ?side3 ?side4 A22.out).mono ?_); (case side1 => exact Kd.C_below HR288_4.out sq85); (case side2 => exact HC288_4.out); (case side3 => exact Kd.C_below HR289_4.out sq85); (case side4 => exact HC289_4.out); rintro e w' ⟨rfl, ⟨nd, rfl⟩⟩) | (go_at_call 14; (with_reducible refine (tontinebook_SameFormula.calls k2 _ _ ((rd_T41 l0_1 x5_2).f5) _ _ ((rd_T41 l1_1 x5_2).f5) false _ ?side1 ?side2 ?side3 ?side4 A24.out).mono ?_); (case side1 => exact Kd.C_below HR288_5.out sq85); (case side2 => exact HC288_5.out); (case side3 => exact Kd.C_below HR289_5.out sq85); (case side4 => exact HC289_5.out); rintro e w' ⟨rfl, ⟨nd, rfl⟩⟩))
             go_ret
             exact ⟨sq23, sq85⟩
            replace c23 := Bool.eq_false_iff.mpr c23
            subst c23
            replace H := (itF_ _ _).symm.trans H
            obtain rfl := Option.some.inj H
            try go_wp2_with (first | (go_at_call 14; (with_reducible refine (tontinebook_SameFormula.calls k2 _ _ ((rd_T41 l0_1 x5_2).f3) _ _ ((rd_T41 l1_1 x5_2).f3) true _ ?side1 ?side2 ?side3 ?side4 A20.out).mono ?_); (case side1 => exact Kd.C_below HR288_3.out sq85); (case side2 => exact HC288_3.out); (case side3 => exact Kd.C_below HR289_3.out sq85); (case side4 => exact HC289_3.out); rintro e w' ⟨rfl, ⟨nd, rfl⟩⟩) | (go_at_call 14; (with_reducible refine (tontinebook_SameFormula.calls k2 _ _ ((rd_T41 l0_1 x5_2).f4) _ _ ((rd_T41 l1_1 x5_2).f4) false _ ?side1 ?side2 ?side3 ?side4 A22.out).mono ?_); (case side1 => exact Kd.C_below HR288_4.out sq85); (case side2 => exact HC288_4.out); (case side3 => exact Kd.C_below HR289_4.out sq85); (case side4 => exact HC289_4.out); rintro e w' ⟨rfl, ⟨nd, rfl⟩⟩))
            go_ret
            exact ⟨sq23, sq85⟩
           replace c21 := Bool.eq_false_iff.mpr c21
           subst c21
           replace H := (itF_ _ _).symm.trans H
           obtain rfl := Option.some.inj H
           try go_wp2_with (first | (go_at_call 14; (with_reducible refine (tontinebook_SameFormula.calls k2 _ _ ((rd_T41 l0_1 x5_2).f3) _ _ ((rd_T41 l1_1 x5_2).f3) false _ ?side1 ?side2 ?side3 ?side4 A20.out).mono ?_); (case side1 => exact Kd.C_below HR288_3.out sq85); (case side2 => exact HC288_3.out); (case side3 => exact Kd.C_below HR289_3.out sq85); (case side4 => exact HC289_3.out); rintro e w' ⟨rfl, ⟨nd, rfl⟩⟩))
           go_ret
           exact ⟨sq23, sq85⟩
          rw [if_neg c19] at H
          have c19b0 : (((rd_T41 l0_1 x5_2).f2).toList == ((rd_T41 l1_1 x5_2).f2).toList) = false := beq_eq_false_iff_ne.mpr c19
          have c19b1 : (((rd_T41 l0_1 x5_2).f2).toList != ((rd_T41 l1_1 x5_2).f2).toList) = true := bne_iff_ne.mpr c19
          obtain rfl := Option.some.inj H
          try go_wp2
          go_ret
          exact ⟨sq23, sq85⟩
         rw [if_neg c18] at H
         have c18b0 : (((rd_T41 l0_1 x5_2).f1) == ((rd_T41 l1_1 x5_2).f1)) = false := beq_eq_false_iff_ne.mpr c18
         have c18b1 : (((rd_T41 l0_1 x5_2).f1) != ((rd_T41 l1_1 x5_2).f1)) = true := bne_iff_ne.mpr c18
         obtain rfl := Option.some.inj H
         try go_wp2
         go_ret
         exact ⟨sq23, sq85⟩
        rw [if_neg c17] at H
        have c17b0 : (((rd_T41 l0_1 x5_2).f0) == ((rd_T41 l1_1 x5_2).f0)) = false := beq_eq_false_iff_ne.mpr c17
        have c17b1 : (((rd_T41 l0_1 x5_2).f0) != ((rd_T41 l1_1 x5_2).f0)) = true := bne_iff_ne.mpr c17
        obtain rfl := Option.some.inj H
        try go_wp2
        go_ret
        exact ⟨sq23, sq85⟩
       rw [if_neg c16] at H
       exact absurd H (by simp)
      rw [if_neg c15] at H
      exact absurd H (by simp)
     rw [if_neg c14] at H
     have c14b0 : decide (x5_2 < (l0_1.length : Int)) = false := decide_eq_false c14
     try (have c14e0 := c14b0; rw [hl288_3] at c14e0)
     try (have c14e0 := c14b0; rw [hl288_4] at c14e0)
     try (have c14e0 := c14b0; rw [hl288_5] at c14e0)
     try (have c14e0 := c14b0; rw [hl289_3] at c14e0)
     try (have c14e0 := c14b0; rw [hl289_4] at c14e0)
     try (have c14e0 := c14b0; rw [hl289_5] at c14e0)
     clear c14
     obtain rfl := Option.some.inj H
     have hnb201 := NB286_287.out
     have hnc201 := NB287_286.out
     have hcz202_0 : wr.cell? ⟨gb286, 0, none⟩ = some (.string a0_0) := (blk_cell BK286.out 0).trans rfl
     have hcz202_1 : wr.cell? ⟨gb286, 1, none⟩ = some (.slice A0_1 l0_1.length c0_1) := (blk_cell BK286.out 1).trans rfl
     have hfz202_0 := blk_frozen BK286.out 0
     have hfz202_1 := blk_frozen BK286.out 1
     go_wp2
     go_ret
     exact ⟨sq23, sq78⟩

end Go.Proofs.Ytaogejkmkalnlaa.PAll
