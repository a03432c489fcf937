-- Written by a program of this session (wip/tools/print2.sh): functions as plain Lean, and that the machine's calls do what they say.
import Derived.Test.YtaogejkmkalnlaaPAllx0
namespace Go.Proofs.Ytaogejkmkalnlaa.PAll
open Go.RowKit Go.Proofs.YtaogejkmkalnlaaW.PrintWords Go.Proofs.YtaogejkmkalnlaaW.PrintLast Go.Proofs.YtaogejkmkalnlaaW.PrintMore
attribute [local go_sem] max2_int min2_int max_two min_two max_three min_three max_four min_four   -- for this text's walks alone
set_option linter.unusedVariables false
set_option linter.unusedSimpArgs false

/-! ### tontineref17_count: function 36 -/
mutual
def tontineref17_count.j0 : Nat → Bool → Int → Int → ByteArray → Option (Int)
 | 0, _, _, _, _ => none
 | k + 1, x3, x196000, x196001, x196002 => if x3 = true then (some 0) else (if x196000 = 6 then (tontineref17_count.j1 k true x196000 x196001 x196002) else (tontineref17_count.j1 k (x196000 == 7) x196000 x196001 x196002))
def tontineref17_count.j1 : Nat → Bool → Int → Int → ByteArray → Option (Int)
 | 0, _, _, _, _ => none
 | k + 1, x12, x196000, x196001, x196002 => if x12 = true then (some 1) else (if x196000 ≥ 8 then (if x196000 ≤ 19 then (tontineref17_count.j2 k true x196000 x196001 x196002) else (tontineref17_count.j2 k (x196000 == 23) x196000 x196001 x196002)) else (tontineref17_count.j2 k (x196000 == 23) x196000 x196001 x196002))
def tontineref17_count.j2 : Nat → Bool → Int → Int → ByteArray → Option (Int)
 | 0, _, _, _, _ => none
 | k + 1, x21, x196000, x196001, x196002 => if x21 = true then (some 2) else (if x196000 = 20 then (some 3) else (if x196000 = 21 then (if x196001 ≥ 1 then (some x196001) else (some (-1))) else (if x196000 = 22 then (if x196001 ≥ 1 then (some x196001) else (some (-1))) else (some (-1)))))
end
def tontineref17_count.f (k : Nat) (a0_0 : Int) (a0_1 : Int) (a0_2 : ByteArray) : Option (Int) := if a0_0 ≥ 1 then (tontineref17_count.j0 k (decide (a0_0 ≤ 5)) a0_0 a0_1 a0_2) else (tontineref17_count.j0 k false a0_0 a0_1 a0_2)
theorem tontineref17_count.mono_l : ∀ k, (∀ y0 y1 y2 y3, LeO (tontineref17_count.j0 k y0 y1 y2 y3) (tontineref17_count.j0 (k + 1) y0 y1 y2 y3)) ∧ (∀ y0 y1 y2 y3, LeO (tontineref17_count.j1 k y0 y1 y2 y3) (tontineref17_count.j1 (k + 1) y0 y1 y2 y3)) ∧ (∀ y0 y1 y2 y3, LeO (tontineref17_count.j2 k y0 y1 y2 y3) (tontineref17_count.j2 (k + 1) y0 y1 y2 y3))
 | 0 => ⟨fun _ _ _ _ r h => by simp [tontineref17_count.j0] at h, fun _ _ _ _ r h => by simp [tontineref17_count.j1] at h, fun _ _ _ _ r h => by simp [tontineref17_count.j2] at h⟩
 | k + 1 => by
  obtain ⟨ih0, ih1, ih2⟩ := tontineref17_count.mono_l k
  refine ⟨?_, ?_, ?_⟩
  ·intro y0 y1 y2 y3
   unfold tontineref17_count.j0
   exact sq96
  ·intro y0 y1 y2 y3
   unfold tontineref17_count.j1
   exact sq96
  intro y0 y1 y2 y3
  unfold tontineref17_count.j2
  exact sq96
theorem tontineref17_count.mono : ∀ a0 a1 a2 k, LeO (tontineref17_count.f k a0 a1 a2) (tontineref17_count.f (k + 1) a0 a1 a2) := by
 intro a0 a1 a2 k
 obtain ⟨ih0, ih1, ih2⟩ := tontineref17_count.mono_l k
 unfold tontineref17_count.f
 exact sq96
set_option maxHeartbeats 8000000 in
set_option maxRecDepth 100000 in
theorem tontineref17_count.calls (k : Nat) (a0_0 : Int) (a0_1 : Int) (a0_2 : ByteArray) (r : Int) (w : World) (h : tontineref17_count.f k a0_0 a0_1 a0_2 = some r) :
  Calls Try.prog 36 #[.agg #[.int .i64 a0_0, .int .i64 a0_1, .string a0_2]] w fun e w' => e = .returned (.int .i64 r) ∧ Below w.heap.size w w' := by
 have hu43 := Try.underlying43
 have HB := Aside0.mk (Below.refl w.heap.size w)
 have H : (if a0_0 ≥ 1 then (tontineref17_count.j0 k (decide (a0_0 ≤ 5)) a0_0 a0_1 a0_2) else (tontineref17_count.j0 k false a0_0 a0_1 a0_2)) = some r := h
 clear h
 have HC2 := Aside0.mk H
 clear H
 go_enter Try.func36, Try.ntmps36
 go_upto_region 1 with (first | ((with_reducible refine gate_dst (N := 1) rfl ?_); refine box_event ?hg (N := 1) ?hd (cs := #[.int .i64 a0_0, .int .i64 a0_1, .string a0_2]) (t := 43) ?hr ?_; (case hd => rfl); (case hg => rfl); (case hr => first | (go_simp; done) | (go_simp; rfl)); intro gb195 hg w3 hbox hb; have n0_ := Aside0.mk (below_step sq55 hb); have n1_ := Aside0.mk (hbox); have n2_ := Aside0.mk ((by rw [hg]; exact (below_size sq55) : w.heap.size ≤ gb195)); have n3_ := Aside0.mk ((by rw [hg]; exact (below_size sq55) : w.heap.size ≤ gb195)); clear HB; have HB := n0_; have BK195 := n1_; have GW195 := n2_; have GE195 := n3_; clear n0_ n1_ n2_ n3_; clear hb hbox hg))
 (try simp only [Act.put, List.setIfInBounds_toArray, List.set_cons_zero, List.set_cons_succ])
 go_cut [3] (fun v3 wc => ∃ (kq : Nat) (x3_1 : Bool), v3 = .bool x3_1 ∧ Aside0 (tontineref17_count.j0 kq x3_1 a0_0 a0_1 a0_2 = some r) ∧ Aside0 (kq ≤ k) ∧ Aside0 (wc.heap[gb195]? = some (.cells #[.int .i64 a0_0, .int .i64 a0_1, .string a0_2] 43 (0, 0))) ∧ Aside0 (Below w.heap.size w wc))
 case first =>
  have H := HC2.out
  clear HC2
  by_cases c4 : a0_0 ≥ 1
  ·rw [if_pos c4] at H
   have c4b0 : decide (1 ≤ a0_0) = true := decide_eq_true c4; clear c4
   (first | rw [c4b0] | (simp only [i64_w, i32_w]; rw [c4b0]) | skip)
   have H' := Aside0.mk H
   clear H
   have hcz5_0 : w3.cell? ⟨gb195, 0, none⟩ = some (.int .i64 a0_0) := (blk_cell BK195.out 0).trans rfl
   have hcz5_1 : w3.cell? ⟨gb195, 1, none⟩ = some (.int .i64 a0_1) := (blk_cell BK195.out 1).trans rfl
   have hcz5_2 : w3.cell? ⟨gb195, 2, none⟩ = some (.string a0_2) := (blk_cell BK195.out 2).trans rfl
   have hfz5_0 := blk_frozen BK195.out 0
   have hfz5_1 := blk_frozen BK195.out 1
   have hfz5_2 := blk_frozen BK195.out 2
   go_wp2
   go_meet
   case rel => exact ⟨_, (decide (a0_0 ≤ 5)), sq4, H', ⟨sq2⟩, ⟨sq45⟩, ⟨sq69⟩⟩
  rw [if_neg c4] at H
  have c4b0 : decide (1 ≤ a0_0) = false := decide_eq_false c4; clear c4
  (first | rw [c4b0] | (simp only [i64_w, i32_w]; rw [c4b0]) | skip)
  have H' := Aside0.mk H
  clear H
  have hcz6_0 : w3.cell? ⟨gb195, 0, none⟩ = some (.int .i64 a0_0) := (blk_cell BK195.out 0).trans rfl
  have hcz6_1 : w3.cell? ⟨gb195, 1, none⟩ = some (.int .i64 a0_1) := (blk_cell BK195.out 1).trans rfl
  have hcz6_2 : w3.cell? ⟨gb195, 2, none⟩ = some (.string a0_2) := (blk_cell BK195.out 2).trans rfl
  have hfz6_0 := blk_frozen BK195.out 0
  have hfz6_1 := blk_frozen BK195.out 1
  have hfz6_2 := blk_frozen BK195.out 2
  go_wp2
  go_meet
  case rel => exact ⟨_, (false), sq4, H', ⟨sq2⟩, ⟨sq45⟩, ⟨sq69⟩⟩
 case rest =>
  clear HC2; try clear p2; try clear c3; try clear c4; try clear c4b0; try clear hcz5_0; try clear hcz5_1; try clear hcz5_2; try clear hcz6_0; try clear hcz6_1; try clear hcz6_2; try clear hfz5_0; try clear hfz5_1; try clear hfz5_2; try clear hfz6_0; try clear hfz6_1; try clear hfz6_2
  obtain ⟨kq, x3_1, rfl, HA, HJ1, BK195, HB⟩ := hcut
  cases kq with
  | zero => exact absurd HA.out (by simp [tontineref17_count.j0])
  | succ kj1 =>
   have H := HA.out
   clear HA
   simp only [tontineref17_count.j0] at H
   by_cases c7 : x3_1 = true
   ·subst c7
    replace H := (itT_ _ _).symm.trans H
    obtain rfl := Option.some.inj H
    go_wp2
    go_ret
    exact ⟨sq23, sq69⟩
   replace c7 := Bool.eq_false_iff.mpr c7
   subst c7
   replace H := (itF_ _ _).symm.trans H
   have HC8 := Aside0.mk H
   clear H
   go_upto_region 3 with (fail)
   go_cut [12] (fun v12 wc => ∃ (kq : Nat) (x12_7 : Bool), v12 = .bool x12_7 ∧ Aside0 (tontineref17_count.j1 kq x12_7 a0_0 a0_1 a0_2 = some r) ∧ Aside0 (kq ≤ kj1) ∧ Aside0 (wc.heap[gb195]? = some (.cells #[.int .i64 a0_0, .int .i64 a0_1, .string a0_2] 43 (0, 0))) ∧ Aside0 (Below w.heap.size w wc))
   case first =>
    have H := HC8.out
    clear HC8
    by_cases c9 : a0_0 = 6
    ·rw [if_pos c9] at H
     have c9b0 : (a0_0 == 6) = true := beq_iff_eq.mpr c9
     have c9b1 : (a0_0 != 6) = false := bne_eq_false_iff_eq.mpr c9
     clear c9
     (first | rw [c9b0] | (simp only [i64_w, i32_w]; rw [c9b0]) | skip)
     have H' := Aside0.mk H
     clear H
     have hcz10_0 : wc.cell? ⟨gb195, 0, none⟩ = some (.int .i64 a0_0) := (blk_cell BK195.out 0).trans rfl
     have hcz10_1 : wc.cell? ⟨gb195, 1, none⟩ = some (.int .i64 a0_1) := (blk_cell BK195.out 1).trans rfl
     have hcz10_2 : wc.cell? ⟨gb195, 2, none⟩ = some (.string a0_2) := (blk_cell BK195.out 2).trans rfl
     have hfz10_0 := blk_frozen BK195.out 0
     have hfz10_1 := blk_frozen BK195.out 1
     have hfz10_2 := blk_frozen BK195.out 2
     go_wp2
     go_meet
     case rel => exact ⟨_, (true), sq4, H', ⟨sq6⟩, ⟨sq45⟩, ⟨sq69⟩⟩
    rw [if_neg c9] at H
    have c9b0 : (a0_0 == 6) = false := beq_eq_false_iff_ne.mpr c9
    have c9b1 : (a0_0 != 6) = true := bne_iff_ne.mpr c9
    (first | rw [c9b0] | (simp only [i64_w, i32_w]; rw [c9b0]) | skip)
    have H' := Aside0.mk H
    clear H
    have hcz11_0 : wc.cell? ⟨gb195, 0, none⟩ = some (.int .i64 a0_0) := (blk_cell BK195.out 0).trans rfl
    have hcz11_1 : wc.cell? ⟨gb195, 1, none⟩ = some (.int .i64 a0_1) := (blk_cell BK195.out 1).trans rfl
    have hcz11_2 : wc.cell? ⟨gb195, 2, none⟩ = some (.string a0_2) := (blk_cell BK195.out 2).trans rfl
    have hfz11_0 := blk_frozen BK195.out 0
    have hfz11_1 := blk_frozen BK195.out 1
    have hfz11_2 := blk_frozen BK195.out 2
    go_wp2
    go_meet
    case rel => exact ⟨_, ((a0_0 == 7)), sq4, H', ⟨sq6⟩, ⟨sq45⟩, ⟨sq69⟩⟩
   case rest =>
    clear HC8; try clear p2; try clear c3; try clear c4; try clear c4b0; try clear c7; try clear c9; try clear c9b0; try clear c9b1; try clear hcz10_0; try clear hcz10_1; try clear hcz10_2; try clear hcz11_0; try clear hcz11_1; try clear hcz11_2; try clear hcz5_0; try clear hcz5_1; try clear hcz5_2; try clear hcz6_0; try clear hcz6_1; try clear hcz6_2; try clear hfz10_0; try clear hfz10_1; try clear hfz10_2; try clear hfz11_0; try clear hfz11_1; try clear hfz11_2; try clear hfz5_0; try clear hfz5_1; try clear hfz5_2; try clear hfz6_0; try clear hfz6_1; try clear hfz6_2; try clear p2
    obtain ⟨kq, x12_7, rfl, HA, HJ7, BK195, HB⟩ := hcut
    cases kq with
    | zero => exact absurd HA.out (by simp [tontineref17_count.j1])
    | succ kj7 =>
     have H := HA.out
     clear HA
     simp only [tontineref17_count.j1] at H
     by_cases c12 : x12_7 = true
     ·subst c12
      replace H := (itT_ _ _).symm.trans H
      obtain rfl := Option.some.inj H
      go_wp2
      go_ret
      exact ⟨sq23, sq69⟩
     replace c12 := Bool.eq_false_iff.mpr c12
     subst c12
     replace H := (itF_ _ _).symm.trans H
     have HC13 := Aside0.mk H
     clear H
     go_upto_region 5 with (fail)
     go_cut [21] (fun v21 wc => ∃ (kq : Nat) (x21_12 : Bool), v21 = .bool x21_12 ∧ Aside0 (tontineref17_count.j2 kq x21_12 a0_0 a0_1 a0_2 = some r) ∧ Aside0 (kq ≤ kj7) ∧ Aside0 (wc.heap[gb195]? = some (.cells #[.int .i64 a0_0, .int .i64 a0_1, .string a0_2] 43 (0, 0))) ∧ Aside0 (Below w.heap.size w wc))
     case first =>
      have H := HC13.out
      clear HC13
      by_cases c14 : a0_0 ≥ 8
      ·rw [if_pos c14] at H
       have c14b0 : decide (8 ≤ a0_0) = true := decide_eq_true c14; clear c14
       (first | rw [c14b0] | (simp only [i64_w, i32_w]; rw [c14b0]) | skip)
       by_cases c15 : a0_0 ≤ 19
       ·rw [if_pos c15] at H
        have c15b0 : decide (a0_0 ≤ 19) = true := decide_eq_true c15; clear c15
        have H' := Aside0.mk H
        clear H
        have hcz16_0 : wc.cell? ⟨gb195, 0, none⟩ = some (.int .i64 a0_0) := (blk_cell BK195.out 0).trans rfl
        have hcz16_1 : wc.cell? ⟨gb195, 1, none⟩ = some (.int .i64 a0_1) := (blk_cell BK195.out 1).trans rfl
        have hcz16_2 : wc.cell? ⟨gb195, 2, none⟩ = some (.string a0_2) := (blk_cell BK195.out 2).trans rfl
        have hfz16_0 := blk_frozen BK195.out 0
        have hfz16_1 := blk_frozen BK195.out 1
        have hfz16_2 := blk_frozen BK195.out 2
        go_wp2
        go_meet
        case rel => exact ⟨_, (true), sq4, H', ⟨by have := HJ1.out; have := HJ7.out; first | omega | exact Nat.le_refl _⟩, ⟨sq45⟩, ⟨sq69⟩⟩
       rw [if_neg c15] at H
       have c15b0 : decide (a0_0 ≤ 19) = false := decide_eq_false c15; clear c15
       have H' := Aside0.mk H
       clear H
       have hcz17_0 : wc.cell? ⟨gb195, 0, none⟩ = some (.int .i64 a0_0) := (blk_cell BK195.out 0).trans rfl
       have hcz17_1 : wc.cell? ⟨gb195, 1, none⟩ = some (.int .i64 a0_1) := (blk_cell BK195.out 1).trans rfl
       have hcz17_2 : wc.cell? ⟨gb195, 2, none⟩ = some (.string a0_2) := (blk_cell BK195.out 2).trans rfl
       have hfz17_0 := blk_frozen BK195.out 0
       have hfz17_1 := blk_frozen BK195.out 1
       have hfz17_2 := blk_frozen BK195.out 2
       go_wp2
       go_meet
       case rel => exact ⟨_, ((a0_0 == 23)), sq4, H', ⟨by have := HJ1.out; have := HJ7.out; first | omega | exact Nat.le_refl _⟩, ⟨sq45⟩, ⟨sq69⟩⟩
      rw [if_neg c14] at H
      have c14b0 : decide (8 ≤ a0_0) = false := decide_eq_false c14; clear c14
      (first | rw [c14b0] | (simp only [i64_w, i32_w]; rw [c14b0]) | skip)
      have H' := Aside0.mk H
      clear H
      have hcz18_0 : wc.cell? ⟨gb195, 0, none⟩ = some (.int .i64 a0_0) := (blk_cell BK195.out 0).trans rfl
      have hcz18_1 : wc.cell? ⟨gb195, 1, none⟩ = some (.int .i64 a0_1) := (blk_cell BK195.out 1).trans rfl
      have hcz18_2 : wc.cell? ⟨gb195, 2, none⟩ = some (.string a0_2) := (blk_cell BK195.out 2).trans rfl
      have hfz18_0 := blk_frozen BK195.out 0
      have hfz18_1 := blk_frozen BK195.out 1
      have hfz18_2 := blk_frozen BK195.out 2
      go_wp2
      go_meet
      case rel => exact ⟨_, ((a0_0 == 23)), sq4, H', ⟨by have := HJ1.out; have := HJ7.out; first | omega | exact Nat.le_refl _⟩, ⟨sq45⟩, ⟨sq69⟩⟩
     case rest =>
      clear HC13; try clear c1; try clear p2; try clear c3; try clear c4; try clear c4b0; try clear c7; try clear c9; try clear c9b0; try clear c9b1; try clear c12; try clear c14; try clear c14b0; try clear c15; try clear c15b0; try clear hcz10_0; try clear hcz10_1; try clear hcz10_2; try clear hcz11_0; try clear hcz11_1; try clear hcz11_2; try clear hcz16_0; try clear hcz16_1; try clear hcz16_2; try clear hcz17_0; try clear hcz17_1; try clear hcz17_2; try clear hcz18_0; try clear hcz18_1; try clear hcz18_2; try clear hcz5_0; try clear hcz5_1; try clear hcz5_2; try clear hcz6_0; try clear hcz6_1; try clear hcz6_2; try clear hfz10_0; try clear hfz10_1; try clear hfz10_2; try clear hfz11_0; try clear hfz11_1; try clear hfz11_2; try clear hfz16_0; try clear hfz16_1; try clear hfz16_2; try clear hfz17_0; try clear hfz17_1; try clear hfz17_2; try clear hfz18_0; try clear hfz18_1; try clear hfz18_2; try clear hfz5_0; try clear hfz5_1; try clear hfz5_2; try clear hfz6_0; try clear hfz6_1; try clear hfz6_2; try clear p2
      obtain ⟨kq, x21_12, rfl, HA, HJ12, BK195, HB⟩ := hcut
      cases kq with
      | zero => exact absurd HA.out (by simp [tontineref17_count.j2])
      | succ kj12 =>
       have H := HA.out
       clear HA
       simp only [tontineref17_count.j2] at H
       by_cases c19 : x21_12 = true
       ·subst c19
        replace H := (itT_ _ _).symm.trans H
        obtain rfl := Option.some.inj H
        go_wp2
        go_ret
        exact ⟨sq23, sq69⟩
       replace c19 := Bool.eq_false_iff.mpr c19
       subst c19
       replace H := (itF_ _ _).symm.trans H
       by_cases c20 : a0_0 = 20
       ·rw [if_pos c20] at H
        have c20b0 : (a0_0 == 20) = true := beq_iff_eq.mpr c20
        have c20b1 : (a0_0 != 20) = false := bne_eq_false_iff_eq.mpr c20
        clear c20
        obtain rfl := Option.some.inj H
        have hcz21_0 : wc.cell? ⟨gb195, 0, none⟩ = some (.int .i64 a0_0) := (blk_cell BK195.out 0).trans rfl
        have hcz21_1 : wc.cell? ⟨gb195, 1, none⟩ = some (.int .i64 a0_1) := (blk_cell BK195.out 1).trans rfl
        have hcz21_2 : wc.cell? ⟨gb195, 2, none⟩ = some (.string a0_2) := (blk_cell BK195.out 2).trans rfl
        have hfz21_0 := blk_frozen BK195.out 0
        have hfz21_1 := blk_frozen BK195.out 1
        have hfz21_2 := blk_frozen BK195.out 2
        go_wp2
        go_ret
        exact ⟨sq23, sq69⟩
       rw [if_neg c20] at H
       have c20b0 : (a0_0 == 20) = false := beq_eq_false_iff_ne.mpr c20
       have c20b1 : (a0_0 != 20) = true := bne_iff_ne.mpr c20
       by_cases c22 : a0_0 = 21
       ·rw [if_pos c22] at H
        have c22b0 : (a0_0 == 21) = true := beq_iff_eq.mpr c22
        have c22b1 : (a0_0 != 21) = false := bne_eq_false_iff_eq.mpr c22
        clear c22
        by_cases c23 : a0_1 ≥ 1
        ·rw [if_pos c23] at H
         have c23b0 : decide (1 ≤ a0_1) = true := decide_eq_true c23; clear c23
         obtain rfl := Option.some.inj H
         have hcz24_0 : wc.cell? ⟨gb195, 0, none⟩ = some (.int .i64 a0_0) := (blk_cell BK195.out 0).trans rfl
         have hcz24_1 : wc.cell? ⟨gb195, 1, none⟩ = some (.int .i64 a0_1) := (blk_cell BK195.out 1).trans rfl
         have hcz24_2 : wc.cell? ⟨gb195, 2, none⟩ = some (.string a0_2) := (blk_cell BK195.out 2).trans rfl
         have hfz24_0 := blk_frozen BK195.out 0
         have hfz24_1 := blk_frozen BK195.out 1
         have hfz24_2 := blk_frozen BK195.out 2
         go_wp2
         go_ret
         exact ⟨sq23, sq69⟩
        rw [if_neg c23] at H
        have c23b0 : decide (1 ≤ a0_1) = false := decide_eq_false c23; clear c23
        obtain rfl := Option.some.inj H
        have hcz25_0 : wc.cell? ⟨gb195, 0, none⟩ = some (.int .i64 a0_0) := (blk_cell BK195.out 0).trans rfl
        have hcz25_1 : wc.cell? ⟨gb195, 1, none⟩ = some (.int .i64 a0_1) := (blk_cell BK195.out 1).trans rfl
        have hcz25_2 : wc.cell? ⟨gb195, 2, none⟩ = some (.string a0_2) := (blk_cell BK195.out 2).trans rfl
        have hfz25_0 := blk_frozen BK195.out 0
        have hfz25_1 := blk_frozen BK195.out 1
        have hfz25_2 := blk_frozen BK195.out 2
        go_wp2
        go_ret
        exact ⟨sq23, sq69⟩
       rw [if_neg c22] at H
       have c22b0 : (a0_0 == 21) = false := beq_eq_false_iff_ne.mpr c22
       have c22b1 : (a0_0 != 21) = true := bne_iff_ne.mpr c22
       by_cases c26 : a0_0 = 22
       ·rw [if_pos c26] at H
        have c26b0 : (a0_0 == 22) = true := beq_iff_eq.mpr c26
        have c26b1 : (a0_0 != 22) = false := bne_eq_false_iff_eq.mpr c26
        clear c26
        by_cases c27 : a0_1 ≥ 1
        ·rw [if_pos c27] at H
         have c27b0 : decide (1 ≤ a0_1) = true := decide_eq_true c27; clear c27
         obtain rfl := Option.some.inj H
         have hcz28_0 : wc.cell? ⟨gb195, 0, none⟩ = some (.int .i64 a0_0) := (blk_cell BK195.out 0).trans rfl
         have hcz28_1 : wc.cell? ⟨gb195, 1, none⟩ = some (.int .i64 a0_1) := (blk_cell BK195.out 1).trans rfl
         have hcz28_2 : wc.cell? ⟨gb195, 2, none⟩ = some (.string a0_2) := (blk_cell BK195.out 2).trans rfl
         have hfz28_0 := blk_frozen BK195.out 0
         have hfz28_1 := blk_frozen BK195.out 1
         have hfz28_2 := blk_frozen BK195.out 2
         go_wp2
         go_ret
         exact ⟨sq23, sq69⟩
        rw [if_neg c27] at H
        have c27b0 : decide (1 ≤ a0_1) = false := decide_eq_false c27; clear c27
        obtain rfl := Option.some.inj H
        have hcz29_0 : wc.cell? ⟨gb195, 0, none⟩ = some (.int .i64 a0_0) := (blk_cell BK195.out 0).trans rfl
        have hcz29_1 : wc.cell? ⟨gb195, 1, none⟩ = some (.int .i64 a0_1) := (blk_cell BK195.out 1).trans rfl
        have hcz29_2 : wc.cell? ⟨gb195, 2, none⟩ = some (.string a0_2) := (blk_cell BK195.out 2).trans rfl
        have hfz29_0 := blk_frozen BK195.out 0
        have hfz29_1 := blk_frozen BK195.out 1
        have hfz29_2 := blk_frozen BK195.out 2
        go_wp2
        go_ret
        exact ⟨sq23, sq69⟩
       rw [if_neg c26] at H
       have c26b0 : (a0_0 == 22) = false := beq_eq_false_iff_ne.mpr c26
       have c26b1 : (a0_0 != 22) = true := bne_iff_ne.mpr c26
       obtain rfl := Option.some.inj H
       have hcz30_0 : wc.cell? ⟨gb195, 0, none⟩ = some (.int .i64 a0_0) := (blk_cell BK195.out 0).trans rfl
       have hcz30_1 : wc.cell? ⟨gb195, 1, none⟩ = some (.int .i64 a0_1) := (blk_cell BK195.out 1).trans rfl
       have hcz30_2 : wc.cell? ⟨gb195, 2, none⟩ = some (.string a0_2) := (blk_cell BK195.out 2).trans rfl
       have hfz30_0 := blk_frozen BK195.out 0
       have hfz30_1 := blk_frozen BK195.out 1
       have hfz30_2 := blk_frozen BK195.out 2
       go_wp2
       go_ret
       exact ⟨sq23, sq69⟩

/-! ### tontineref17_digits: function 42 -/
def tontineref17_digits.l0 : Nat → ByteArray → Int → Option (Int)
 | 0, _, _ => none
 | k + 1, x0, x1 => if x1 < (x0.size : Int) then (if 0 ≤ x1 then (if (bt x0 x1) ≥ 48 then (if (bt x0 x1) ≤ 57 then (tontineref17_digits.l0 k x0 (wrap64 (x1 + 1))) else (some x1)) else (some x1)) else (none)) else (some x1)
def tontineref17_digits.f (k : Nat) (a0 : ByteArray) (a1 : Int) : Option (Int) := tontineref17_digits.l0 k a0 a1
theorem tontineref17_digits.mono_l : ∀ k, (∀ y0 y1, LeO (tontineref17_digits.l0 k y0 y1) (tontineref17_digits.l0 (k + 1) y0 y1))
 | 0 => fun _ _ r h => by simp [tontineref17_digits.l0] at h
 | k + 1 => by
  have ih0 := tontineref17_digits.mono_l k
  ·intro y0 y1
   unfold tontineref17_digits.l0
   exact sq86
theorem tontineref17_digits.mono : ∀ a0 a1 k, LeO (tontineref17_digits.f k a0 a1) (tontineref17_digits.f (k + 1) a0 a1) := by
 intro a0 a1 k
 have ih0 := tontineref17_digits.mono_l k
 unfold tontineref17_digits.f
 exact sq86
set_option maxHeartbeats 8000000 in
set_option maxRecDepth 100000 in
theorem tontineref17_digits.calls (k : Nat) (a0 : ByteArray) (a1 : Int) (r : Int) (w : World) (h : tontineref17_digits.f k a0 a1 = some r) :
  Calls Try.prog 42 #[.string a0, .int .i64 a1] w fun e w' => e = .returned (.int .i64 r) ∧ Drawn0 w w' := by
 have H : (tontineref17_digits.l0 k a0 a1) = some r := h
 clear h
 have H' := Aside0.mk H
 clear H
 go_enter Try.func42, Try.ntmps42
 go_wp2
 go_loopg [1] k (fun kq v1 w' => ∃ (x1_1 : Int), v1 = .int .i64 x1_1 ∧ Aside0 (tontineref17_digits.l0 kq a0 x1_1 = some r) ∧ Aside0 (kq ≤ k) ∧ Drawn0 w w')
 case atStart => exact ⟨(a1), sq4, H', ⟨Nat.le_refl _⟩, sq7⟩
 case round =>
  clear H'
  try clear p2
  obtain ⟨x1_1, rfl, HA, HK1, ⟨m1, rfl⟩⟩ := hrel
  cases gk with
  | zero => exact absurd HA.out (by simp [tontineref17_digits.l0])
  | succ k1 =>
   have H := HA.out
   clear HA
   simp only [tontineref17_digits.l0] at H
   by_cases c3 : x1_1 < (a0.size : Int)
   ·rw [if_pos c3] at H
    have c3b0 : decide (x1_1 < (a0.size : Int)) = true := decide_eq_true c3; clear c3
    by_cases c4 : 0 ≤ x1_1
    ·rw [if_pos c4] at H
     have c4b0 : decide (0 ≤ x1_1) = true := decide_eq_true c4; clear c4
     by_cases c6 : (bt a0 x1_1) ≥ 48
     ·rw [if_pos c6] at H
      have c6b0 : decide (48 ≤ (bt a0 x1_1)) = true := decide_eq_true c6; clear c6
      by_cases c8 : (bt a0 x1_1) ≤ 57
      ·rw [if_pos c8] at H
       have c8b0 : decide ((bt a0 x1_1) ≤ 57) = true := decide_eq_true c8; clear c8
       have H' := Aside0.mk H
       clear H
       obtain ⟨p5, q5, hx5⟩ := btf_ a0 x1_1
       obtain ⟨p7, q7, hx7⟩ := btf_ a0 x1_1
       go_wp2
       go_roundg k1
       case measure => have := HK1.out; omega
       case rel => exact ⟨(wrap64 (x1_1 + 1)), sq4, H', ⟨by have := HK1.out; omega⟩, sq7⟩
      rw [if_neg c8] at H
      have c8b0 : decide ((bt a0 x1_1) ≤ 57) = false := decide_eq_false c8; clear c8
      obtain rfl := Option.some.inj H
      obtain ⟨p5, q5, hx5⟩ := btf_ a0 x1_1
      obtain ⟨p7, q7, hx7⟩ := btf_ a0 x1_1
      go_wp2
      go_ret
      exact ⟨sq4, sq7⟩
     rw [if_neg c6] at H
     have c6b0 : decide (48 ≤ (bt a0 x1_1)) = false := decide_eq_false c6; clear c6
     obtain rfl := Option.some.inj H
     obtain ⟨p5, q5, hx5⟩ := btf_ a0 x1_1
     go_wp2
     go_ret
     exact ⟨sq4, sq7⟩
    rw [if_neg c4] at H
    exact absurd H (by simp)
   rw [if_neg c3] at H
   have c3b0 : decide (x1_1 < (a0.size : Int)) = false := decide_eq_false c3; clear c3
   obtain rfl := Option.some.inj H
   go_wp2
   go_ret
   exact ⟨sq4, sq7⟩

/-! ### tontinebase_Digits: function 43 -/
def tontinebase_Digits.l0 : Nat → ByteArray → Int → Option (Bool)
 | 0, _, _ => none
 | k + 1, x0, x3 => if x3 < (x0.size : Int) then (if 0 ≤ x3 then (if (bt x0 x3) < 48 then (some false) else (if (bt x0 x3) > 57 then (some false) else (tontinebase_Digits.l0 k x0 (wrap64 (x3 + 1))))) else (none)) else (if x0.toList = ([48] : List UInt8) then (some true) else (if x0.toList = ([] : List UInt8) then (some false) else (if 0 < (x0.size : Int) then (some ((bt x0 0) != 48)) else (none))))
def tontinebase_Digits.f (k : Nat) (a0 : ByteArray) : Option (Bool) := tontinebase_Digits.l0 k a0 0
theorem tontinebase_Digits.mono_l : ∀ k, (∀ y0 y1, LeO (tontinebase_Digits.l0 k y0 y1) (tontinebase_Digits.l0 (k + 1) y0 y1))
 | 0 => fun _ _ r h => by simp [tontinebase_Digits.l0] at h
 | k + 1 => by
  have ih0 := tontinebase_Digits.mono_l k
  ·intro y0 y1
   unfold tontinebase_Digits.l0
   exact sq86
theorem tontinebase_Digits.mono : ∀ a0 k, LeO (tontinebase_Digits.f k a0) (tontinebase_Digits.f (k + 1) a0) := by
 intro a0 k
 have ih0 := tontinebase_Digits.mono_l k
 unfold tontinebase_Digits.f
 exact sq86
set_option maxHeartbeats 8000000 in
set_option maxRecDepth 100000 in
theorem tontinebase_Digits.calls (k : Nat) (a0 : ByteArray) (r : Bool) (w : World) (h : tontinebase_Digits.f k a0 = some r) :
  Calls Try.prog 43 #[.string a0] w fun e w' => e = .returned (.bool r) ∧ Drawn0 w w' := by
 have H : (tontinebase_Digits.l0 k a0 0) = some r := h
 clear h
 have H' := Aside0.mk H
 clear H
 go_enter Try.func43, Try.ntmps43
 go_wp2
 go_loopg [3] k (fun kq v3 w' => ∃ (x3_1 : Int), v3 = .int .i64 x3_1 ∧ Aside0 (tontinebase_Digits.l0 kq a0 x3_1 = some r) ∧ Aside0 (kq ≤ k) ∧ Drawn0 w w')
 case atStart => exact ⟨(0), sq4, H', ⟨Nat.le_refl _⟩, sq7⟩
 case round =>
  clear H'
  obtain ⟨x3_1, rfl, HA, HK1, ⟨m1, rfl⟩⟩ := hrel
  cases gk with
  | zero => exact absurd HA.out (by simp [tontinebase_Digits.l0])
  | succ k1 =>
   have H := HA.out
   clear HA
   simp only [tontinebase_Digits.l0] at H
   by_cases c2 : x3_1 < (a0.size : Int)
   ·rw [if_pos c2] at H
    have c2b0 : decide (x3_1 < (a0.size : Int)) = true := decide_eq_true c2; clear c2
    by_cases c3 : 0 ≤ x3_1
    ·rw [if_pos c3] at H
     have c3b0 : decide (0 ≤ x3_1) = true := decide_eq_true c3; clear c3
     by_cases c5 : (bt a0 x3_1) < 48
     ·rw [if_pos c5] at H
      have c5b0 : decide ((bt a0 x3_1) < 48) = true := decide_eq_true c5; clear c5
      obtain rfl := Option.some.inj H
      obtain ⟨p4, q4, hx4⟩ := btf_ a0 x3_1
      go_wp2
      go_ret
      exact ⟨sq4, sq7⟩
     rw [if_neg c5] at H
     have c5b0 : decide ((bt a0 x3_1) < 48) = false := decide_eq_false c5; clear c5
     by_cases c7 : (bt a0 x3_1) > 57
     ·rw [if_pos c7] at H
      have c7b0 : decide (57 < (bt a0 x3_1)) = true := decide_eq_true c7; clear c7
      obtain rfl := Option.some.inj H
      obtain ⟨p4, q4, hx4⟩ := btf_ a0 x3_1
      obtain ⟨p6, q6, hx6⟩ := btf_ a0 x3_1
      go_wp2
      go_ret
      exact ⟨sq4, sq7⟩
     rw [if_neg c7] at H
     have c7b0 : decide (57 < (bt a0 x3_1)) = false := decide_eq_false c7; clear c7
     have H' := Aside0.mk H
     clear H
     obtain ⟨p4, q4, hx4⟩ := btf_ a0 x3_1
     obtain ⟨p6, q6, hx6⟩ := btf_ a0 x3_1
     go_wp2
     go_roundg k1
     case measure => have := HK1.out; omega
     case rel => exact ⟨(wrap64 (x3_1 + 1)), sq4, H', ⟨by have := HK1.out; omega⟩, sq7⟩
    rw [if_neg c3] at H
    exact absurd H (by simp)
   rw [if_neg c2] at H
   have c2b0 : decide (x3_1 < (a0.size : Int)) = false := decide_eq_false c2; clear c2
   by_cases c8 : a0.toList = ([48] : List UInt8)
   ·rw [if_pos c8] at H
    have c8b0 : (a0.toList == ([48] : List UInt8)) = true := beq_iff_eq.mpr c8
    have c8b1 : (a0.toList != ([48] : List UInt8)) = false := bne_eq_false_iff_eq.mpr c8
    clear c8
    obtain rfl := Option.some.inj H
    go_wp2
    go_ret
    exact ⟨sq4, sq7⟩
   rw [if_neg c8] at H
   have c8b0 : (a0.toList == ([48] : List UInt8)) = false := beq_eq_false_iff_ne.mpr c8
   have c8b1 : (a0.toList != ([48] : List UInt8)) = true := bne_iff_ne.mpr c8
   by_cases c9 : a0.toList = ([] : List UInt8)
   ·rw [if_pos c9] at H
    have c9b0 : (a0.toList == ([] : List UInt8)) = true := beq_iff_eq.mpr c9
    have c9b1 : (a0.toList != ([] : List UInt8)) = false := bne_eq_false_iff_eq.mpr c9
    clear c9
    obtain rfl := Option.some.inj H
    go_wp2
    go_ret
    exact ⟨sq4, sq7⟩
   rw [if_neg c9] at H
   have c9b0 : (a0.toList == ([] : List UInt8)) = false := beq_eq_false_iff_ne.mpr c9
   have c9b1 : (a0.toList != ([] : List UInt8)) = true := bne_iff_ne.mpr c9
   by_cases c10 : 0 < (a0.size : Int)
   ·rw [if_pos c10] at H
    have c10b0 : decide (0 < (a0.size : Int)) = true := decide_eq_true c10
    have c10b1 : decide (0 < a0.size) = true := decide_eq_true (by omega)
    clear c10
    obtain rfl := Option.some.inj H
    have p11 : 0 ≤ (0 : Int) := (by omega)
    have q11 : 0 < a0.size := (by have : (0 : Int) < (a0.size : Int) := of_decide_eq_true sq5; omega)
    have hx11 : ∀ h : 0 < a0.size, ((a0[0]'h).toNat : Int) = bt a0 0 := bt_at a0 0
    clear p11
    have qi11 : (0 < (a0.size : Int)) = True := eq_true (of_decide_eq_true sq5)
    replace q11 := eq_true q11
    go_wp2
    go_ret
    exact ⟨sq4, sq7⟩
   rw [if_neg c10] at H
   exact absurd H (by simp)

end Go.Proofs.Ytaogejkmkalnlaa.PAll
