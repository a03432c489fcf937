-- Written by a program of this session (wip/tools/print2.sh): functions as plain Lean, and that the machine's calls do what they say.
import Derived.Test.YtaogejkmkalnlaaPAllx0
import Derived.Test.YtaogejkmkalnlaaPAllx2
namespace Go.Proofs.Ytaogejkmkalnlaa.PAll
open Go.RowKit Go.Proofs.YtaogejkmkalnlaaW.PrintWords Go.Proofs.YtaogejkmkalnlaaW.PrintLast Go.Proofs.YtaogejkmkalnlaaW.PrintMore
attribute [local go_sem] max2_int min2_int max_two min_two max_three min_three max_four min_four   -- for this text's walks alone
set_option linter.unusedVariables false
set_option linter.unusedSimpArgs false

/-! ### clause_form: function 16 -/
mutual
def clause_form.j0 : Nat → Bool → Bool → Bool → Int → Int → ByteArray → List (S43) → List (S43) → List (S43) → Option (Bool)
 | 0, _, _, _, _, _, _, _, _, _ => none
 | k + 1, x3, x4, x5, x133000, x133001, x133002, x133003, x133004, x133005 => if (x133003.length : Int) = 0 then (clause_form.j1 k x3 x4 x5 ((x133004.length : Int) == 0) x133000 x133001 x133002 x133003 x133004 x133005) else (clause_form.j1 k x3 x4 x5 false x133000 x133001 x133002 x133003 x133004 x133005)
def clause_form.j1 : Nat → Bool → Bool → Bool → Bool → Int → Int → ByteArray → List (S43) → List (S43) → List (S43) → Option (Bool)
 | 0, _, _, _, _, _, _, _, _, _, _ => none
 | k + 1, x3, x4, x5, x6, x133000, x133001, x133002, x133003, x133004, x133005 => if x133000 = 1 then ((clause_word.f x133002).bind fun t133 => (if t133 = true then (if x133001 ≥ 1 then (if x133001 ≤ 3 then (if x3 = true then (some (!x4)) else (if x6 = true then (some (!x4)) else (some false))) else (some false)) else (some false)) else (some false))) else (if x133000 = 2 then ((clause_word.f x133002).bind fun t134 => (if t134 = true then (if x133001 = 0 then (if x6 = true then (some x4) else (some false)) else (some false)) else (some false))) else (if x133000 = 3 then (if x5 = true then (if x6 = true then (some x4) else (some false)) else (some false)) else (if x133000 = 4 then (if x5 = true then (if x3 = true then (some x4) else (if x6 = true then (some x4) else (some false))) else (some false)) else (if x133000 = 5 then (if x5 = true then (if x3 = true then (some x4) else (if x6 = true then (some x4) else (some false))) else (some false)) else (if x133000 = 6 then (if x5 = true then (if x3 = true then (some x4) else (if x6 = true then (some x4) else (some false))) else (some false)) else (if x133000 = 7 then (if x5 = true then (if x3 = true then (some x4) else (if x6 = true then (some x4) else (some false))) else (some false)) else (some false)))))))
end
def clause_form.f (k : Nat) (a0_0 : Int) (a0_1 : Int) (a0_2 : ByteArray) (l0_3 : List (S43)) (l0_4 : List (S43)) (l0_5 : List (S43)) : Option (Bool) := if (l0_3.length : Int) > 0 then (if a0_2.toList = ([] : List UInt8) then (clause_form.j0 k (decide ((l0_4.length : Int) > 0)) (decide ((l0_5.length : Int) > 0)) (a0_1 == 0) a0_0 a0_1 a0_2 l0_3 l0_4 l0_5) else (clause_form.j0 k (decide ((l0_4.length : Int) > 0)) (decide ((l0_5.length : Int) > 0)) false a0_0 a0_1 a0_2 l0_3 l0_4 l0_5)) else (if a0_2.toList = ([] : List UInt8) then (clause_form.j0 k false (decide ((l0_5.length : Int) > 0)) (a0_1 == 0) a0_0 a0_1 a0_2 l0_3 l0_4 l0_5) else (clause_form.j0 k false (decide ((l0_5.length : Int) > 0)) false a0_0 a0_1 a0_2 l0_3 l0_4 l0_5))
theorem clause_form.mono_l : ∀ k, (∀ y0 y1 y2 y3 y4 y5 y6 y7 y8, LeO (clause_form.j0 k y0 y1 y2 y3 y4 y5 y6 y7 y8) (clause_form.j0 (k + 1) y0 y1 y2 y3 y4 y5 y6 y7 y8)) ∧ (∀ y0 y1 y2 y3 y4 y5 y6 y7 y8 y9, LeO (clause_form.j1 k y0 y1 y2 y3 y4 y5 y6 y7 y8 y9) (clause_form.j1 (k + 1) y0 y1 y2 y3 y4 y5 y6 y7 y8 y9))
 | 0 => ⟨fun _ _ _ _ _ _ _ _ _ r h => by simp [clause_form.j0] at h, fun _ _ _ _ _ _ _ _ _ _ r h => by simp [clause_form.j1] at h⟩
 | k + 1 => by
  obtain ⟨ih0, ih1⟩ := clause_form.mono_l k
  refine ⟨?_, ?_⟩
  ·intro y0 y1 y2 y3 y4 y5 y6 y7 y8
   unfold clause_form.j0
   exact sq95
  intro y0 y1 y2 y3 y4 y5 y6 y7 y8 y9
  unfold clause_form.j1
  exact sq95
theorem clause_form.mono : ∀ a0 a1 a2 a3 a4 a5 k, LeO (clause_form.f k a0 a1 a2 a3 a4 a5) (clause_form.f (k + 1) a0 a1 a2 a3 a4 a5) := by
 intro a0 a1 a2 a3 a4 a5 k
 obtain ⟨ih0, ih1⟩ := clause_form.mono_l k
 unfold clause_form.f
 exact sq95
set_option maxHeartbeats 8000000 in
set_option maxRecDepth 100000 in
theorem clause_form.calls (k : Nat) (a0_0 : Int) (a0_1 : Int) (a0_2 : ByteArray) (A0_3 : Option Addr) (c0_3 : Nat) (l0_3 : List (S43)) (A0_4 : Option Addr) (c0_4 : Nat) (l0_4 : List (S43)) (A0_5 : Option Addr) (c0_5 : Nat) (l0_5 : List (S43)) (r : Bool) (w : World) (hG : Glob w) (hr0_3 : Kd.C k43 w A0_3 l0_3.length l0_3) (hc0_3 : l0_3.length ≤ c0_3) (hr0_4 : Kd.C k43 w A0_4 l0_4.length l0_4) (hc0_4 : l0_4.length ≤ c0_4) (hr0_5 : Kd.C k43 w A0_5 l0_5.length l0_5) (hc0_5 : l0_5.length ≤ c0_5) (h : clause_form.f k a0_0 a0_1 a0_2 l0_3 l0_4 l0_5 = some r) :
  Calls Try.prog 16 #[.agg #[.int .i64 a0_0, .int .i64 a0_1, .string a0_2, .slice A0_3 l0_3.length c0_3, .slice A0_4 l0_4.length c0_4, .slice A0_5 l0_5.length c0_5]] w fun e w' => e = .returned (.bool r) ∧ Below w.heap.size w w' := by
 have hu41 := Try.underlying41
 have HR0_3 := Aside0.mk hr0_3
 have HC0_3 := Aside0.mk hc0_3
 clear hr0_3 hc0_3
 have HR0_4 := Aside0.mk hr0_4
 have HC0_4 := Aside0.mk hc0_4
 clear hr0_4 hc0_4
 have HR0_5 := Aside0.mk hr0_5
 have HC0_5 := Aside0.mk hc0_5
 clear hr0_5 hc0_5
 have HB := Aside0.mk (Below.refl w.heap.size w)
 have HG := Aside0.mk hG
 clear hG
 have H : (if (l0_3.length : Int) > 0 then (if a0_2.toList = ([] : List UInt8) then (clause_form.j0 k (decide ((l0_4.length : Int) > 0)) (decide ((l0_5.length : Int) > 0)) (a0_1 == 0) a0_0 a0_1 a0_2 l0_3 l0_4 l0_5) else (clause_form.j0 k (decide ((l0_4.length : Int) > 0)) (decide ((l0_5.length : Int) > 0)) false a0_0 a0_1 a0_2 l0_3 l0_4 l0_5)) else (if a0_2.toList = ([] : List UInt8) then (clause_form.j0 k false (decide ((l0_5.length : Int) > 0)) (a0_1 == 0) a0_0 a0_1 a0_2 l0_3 l0_4 l0_5) else (clause_form.j0 k false (decide ((l0_5.length : Int) > 0)) false a0_0 a0_1 a0_2 l0_3 l0_4 l0_5))) = some r := h
 clear h
 have HC2 := Aside0.mk H
 clear H
 go_enter Try.func16, Try.ntmps16
 go_upto_region 1 with (first | ((with_reducible refine gate_dst (N := 1) rfl ?_); (try (refine gate_guard (by rfl) ?_; dsimp only)); refine box_event ?hg (N := 1) ?hd (cs := #[.int .i64 a0_0, .int .i64 a0_1, .string a0_2, .slice A0_3 l0_3.length c0_3, .slice A0_4 l0_4.length c0_4, .slice A0_5 l0_5.length c0_5]) (t := 41) ?hr ?_; (case hd => rfl); (case hg => rfl); (case hr => first | (go_simp; done) | (go_simp; rfl)); intro gb132 hg w3 hbox hb; have n0_ := Aside0.mk (below_step sq55 hb); have n1_ := Aside0.mk (hbox); have n2_ := Aside0.mk ((by rw [hg]; exact (below_size sq55) : w.heap.size ≤ gb132)); have n3_ := Aside0.mk ((by rw [hg]; exact (below_size sq55) : w.heap.size ≤ gb132)); clear HB; have HB := n0_; have BK132 := n1_; have GW132 := n2_; have GE132 := n3_; clear n0_ n1_ n2_ n3_; clear hb hbox hg))
 repeat (go_quiet (first | ((with_reducible refine gate_dst (N := 1) rfl ?_); (try (refine gate_guard (by rfl) ?_; dsimp only)); refine box_event ?hg (N := 1) ?hd (cs := #[.int .i64 a0_0, .int .i64 a0_1, .string a0_2, .slice A0_3 l0_3.length c0_3, .slice A0_4 l0_4.length c0_4, .slice A0_5 l0_5.length c0_5]) (t := 41) ?hr ?_; (case hd => rfl); (case hg => rfl); (case hr => first | (go_simp; done) | (go_simp; rfl)); intro gb132 hg w3 hbox hb; have n0_ := Aside0.mk (below_step sq55 hb); have n1_ := Aside0.mk (hbox); have n2_ := Aside0.mk ((by rw [hg]; exact (below_size sq55) : w.heap.size ≤ gb132)); have n3_ := Aside0.mk ((by rw [hg]; exact (below_size sq55) : w.heap.size ≤ gb132)); clear HB; have HB := n0_; have BK132 := n1_; have GW132 := n2_; have GE132 := n3_; clear n0_ n1_ n2_ n3_; clear hb hbox hg)); go_upto_region 1 with (first | ((with_reducible refine gate_dst (N := 1) rfl ?_); (try (refine gate_guard (by rfl) ?_; dsimp only)); refine box_event ?hg (N := 1) ?hd (cs := #[.int .i64 a0_0, .int .i64 a0_1, .string a0_2, .slice A0_3 l0_3.length c0_3, .slice A0_4 l0_4.length c0_4, .slice A0_5 l0_5.length c0_5]) (t := 41) ?hr ?_; (case hd => rfl); (case hg => rfl); (case hr => first | (go_simp; done) | (go_simp; rfl)); intro gb132 hg w3 hbox hb; have n0_ := Aside0.mk (below_step sq55 hb); have n1_ := Aside0.mk (hbox); have n2_ := Aside0.mk ((by rw [hg]; exact (below_size sq55) : w.heap.size ≤ gb132)); have n3_ := Aside0.mk ((by rw [hg]; exact (below_size sq55) : w.heap.size ≤ gb132)); clear HB; have HB := n0_; have BK132 := n1_; have GW132 := n2_; have GE132 := n3_; clear n0_ n1_ n2_ n3_; clear hb hbox hg)))
 (try simp only [Act.put, List.setIfInBounds_toArray, List.set_cons_zero, List.set_cons_succ])
 go_cut [3, 4, 5] (fun v3 v4 v5 wc => ∃ (kq : Nat) (x3_1 : Bool) (x4_1 : Bool) (x5_1 : Bool), v3 = .bool x3_1 ∧ v4 = .bool x4_1 ∧ v5 = .bool x5_1 ∧ Aside0 (clause_form.j0 kq x3_1 x4_1 x5_1 a0_0 a0_1 a0_2 l0_3 l0_4 l0_5 = some r) ∧ Aside0 (kq ≤ k) ∧ Aside0 (wc.heap[gb132]? = some (.cells #[.int .i64 a0_0, .int .i64 a0_1, .string a0_2, (.slice A0_3 l0_3.length c0_3), (.slice A0_4 l0_4.length c0_4), (.slice A0_5 l0_5.length c0_5)] 41 (0, 0))) ∧ Aside0 (Below w.heap.size w wc))
 case first =>
  have H := HC2.out
  clear HC2
  by_cases c4 : (l0_3.length : Int) > 0
  ·rw [if_pos c4] at H
   have c4b0 : decide (0 < (l0_3.length : Int)) = true := decide_eq_true c4
   have c4b1 : decide (0 < l0_3.length) = true := decide_eq_true (by omega)
   clear c4
   (first | rw [c4b0] | (simp only [i64_w, i32_w]; rw [c4b0]) | skip)
   by_cases c5 : a0_2.toList = ([] : List UInt8)
   ·rw [if_pos c5] at H
    have c5b0 : (a0_2.toList == ([] : List UInt8)) = true := beq_iff_eq.mpr c5
    have c5b1 : (a0_2.toList != ([] : List UInt8)) = false := bne_eq_false_iff_eq.mpr c5
    clear c5
    have H' := Aside0.mk H
    clear H
    have hcz6_0 : w3.cell? ⟨gb132, 0, none⟩ = some (.int .i64 a0_0) := (blk_cell BK132.out 0).trans rfl
    have hcz6_1 : w3.cell? ⟨gb132, 1, none⟩ = some (.int .i64 a0_1) := (blk_cell BK132.out 1).trans rfl
    have hcz6_2 : w3.cell? ⟨gb132, 2, none⟩ = some (.string a0_2) := (blk_cell BK132.out 2).trans rfl
    have hcz6_3 : w3.cell? ⟨gb132, 3, none⟩ = some (.slice A0_3 l0_3.length c0_3) := (blk_cell BK132.out 3).trans rfl
    have hcz6_4 : w3.cell? ⟨gb132, 4, none⟩ = some (.slice A0_4 l0_4.length c0_4) := (blk_cell BK132.out 4).trans rfl
    have hcz6_5 : w3.cell? ⟨gb132, 5, none⟩ = some (.slice A0_5 l0_5.length c0_5) := (blk_cell BK132.out 5).trans rfl
    have hfz6_0 := blk_frozen BK132.out 0
    have hfz6_1 := blk_frozen BK132.out 1
    have hfz6_2 := blk_frozen BK132.out 2
    have hfz6_3 := blk_frozen BK132.out 3
    have hfz6_4 := blk_frozen BK132.out 4
    have hfz6_5 := blk_frozen BK132.out 5
    go_wp2
    repeat (go_quiet (fail); try go_wp2)
    go_meet
    case rel => exact ⟨_, (decide ((l0_4.length : Int) > 0)), (decide ((l0_5.length : Int) > 0)), ((a0_1 == 0)), sq4, sq4, sq4, H', ⟨sq2⟩, ⟨sq41⟩, ⟨sq63⟩⟩
   rw [if_neg c5] at H
   have c5b0 : (a0_2.toList == ([] : List UInt8)) = false := beq_eq_false_iff_ne.mpr c5
   have c5b1 : (a0_2.toList != ([] : List UInt8)) = true := bne_iff_ne.mpr c5
   have H' := Aside0.mk H
   clear H
   have hcz7_0 : w3.cell? ⟨gb132, 0, none⟩ = some (.int .i64 a0_0) := (blk_cell BK132.out 0).trans rfl
   have hcz7_1 : w3.cell? ⟨gb132, 1, none⟩ = some (.int .i64 a0_1) := (blk_cell BK132.out 1).trans rfl
   have hcz7_2 : w3.cell? ⟨gb132, 2, none⟩ = some (.string a0_2) := (blk_cell BK132.out 2).trans rfl
   have hcz7_3 : w3.cell? ⟨gb132, 3, none⟩ = some (.slice A0_3 l0_3.length c0_3) := (blk_cell BK132.out 3).trans rfl
   have hcz7_4 : w3.cell? ⟨gb132, 4, none⟩ = some (.slice A0_4 l0_4.length c0_4) := (blk_cell BK132.out 4).trans rfl
   have hcz7_5 : w3.cell? ⟨gb132, 5, none⟩ = some (.slice A0_5 l0_5.length c0_5) := (blk_cell BK132.out 5).trans rfl
   have hfz7_0 := blk_frozen BK132.out 0
   have hfz7_1 := blk_frozen BK132.out 1
   have hfz7_2 := blk_frozen BK132.out 2
   have hfz7_3 := blk_frozen BK132.out 3
   have hfz7_4 := blk_frozen BK132.out 4
   have hfz7_5 := blk_frozen BK132.out 5
   go_wp2
   repeat (go_quiet (fail); try go_wp2)
   go_meet
   case rel => exact ⟨_, (decide ((l0_4.length : Int) > 0)), (decide ((l0_5.length : Int) > 0)), (false), sq4, sq4, sq4, H', ⟨sq2⟩, ⟨sq41⟩, ⟨sq63⟩⟩
  rw [if_neg c4] at H
  have c4b0 : decide (0 < (l0_3.length : Int)) = false := decide_eq_false c4
  have c4b1 : decide (0 < l0_3.length) = false := decide_eq_false (by omega)
  clear c4
  (first | rw [c4b0] | (simp only [i64_w, i32_w]; rw [c4b0]) | skip)
  by_cases c8 : a0_2.toList = ([] : List UInt8)
  ·rw [if_pos c8] at H
   have c8b0 : (a0_2.toList == ([] : List UInt8)) = true := beq_iff_eq.mpr c8
   have c8b1 : (a0_2.toList != ([] : List UInt8)) = false := bne_eq_false_iff_eq.mpr c8
   clear c8
   have H' := Aside0.mk H
   clear H
   have hcz9_0 : w3.cell? ⟨gb132, 0, none⟩ = some (.int .i64 a0_0) := (blk_cell BK132.out 0).trans rfl
   have hcz9_1 : w3.cell? ⟨gb132, 1, none⟩ = some (.int .i64 a0_1) := (blk_cell BK132.out 1).trans rfl
   have hcz9_2 : w3.cell? ⟨gb132, 2, none⟩ = some (.string a0_2) := (blk_cell BK132.out 2).trans rfl
   have hcz9_3 : w3.cell? ⟨gb132, 3, none⟩ = some (.slice A0_3 l0_3.length c0_3) := (blk_cell BK132.out 3).trans rfl
   have hcz9_4 : w3.cell? ⟨gb132, 4, none⟩ = some (.slice A0_4 l0_4.length c0_4) := (blk_cell BK132.out 4).trans rfl
   have hcz9_5 : w3.cell? ⟨gb132, 5, none⟩ = some (.slice A0_5 l0_5.length c0_5) := (blk_cell BK132.out 5).trans rfl
   have hfz9_0 := blk_frozen BK132.out 0
   have hfz9_1 := blk_frozen BK132.out 1
   have hfz9_2 := blk_frozen BK132.out 2
   have hfz9_3 := blk_frozen BK132.out 3
   have hfz9_4 := blk_frozen BK132.out 4
   have hfz9_5 := blk_frozen BK132.out 5
   go_wp2
   repeat (go_quiet (fail); try go_wp2)
   go_meet
   case rel => exact ⟨_, (false), (decide ((l0_5.length : Int) > 0)), ((a0_1 == 0)), sq4, sq4, sq4, H', ⟨sq2⟩, ⟨sq41⟩, ⟨sq63⟩⟩
  rw [if_neg c8] at H
  have c8b0 : (a0_2.toList == ([] : List UInt8)) = false := beq_eq_false_iff_ne.mpr c8
  have c8b1 : (a0_2.toList != ([] : List UInt8)) = true := bne_iff_ne.mpr c8
  have H' := Aside0.mk H
  clear H
  have hcz10_0 : w3.cell? ⟨gb132, 0, none⟩ = some (.int .i64 a0_0) := (blk_cell BK132.out 0).trans rfl
  have hcz10_1 : w3.cell? ⟨gb132, 1, none⟩ = some (.int .i64 a0_1) := (blk_cell BK132.out 1).trans rfl
  have hcz10_2 : w3.cell? ⟨gb132, 2, none⟩ = some (.string a0_2) := (blk_cell BK132.out 2).trans rfl
  have hcz10_3 : w3.cell? ⟨gb132, 3, none⟩ = some (.slice A0_3 l0_3.length c0_3) := (blk_cell BK132.out 3).trans rfl
  have hcz10_4 : w3.cell? ⟨gb132, 4, none⟩ = some (.slice A0_4 l0_4.length c0_4) := (blk_cell BK132.out 4).trans rfl
  have hcz10_5 : w3.cell? ⟨gb132, 5, none⟩ = some (.slice A0_5 l0_5.length c0_5) := (blk_cell BK132.out 5).trans rfl
  have hfz10_0 := blk_frozen BK132.out 0
  have hfz10_1 := blk_frozen BK132.out 1
  have hfz10_2 := blk_frozen BK132.out 2
  have hfz10_3 := blk_frozen BK132.out 3
  have hfz10_4 := blk_frozen BK132.out 4
  have hfz10_5 := blk_frozen BK132.out 5
  go_wp2
  repeat (go_quiet (fail); try go_wp2)
  go_meet
  case rel => exact ⟨_, (false), (decide ((l0_5.length : Int) > 0)), (false), sq4, sq4, sq4, H', ⟨sq2⟩, ⟨sq41⟩, ⟨sq63⟩⟩
 case rest =>
  clear HC2; try clear c1; try clear p2; try clear c4; try clear c4b0; try clear c4b1; try clear c5; try clear c5b0; try clear c5b1; try clear c8; try clear c8b0; try clear c8b1; try clear hcz10_0; try clear hcz10_1; try clear hcz10_2; try clear hcz10_3; try clear hcz10_4; try clear hcz10_5; try clear hcz6_0; try clear hcz6_1; try clear hcz6_2; try clear hcz6_3; try clear hcz6_4; try clear hcz6_5; try clear hcz7_0; try clear hcz7_1; try clear hcz7_2; try clear hcz7_3; try clear hcz7_4; try clear hcz7_5; try clear hcz9_0; try clear hcz9_1; try clear hcz9_2; try clear hcz9_3; try clear hcz9_4; try clear hcz9_5; try clear hfz10_0; try clear hfz10_1; try clear hfz10_2; try clear hfz10_3; try clear hfz10_4; try clear hfz10_5; try clear hfz6_0; try clear hfz6_1; try clear hfz6_2; try clear hfz6_3; try clear hfz6_4; try clear hfz6_5; try clear hfz7_0; try clear hfz7_1; try clear hfz7_2; try clear hfz7_3; try clear hfz7_4; try clear hfz7_5; try clear hfz9_0; try clear hfz9_1; try clear hfz9_2; try clear hfz9_3; try clear hfz9_4; try clear hfz9_5
  obtain ⟨kq, x3_1, x4_1, x5_1, rfl, rfl, rfl, HA, HJ1, BK132, HB⟩ := hcut
  cases kq with
  | zero => exact absurd HA.out (by simp [clause_form.j0])
  | succ kj1 =>
   have H := HA.out
   clear HA
   simp only [clause_form.j0] at H
   have HC11 := Aside0.mk H
   clear H
   go_upto_region 2 with (fail)
   repeat (go_quiet (fail); go_upto_region 2 with (fail))
   go_cut [6] (fun v6 wc => ∃ (kq : Nat) (x6_10 : Bool), v6 = .bool x6_10 ∧ Aside0 (clause_form.j1 kq x3_1 x4_1 x5_1 x6_10 a0_0 a0_1 a0_2 l0_3 l0_4 l0_5 = some r) ∧ Aside0 (kq ≤ kj1) ∧ Aside0 (wc.heap[gb132]? = some (.cells #[.int .i64 a0_0, .int .i64 a0_1, .string a0_2, (.slice A0_3 l0_3.length c0_3), (.slice A0_4 l0_4.length c0_4), (.slice A0_5 l0_5.length c0_5)] 41 (0, 0))) ∧ Aside0 (Below w.heap.size w wc))
   case first =>
    have H := HC11.out
    clear HC11
    by_cases c12 : (l0_3.length : Int) = 0
    ·rw [if_pos c12] at H
     have c12b0 : ((l0_3.length : Int) == 0) = true := beq_iff_eq.mpr c12
     have c12b1 : ((l0_3.length : Int) != 0) = false := bne_eq_false_iff_eq.mpr c12
     clear c12
     (first | rw [c12b0] | (simp only [i64_w, i32_w]; rw [c12b0]) | skip)
     have H' := Aside0.mk H
     clear H
     have hcz13_0 : wc.cell? ⟨gb132, 0, none⟩ = some (.int .i64 a0_0) := (blk_cell BK132.out 0).trans rfl
     have hcz13_1 : wc.cell? ⟨gb132, 1, none⟩ = some (.int .i64 a0_1) := (blk_cell BK132.out 1).trans rfl
     have hcz13_2 : wc.cell? ⟨gb132, 2, none⟩ = some (.string a0_2) := (blk_cell BK132.out 2).trans rfl
     have hcz13_3 : wc.cell? ⟨gb132, 3, none⟩ = some (.slice A0_3 l0_3.length c0_3) := (blk_cell BK132.out 3).trans rfl
     have hcz13_4 : wc.cell? ⟨gb132, 4, none⟩ = some (.slice A0_4 l0_4.length c0_4) := (blk_cell BK132.out 4).trans rfl
     have hcz13_5 : wc.cell? ⟨gb132, 5, none⟩ = some (.slice A0_5 l0_5.length c0_5) := (blk_cell BK132.out 5).trans rfl
     have hfz13_0 := blk_frozen BK132.out 0
     have hfz13_1 := blk_frozen BK132.out 1
     have hfz13_2 := blk_frozen BK132.out 2
     have hfz13_3 := blk_frozen BK132.out 3
     have hfz13_4 := blk_frozen BK132.out 4
     have hfz13_5 := blk_frozen BK132.out 5
     go_wp2
     repeat (go_quiet (fail); try go_wp2)
     go_meet
     case rel => exact ⟨_, (((l0_4.length : Int) == 0)), sq4, H', ⟨sq6⟩, ⟨sq41⟩, ⟨sq63⟩⟩
    rw [if_neg c12] at H
    have c12b0 : ((l0_3.length : Int) == 0) = false := beq_eq_false_iff_ne.mpr c12
    have c12b1 : ((l0_3.length : Int) != 0) = true := bne_iff_ne.mpr c12
    have c12b2 : ¬ (l0_3 = []) := fun h_ => c12 (by rw [h_]; rfl)
    (first | rw [c12b0] | (simp only [i64_w, i32_w]; rw [c12b0]) | skip)
    have H' := Aside0.mk H
    clear H
    have hcz14_0 : wc.cell? ⟨gb132, 0, none⟩ = some (.int .i64 a0_0) := (blk_cell BK132.out 0).trans rfl
    have hcz14_1 : wc.cell? ⟨gb132, 1, none⟩ = some (.int .i64 a0_1) := (blk_cell BK132.out 1).trans rfl
    have hcz14_2 : wc.cell? ⟨gb132, 2, none⟩ = some (.string a0_2) := (blk_cell BK132.out 2).trans rfl
    have hcz14_3 : wc.cell? ⟨gb132, 3, none⟩ = some (.slice A0_3 l0_3.length c0_3) := (blk_cell BK132.out 3).trans rfl
    have hcz14_4 : wc.cell? ⟨gb132, 4, none⟩ = some (.slice A0_4 l0_4.length c0_4) := (blk_cell BK132.out 4).trans rfl
    have hcz14_5 : wc.cell? ⟨gb132, 5, none⟩ = some (.slice A0_5 l0_5.length c0_5) := (blk_cell BK132.out 5).trans rfl
    have hfz14_0 := blk_frozen BK132.out 0
    have hfz14_1 := blk_frozen BK132.out 1
    have hfz14_2 := blk_frozen BK132.out 2
    have hfz14_3 := blk_frozen BK132.out 3
    have hfz14_4 := blk_frozen BK132.out 4
    have hfz14_5 := blk_frozen BK132.out 5
    go_wp2
    repeat (go_quiet (fail); try go_wp2)
    go_meet
    case rel => exact ⟨_, (false), sq4, H', ⟨sq6⟩, ⟨sq41⟩, ⟨sq63⟩⟩
   case rest =>
    clear HC11; try clear c1; try clear p2; try clear c4; try clear c4b0; try clear c4b1; try clear c5; try clear c5b0; try clear c5b1; try clear c8; try clear c8b0; try clear c8b1; try clear c12; try clear c12b0; try clear c12b1; try clear c12b2; try clear hcz10_0; try clear hcz10_1; try clear hcz10_2; try clear hcz10_3; try clear hcz10_4; try clear hcz10_5; try clear hcz13_0; try clear hcz13_1; try clear hcz13_2; try clear hcz13_3; try clear hcz13_4; try clear hcz13_5; try clear hcz14_0; try clear hcz14_1; try clear hcz14_2; try clear hcz14_3; try clear hcz14_4; try clear hcz14_5; try clear hcz6_0; try clear hcz6_1; try clear hcz6_2; try clear hcz6_3; try clear hcz6_4; try clear hcz6_5; try clear hcz7_0; try clear hcz7_1; try clear hcz7_2; try clear hcz7_3; try clear hcz7_4; try clear hcz7_5; try clear hcz9_0; try clear hcz9_1; try clear hcz9_2; try clear hcz9_3; try clear hcz9_4; try clear hcz9_5; try clear hfz10_0; try clear hfz10_1; try clear hfz10_2; try clear hfz10_3; try clear hfz10_4; try clear hfz10_5; try clear hfz13_0; try clear hfz13_1; try clear hfz13_2; try clear hfz13_3; try clear hfz13_4; try clear hfz13_5; try clear hfz14_0; try clear hfz14_1; try clear hfz14_2; try clear hfz14_3; try clear hfz14_4; try clear hfz14_5; try clear hfz6_0; try clear hfz6_1; try clear hfz6_2; try clear hfz6_3; try clear hfz6_4; try clear hfz6_5; try clear hfz7_0; try clear hfz7_1; try clear hfz7_2; try clear hfz7_3; try clear hfz7_4; try clear hfz7_5; try clear hfz9_0; try clear hfz9_1; try clear hfz9_2; try clear hfz9_3; try clear hfz9_4; try clear hfz9_5; try clear p2
    obtain ⟨kq, x6_10, rfl, HA, HJ10, BK132, HB⟩ := hcut
    cases kq with
    | zero => exact absurd HA.out (by simp [clause_form.j1])
    | succ kj10 =>
     have H := HA.out
     clear HA
     simp only [clause_form.j1] at H
     by_cases c15 : a0_0 = 1
     ·rw [if_pos c15] at H
      have c15b0 : (a0_0 == 1) = true := beq_iff_eq.mpr c15
      have c15b1 : (a0_0 != 1) = false := bne_eq_false_iff_eq.mpr c15
      clear c15
      replace H := Option.bind_eq_some_iff.mp H
      obtain ⟨t133, A160, H⟩ := H
      replace H : (if t133 = true then (if a0_1 ≥ 1 then (if a0_1 ≤ 3 then (if x3_1 = true then (some (!x4_1)) else (if x6_10 = true then (some (!x4_1)) else (some false))) else (some false)) else (some false)) else (some false)) = some r := H
      have A16 := Aside0.mk A160
      clear A160
      by_cases c17 : t133 = true
      ·subst c17
       replace H := (itT_ _ _).symm.trans H
       by_cases c18 : a0_1 ≥ 1
       ·rw [if_pos c18] at H
        have c18b0 : decide (1 ≤ a0_1) = true := decide_eq_true c18; clear c18
        by_cases c19 : a0_1 ≤ 3
        ·rw [if_pos c19] at H
         have c19b0 : decide (a0_1 ≤ 3) = true := decide_eq_true c19; clear c19
         by_cases c20 : x3_1 = true
         ·subst c20
          replace H := (itT_ _ _).symm.trans H
          obtain rfl := Option.some.inj H
          have hcz21_0 : wc.cell? ⟨gb132, 0, none⟩ = some (.int .i64 a0_0) := (blk_cell BK132.out 0).trans rfl
          have hcz21_1 : wc.cell? ⟨gb132, 1, none⟩ = some (.int .i64 a0_1) := (blk_cell BK132.out 1).trans rfl
          have hcz21_2 : wc.cell? ⟨gb132, 2, none⟩ = some (.string a0_2) := (blk_cell BK132.out 2).trans rfl
          have hcz21_3 : wc.cell? ⟨gb132, 3, none⟩ = some (.slice A0_3 l0_3.length c0_3) := (blk_cell BK132.out 3).trans rfl
          have hcz21_4 : wc.cell? ⟨gb132, 4, none⟩ = some (.slice A0_4 l0_4.length c0_4) := (blk_cell BK132.out 4).trans rfl
          have hcz21_5 : wc.cell? ⟨gb132, 5, none⟩ = some (.slice A0_5 l0_5.length c0_5) := (blk_cell BK132.out 5).trans rfl
          have hfz21_0 := blk_frozen BK132.out 0
          have hfz21_1 := blk_frozen BK132.out 1
          have hfz21_2 := blk_frozen BK132.out 2
          have hfz21_3 := blk_frozen BK132.out 3
          have hfz21_4 := blk_frozen BK132.out 4
          have hfz21_5 := blk_frozen BK132.out 5
          go_wp2_with (first | (go_at_call 29; (with_reducible refine (clause_word.calls a0_2 true _ ?side1 A16.out).mono ?_); (case side1 => exact Glob.below HG.out sq63); rintro e w' ⟨rfl, ⟨nd, rfl⟩⟩; (try first | exact ⟨rfl, _, World.drewN_drewN _ _ _⟩ | exact ⟨rfl, _, Eq.trans (World.drewN_drewN _ _ _) (congrArg (World.drewN _) (Nat.add_assoc _ _ _))⟩)))
          repeat (go_quiet (first | (go_at_call 29; (with_reducible refine (clause_word.calls a0_2 true _ ?side1 A16.out).mono ?_); (case side1 => exact Glob.below HG.out sq63); rintro e w' ⟨rfl, ⟨nd, rfl⟩⟩; (try first | exact ⟨rfl, _, World.drewN_drewN _ _ _⟩ | exact ⟨rfl, _, Eq.trans (World.drewN_drewN _ _ _) (congrArg (World.drewN _) (Nat.add_assoc _ _ _))⟩))); try go_wp2_with (first | (go_at_call 29; (with_reducible refine (clause_word.calls a0_2 true _ ?side1 A16.out).mono ?_); (case side1 => exact Glob.below HG.out sq63); rintro e w' ⟨rfl, ⟨nd, rfl⟩⟩; (try first | exact ⟨rfl, _, World.drewN_drewN _ _ _⟩ | exact ⟨rfl, _, Eq.trans (World.drewN_drewN _ _ _) (congrArg (World.drewN _) (Nat.add_assoc _ _ _))⟩))))
          go_ret
          exact ⟨sq23, sq63⟩
         replace c20 := Bool.eq_false_iff.mpr c20
         subst c20
         replace H := (itF_ _ _).symm.trans H
         by_cases c22 : x6_10 = true
         ·subst c22
          replace H := (itT_ _ _).symm.trans H
          obtain rfl := Option.some.inj H
          have hcz23_0 : wc.cell? ⟨gb132, 0, none⟩ = some (.int .i64 a0_0) := (blk_cell BK132.out 0).trans rfl
          have hcz23_1 : wc.cell? ⟨gb132, 1, none⟩ = some (.int .i64 a0_1) := (blk_cell BK132.out 1).trans rfl
          have hcz23_2 : wc.cell? ⟨gb132, 2, none⟩ = some (.string a0_2) := (blk_cell BK132.out 2).trans rfl
          have hcz23_3 : wc.cell? ⟨gb132, 3, none⟩ = some (.slice A0_3 l0_3.length c0_3) := (blk_cell BK132.out 3).trans rfl
          have hcz23_4 : wc.cell? ⟨gb132, 4, none⟩ = some (.slice A0_4 l0_4.length c0_4) := (blk_cell BK132.out 4).trans rfl
          have hcz23_5 : wc.cell? ⟨gb132, 5, none⟩ = some (.slice A0_5 l0_5.length c0_5) := (blk_cell BK132.out 5).trans rfl
          have hfz23_0 := blk_frozen BK132.out 0
          have hfz23_1 := blk_frozen BK132.out 1
          have hfz23_2 := blk_frozen BK132.out 2
          have hfz23_3 := blk_frozen BK132.out 3
          have hfz23_4 := blk_frozen BK132.out 4
          have hfz23_5 := blk_frozen BK132.out 5
          go_wp2_with (first | (go_at_call 29; (with_reducible refine (clause_word.calls a0_2 true _ ?side1 A16.out).mono ?_); (case side1 => exact Glob.below HG.out sq63); rintro e w' ⟨rfl, ⟨nd, rfl⟩⟩; (try first | exact ⟨rfl, _, World.drewN_drewN _ _ _⟩ | exact ⟨rfl, _, Eq.trans (World.drewN_drewN _ _ _) (congrArg (World.drewN _) (Nat.add_assoc _ _ _))⟩)))
          repeat (go_quiet (first | (go_at_call 29; (with_reducible refine (clause_word.calls a0_2 true _ ?side1 A16.out).mono ?_); (case side1 => exact Glob.below HG.out sq63); rintro e w' ⟨rfl, ⟨nd, rfl⟩⟩; (try first | exact ⟨rfl, _, World.drewN_drewN _ _ _⟩ | exact ⟨rfl, _, Eq.trans (World.drewN_drewN _ _ _) (congrArg (World.drewN _) (Nat.add_assoc _ _ _))⟩))); try go_wp2_with (first | (go_at_call 29; (with_reducible refine (clause_word.calls a0_2 true _ ?side1 A16.out).mono ?_); (case side1 => exact Glob.below HG.out sq63); rintro e w' ⟨rfl, ⟨nd, rfl⟩⟩; (try first | exact ⟨rfl, _, World.drewN_drewN _ _ _⟩ | exact ⟨rfl, _, Eq.trans (World.drewN_drewN _ _ _) (congrArg (World.drewN _) (Nat.add_assoc _ _ _))⟩))))
          go_ret
          exact ⟨sq23, sq63⟩
         replace c22 := Bool.eq_false_iff.mpr c22
         subst c22
         replace H := (itF_ _ _).symm.trans H
         obtain rfl := Option.some.inj H
         have hcz24_0 : wc.cell? ⟨gb132, 0, none⟩ = some (.int .i64 a0_0) := (blk_cell BK132.out 0).trans rfl
         have hcz24_1 : wc.cell? ⟨gb132, 1, none⟩ = some (.int .i64 a0_1) := (blk_cell BK132.out 1).trans rfl
         have hcz24_2 : wc.cell? ⟨gb132, 2, none⟩ = some (.string a0_2) := (blk_cell BK132.out 2).trans rfl
         have hcz24_3 : wc.cell? ⟨gb132, 3, none⟩ = some (.slice A0_3 l0_3.length c0_3) := (blk_cell BK132.out 3).trans rfl
         have hcz24_4 : wc.cell? ⟨gb132, 4, none⟩ = some (.slice A0_4 l0_4.length c0_4) := (blk_cell BK132.out 4).trans rfl
         have hcz24_5 : wc.cell? ⟨gb132, 5, none⟩ = some (.slice A0_5 l0_5.length c0_5) := (blk_cell BK132.out 5).trans rfl
         have hfz24_0 := blk_frozen BK132.out 0
         have hfz24_1 := blk_frozen BK132.out 1
         have hfz24_2 := blk_frozen BK132.out 2
         have hfz24_3 := blk_frozen BK132.out 3
         have hfz24_4 := blk_frozen BK132.out 4
         have hfz24_5 := blk_frozen BK132.out 5
         go_wp2_with (first | (go_at_call 29; (with_reducible refine (clause_word.calls a0_2 true _ ?side1 A16.out).mono ?_); (case side1 => exact Glob.below HG.out sq63); rintro e w' ⟨rfl, ⟨nd, rfl⟩⟩; (try first | exact ⟨rfl, _, World.drewN_drewN _ _ _⟩ | exact ⟨rfl, _, Eq.trans (World.drewN_drewN _ _ _) (congrArg (World.drewN _) (Nat.add_assoc _ _ _))⟩)))
         repeat (go_quiet (first | (go_at_call 29; (with_reducible refine (clause_word.calls a0_2 true _ ?side1 A16.out).mono ?_); (case side1 => exact Glob.below HG.out sq63); rintro e w' ⟨rfl, ⟨nd, rfl⟩⟩; (try first | exact ⟨rfl, _, World.drewN_drewN _ _ _⟩ | exact ⟨rfl, _, Eq.trans (World.drewN_drewN _ _ _) (congrArg (World.drewN _) (Nat.add_assoc _ _ _))⟩))); try go_wp2_with (first | (go_at_call 29; (with_reducible refine (clause_word.calls a0_2 true _ ?side1 A16.out).mono ?_); (case side1 => exact Glob.below HG.out sq63); rintro e w' ⟨rfl, ⟨nd, rfl⟩⟩; (try first | exact ⟨rfl, _, World.drewN_drewN _ _ _⟩ | exact ⟨rfl, _, Eq.trans (World.drewN_drewN _ _ _) (congrArg (World.drewN _) (Nat.add_assoc _ _ _))⟩))))
         go_ret
         exact ⟨sq23, sq63⟩
        rw [if_neg c19] at H
        have c19b0 : decide (a0_1 ≤ 3) = false := decide_eq_false c19; clear c19
        obtain rfl := Option.some.inj H
        have hcz25_0 : wc.cell? ⟨gb132, 0, none⟩ = some (.int .i64 a0_0) := (blk_cell BK132.out 0).trans rfl
        have hcz25_1 : wc.cell? ⟨gb132, 1, none⟩ = some (.int .i64 a0_1) := (blk_cell BK132.out 1).trans rfl
        have hcz25_2 : wc.cell? ⟨gb132, 2, none⟩ = some (.string a0_2) := (blk_cell BK132.out 2).trans rfl
        have hcz25_3 : wc.cell? ⟨gb132, 3, none⟩ = some (.slice A0_3 l0_3.length c0_3) := (blk_cell BK132.out 3).trans rfl
        have hcz25_4 : wc.cell? ⟨gb132, 4, none⟩ = some (.slice A0_4 l0_4.length c0_4) := (blk_cell BK132.out 4).trans rfl
        have hcz25_5 : wc.cell? ⟨gb132, 5, none⟩ = some (.slice A0_5 l0_5.length c0_5) := (blk_cell BK132.out 5).trans rfl
        have hfz25_0 := blk_frozen BK132.out 0
        have hfz25_1 := blk_frozen BK132.out 1
        have hfz25_2 := blk_frozen BK132.out 2
        have hfz25_3 := blk_frozen BK132.out 3
        have hfz25_4 := blk_frozen BK132.out 4
        have hfz25_5 := blk_frozen BK132.out 5
        go_wp2_with (first | (go_at_call 29; (with_reducible refine (clause_word.calls a0_2 true _ ?side1 A16.out).mono ?_); (case side1 => exact Glob.below HG.out sq63); rintro e w' ⟨rfl, ⟨nd, rfl⟩⟩; (try first | exact ⟨rfl, _, World.drewN_drewN _ _ _⟩ | exact ⟨rfl, _, Eq.trans (World.drewN_drewN _ _ _) (congrArg (World.drewN _) (Nat.add_assoc _ _ _))⟩)))
        repeat (go_quiet (first | (go_at_call 29; (with_reducible refine (clause_word.calls a0_2 true _ ?side1 A16.out).mono ?_); (case side1 => exact Glob.below HG.out sq63); rintro e w' ⟨rfl, ⟨nd, rfl⟩⟩; (try first | exact ⟨rfl, _, World.drewN_drewN _ _ _⟩ | exact ⟨rfl, _, Eq.trans (World.drewN_drewN _ _ _) (congrArg (World.drewN _) (Nat.add_assoc _ _ _))⟩))); try go_wp2_with (first | (go_at_call 29; (with_reducible refine (clause_word.calls a0_2 true _ ?side1 A16.out).mono ?_); (case side1 => exact Glob.below HG.out sq63); rintro e w' ⟨rfl, ⟨nd, rfl⟩⟩; (try first | exact ⟨rfl, _, World.drewN_drewN _ _ _⟩ | exact ⟨rfl, _, Eq.trans (World.drewN_drewN _ _ _) (congrArg (World.drewN _) (Nat.add_assoc _ _ _))⟩))))
        go_ret
        exact ⟨sq23, sq63⟩
       rw [if_neg c18] at H
       have c18b0 : decide (1 ≤ a0_1) = false := decide_eq_false c18; clear c18
       obtain rfl := Option.some.inj H
       have hcz26_0 : wc.cell? ⟨gb132, 0, none⟩ = some (.int .i64 a0_0) := (blk_cell BK132.out 0).trans rfl
       have hcz26_1 : wc.cell? ⟨gb132, 1, none⟩ = some (.int .i64 a0_1) := (blk_cell BK132.out 1).trans rfl
       have hcz26_2 : wc.cell? ⟨gb132, 2, none⟩ = some (.string a0_2) := (blk_cell BK132.out 2).trans rfl
       have hcz26_3 : wc.cell? ⟨gb132, 3, none⟩ = some (.slice A0_3 l0_3.length c0_3) := (blk_cell BK132.out 3).trans rfl
       have hcz26_4 : wc.cell? ⟨gb132, 4, none⟩ = some (.slice A0_4 l0_4.length c0_4) := (blk_cell BK132.out 4).trans rfl
       have hcz26_5 : wc.cell? ⟨gb132, 5, none⟩ = some (.slice A0_5 l0_5.length c0_5) := (blk_cell BK132.out 5).trans rfl
       have hfz26_0 := blk_frozen BK132.out 0
       have hfz26_1 := blk_frozen BK132.out 1
       have hfz26_2 := blk_frozen BK132.out 2
       have hfz26_3 := blk_frozen BK132.out 3
       have hfz26_4 := blk_frozen BK132.out 4
       have hfz26_5 := blk_frozen BK132.out 5
       go_wp2_with (first | (go_at_call 29; (with_reducible refine (clause_word.calls a0_2 true _ ?side1 A16.out).mono ?_); (case side1 => exact Glob.below HG.out sq63); rintro e w' ⟨rfl, ⟨nd, rfl⟩⟩; (try first | exact ⟨rfl, _, World.drewN_drewN _ _ _⟩ | exact ⟨rfl, _, Eq.trans (World.drewN_drewN _ _ _) (congrArg (World.drewN _) (Nat.add_assoc _ _ _))⟩)))
       repeat (go_quiet (first | (go_at_call 29; (with_reducible refine (clause_word.calls a0_2 true _ ?side1 A16.out).mono ?_); (case side1 => exact Glob.below HG.out sq63); rintro e w' ⟨rfl, ⟨nd, rfl⟩⟩; (try first | exact ⟨rfl, _, World.drewN_drewN _ _ _⟩ | exact ⟨rfl, _, Eq.trans (World.drewN_drewN _ _ _) (congrArg (World.drewN _) (Nat.add_assoc _ _ _))⟩))); try go_wp2_with (first | (go_at_call 29; (with_reducible refine (clause_word.calls a0_2 true _ ?side1 A16.out).mono ?_); (case side1 => exact Glob.below HG.out sq63); rintro e w' ⟨rfl, ⟨nd, rfl⟩⟩; (try first | exact ⟨rfl, _, World.drewN_drewN _ _ _⟩ | exact ⟨rfl, _, Eq.trans (World.drewN_drewN _ _ _) (congrArg (World.drewN _) (Nat.add_assoc _ _ _))⟩))))
       go_ret
       exact ⟨sq23, sq63⟩
      replace c17 := Bool.eq_false_iff.mpr c17
      subst c17
      replace H := (itF_ _ _).symm.trans H
      obtain rfl := Option.some.inj H
      have hcz27_0 : wc.cell? ⟨gb132, 0, none⟩ = some (.int .i64 a0_0) := (blk_cell BK132.out 0).trans rfl
      have hcz27_1 : wc.cell? ⟨gb132, 1, none⟩ = some (.int .i64 a0_1) := (blk_cell BK132.out 1).trans rfl
      have hcz27_2 : wc.cell? ⟨gb132, 2, none⟩ = some (.string a0_2) := (blk_cell BK132.out 2).trans rfl
      have hcz27_3 : wc.cell? ⟨gb132, 3, none⟩ = some (.slice A0_3 l0_3.length c0_3) := (blk_cell BK132.out 3).trans rfl
      have hcz27_4 : wc.cell? ⟨gb132, 4, none⟩ = some (.slice A0_4 l0_4.length c0_4) := (blk_cell BK132.out 4).trans rfl
      have hcz27_5 : wc.cell? ⟨gb132, 5, none⟩ = some (.slice A0_5 l0_5.length c0_5) := (blk_cell BK132.out 5).trans rfl
      have hfz27_0 := blk_frozen BK132.out 0
      have hfz27_1 := blk_frozen BK132.out 1
      have hfz27_2 := blk_frozen BK132.out 2
      have hfz27_3 := blk_frozen BK132.out 3
      have hfz27_4 := blk_frozen BK132.out 4
      have hfz27_5 := blk_frozen BK132.out 5
      go_wp2_with (first | (go_at_call 29; (with_reducible refine (clause_word.calls a0_2 false _ ?side1 A16.out).mono ?_); (case side1 => exact Glob.below HG.out sq63); rintro e w' ⟨rfl, ⟨nd, rfl⟩⟩; (try first | exact ⟨rfl, _, World.drewN_drewN _ _ _⟩ | exact ⟨rfl, _, Eq.trans (World.drewN_drewN _ _ _) (congrArg (World.drewN _) (Nat.add_assoc _ _ _))⟩)))
      repeat (go_quiet (first | (go_at_call 29; (with_reducible refine (clause_word.calls a0_2 false _ ?side1 A16.out).mono ?_); (case side1 => exact Glob.below HG.out sq63); rintro e w' ⟨rfl, ⟨nd, rfl⟩⟩; (try first | exact ⟨rfl, _, World.drewN_drewN _ _ _⟩ | exact ⟨rfl, _, Eq.trans (World.drewN_drewN _ _ _) (congrArg (World.drewN _) (Nat.add_assoc _ _ _))⟩))); try go_wp2_with (first | (go_at_call 29; (with_reducible refine (clause_word.calls a0_2 false _ ?side1 A16.out).mono ?_); (case side1 => exact Glob.below HG.out sq63); rintro e w' ⟨rfl, ⟨nd, rfl⟩⟩; (try first | exact ⟨rfl, _, World.drewN_drewN _ _ _⟩ | exact ⟨rfl, _, Eq.trans (World.drewN_drewN _ _ _) (congrArg (World.drewN _) (Nat.add_assoc _ _ _))⟩))))
      go_ret
      exact ⟨sq23, sq63⟩
     rw [if_neg c15] at H
     have c15b0 : (a0_0 == 1) = false := beq_eq_false_iff_ne.mpr c15
     have c15b1 : (a0_0 != 1) = true := bne_iff_ne.mpr c15
     by_cases c28 : a0_0 = 2
     ·rw [if_pos c28] at H
      have c28b0 : (a0_0 == 2) = true := beq_iff_eq.mpr c28
      have c28b1 : (a0_0 != 2) = false := bne_eq_false_iff_eq.mpr c28
      clear c28
      replace H := Option.bind_eq_some_iff.mp H
      obtain ⟨t134, A290, H⟩ := H
      replace H : (if t134 = true then (if a0_1 = 0 then (if x6_10 = true then (some x4_1) else (some false)) else (some false)) else (some false)) = some r := H
      have A29 := Aside0.mk A290
      clear A290
      by_cases c30 : t134 = true
      ·subst c30
       replace H := (itT_ _ _).symm.trans H
       by_cases c31 : a0_1 = 0
       ·rw [if_pos c31] at H
        have c31b0 : (a0_1 == 0) = true := beq_iff_eq.mpr c31
        have c31b1 : (a0_1 != 0) = false := bne_eq_false_iff_eq.mpr c31
        clear c31
        by_cases c32 : x6_10 = true
        ·subst c32
         replace H := (itT_ _ _).symm.trans H
         obtain rfl := Option.some.inj H
         have hcz33_0 : wc.cell? ⟨gb132, 0, none⟩ = some (.int .i64 a0_0) := (blk_cell BK132.out 0).trans rfl
         have hcz33_1 : wc.cell? ⟨gb132, 1, none⟩ = some (.int .i64 a0_1) := (blk_cell BK132.out 1).trans rfl
         have hcz33_2 : wc.cell? ⟨gb132, 2, none⟩ = some (.string a0_2) := (blk_cell BK132.out 2).trans rfl
         have hcz33_3 : wc.cell? ⟨gb132, 3, none⟩ = some (.slice A0_3 l0_3.length c0_3) := (blk_cell BK132.out 3).trans rfl
         have hcz33_4 : wc.cell? ⟨gb132, 4, none⟩ = some (.slice A0_4 l0_4.length c0_4) := (blk_cell BK132.out 4).trans rfl
         have hcz33_5 : wc.cell? ⟨gb132, 5, none⟩ = some (.slice A0_5 l0_5.length c0_5) := (blk_cell BK132.out 5).trans rfl
         have hfz33_0 := blk_frozen BK132.out 0
         have hfz33_1 := blk_frozen BK132.out 1
         have hfz33_2 := blk_frozen BK132.out 2
         have hfz33_3 := blk_frozen BK132.out 3
         have hfz33_4 := blk_frozen BK132.out 4
         have hfz33_5 := blk_frozen BK132.out 5
         go_wp2_with (first | (go_at_call 29; (with_reducible refine (clause_word.calls a0_2 true _ ?side1 A29.out).mono ?_); (case side1 => exact Glob.below HG.out sq63); rintro e w' ⟨rfl, ⟨nd, rfl⟩⟩; (try first | exact ⟨rfl, _, World.drewN_drewN _ _ _⟩ | exact ⟨rfl, _, Eq.trans (World.drewN_drewN _ _ _) (congrArg (World.drewN _) (Nat.add_assoc _ _ _))⟩)))
         repeat (go_quiet (first | (go_at_call 29; (with_reducible refine (clause_word.calls a0_2 true _ ?side1 A29.out).mono ?_); (case side1 => exact Glob.below HG.out sq63); rintro e w' ⟨rfl, ⟨nd, rfl⟩⟩; (try first | exact ⟨rfl, _, World.drewN_drewN _ _ _⟩ | exact ⟨rfl, _, Eq.trans (World.drewN_drewN _ _ _) (congrArg (World.drewN _) (Nat.add_assoc _ _ _))⟩))); try go_wp2_with (first | (go_at_call 29; (with_reducible refine (clause_word.calls a0_2 true _ ?side1 A29.out).mono ?_); (case side1 => exact Glob.below HG.out sq63); rintro e w' ⟨rfl, ⟨nd, rfl⟩⟩; (try first | exact ⟨rfl, _, World.drewN_drewN _ _ _⟩ | exact ⟨rfl, _, Eq.trans (World.drewN_drewN _ _ _) (congrArg (World.drewN _) (Nat.add_assoc _ _ _))⟩))))
         go_ret
         exact ⟨sq23, sq63⟩
        replace c32 := Bool.eq_false_iff.mpr c32
        subst c32
        replace H := (itF_ _ _).symm.trans H
        obtain rfl := Option.some.inj H
        have hcz34_0 : wc.cell? ⟨gb132, 0, none⟩ = some (.int .i64 a0_0) := (blk_cell BK132.out 0).trans rfl
        have hcz34_1 : wc.cell? ⟨gb132, 1, none⟩ = some (.int .i64 a0_1) := (blk_cell BK132.out 1).trans rfl
        have hcz34_2 : wc.cell? ⟨gb132, 2, none⟩ = some (.string a0_2) := (blk_cell BK132.out 2).trans rfl
        have hcz34_3 : wc.cell? ⟨gb132, 3, none⟩ = some (.slice A0_3 l0_3.length c0_3) := (blk_cell BK132.out 3).trans rfl
        have hcz34_4 : wc.cell? ⟨gb132, 4, none⟩ = some (.slice A0_4 l0_4.length c0_4) := (blk_cell BK132.out 4).trans rfl
        have hcz34_5 : wc.cell? ⟨gb132, 5, none⟩ = some (.slice A0_5 l0_5.length c0_5) := (blk_cell BK132.out 5).trans rfl
        have hfz34_0 := blk_frozen BK132.out 0
        have hfz34_1 := blk_frozen BK132.out 1
        have hfz34_2 := blk_frozen BK132.out 2
        have hfz34_3 := blk_frozen BK132.out 3
        have hfz34_4 := blk_frozen BK132.out 4
        have hfz34_5 := blk_frozen BK132.out 5
        go_wp2_with (first | (go_at_call 29; (with_reducible refine (clause_word.calls a0_2 true _ ?side1 A29.out).mono ?_); (case side1 => exact Glob.below HG.out sq63); rintro e w' ⟨rfl, ⟨nd, rfl⟩⟩; (try first | exact ⟨rfl, _, World.drewN_drewN _ _ _⟩ | exact ⟨rfl, _, Eq.trans (World.drewN_drewN _ _ _) (congrArg (World.drewN _) (Nat.add_assoc _ _ _))⟩)))
        repeat (go_quiet (first | (go_at_call 29; (with_reducible refine (clause_word.calls a0_2 true _ ?side1 A29.out).mono ?_); (case side1 => exact Glob.below HG.out sq63); rintro e w' ⟨rfl, ⟨nd, rfl⟩⟩; (try first | exact ⟨rfl, _, World.drewN_drewN _ _ _⟩ | exact ⟨rfl, _, Eq.trans (World.drewN_drewN _ _ _) (congrArg (World.drewN _) (Nat.add_assoc _ _ _))⟩))); try go_wp2_with (first | (go_at_call 29; (with_reducible refine (clause_word.calls a0_2 true _ ?side1 A29.out).mono ?_); (case side1 => exact Glob.below HG.out sq63); rintro e w' ⟨rfl, ⟨nd, rfl⟩⟩; (try first | exact ⟨rfl, _, World.drewN_drewN _ _ _⟩ | exact ⟨rfl, _, Eq.trans (World.drewN_drewN _ _ _) (congrArg (World.drewN _) (Nat.add_assoc _ _ _))⟩))))
        go_ret
        exact ⟨sq23, sq63⟩
       rw [if_neg c31] at H
       have c31b0 : (a0_1 == 0) = false := beq_eq_false_iff_ne.mpr c31
       have c31b1 : (a0_1 != 0) = true := bne_iff_ne.mpr c31
       obtain rfl := Option.some.inj H
       have hcz35_0 : wc.cell? ⟨gb132, 0, none⟩ = some (.int .i64 a0_0) := (blk_cell BK132.out 0).trans rfl
       have hcz35_1 : wc.cell? ⟨gb132, 1, none⟩ = some (.int .i64 a0_1) := (blk_cell BK132.out 1).trans rfl
       have hcz35_2 : wc.cell? ⟨gb132, 2, none⟩ = some (.string a0_2) := (blk_cell BK132.out 2).trans rfl
       have hcz35_3 : wc.cell? ⟨gb132, 3, none⟩ = some (.slice A0_3 l0_3.length c0_3) := (blk_cell BK132.out 3).trans rfl
       have hcz35_4 : wc.cell? ⟨gb132, 4, none⟩ = some (.slice A0_4 l0_4.length c0_4) := (blk_cell BK132.out 4).trans rfl
       have hcz35_5 : wc.cell? ⟨gb132, 5, none⟩ = some (.slice A0_5 l0_5.length c0_5) := (blk_cell BK132.out 5).trans rfl
       have hfz35_0 := blk_frozen BK132.out 0
       have hfz35_1 := blk_frozen BK132.out 1
       have hfz35_2 := blk_frozen BK132.out 2
       have hfz35_3 := blk_frozen BK132.out 3
       have hfz35_4 := blk_frozen BK132.out 4
       have hfz35_5 := blk_frozen BK132.out 5
       go_wp2_with (first | (go_at_call 29; (with_reducible refine (clause_word.calls a0_2 true _ ?side1 A29.out).mono ?_); (case side1 => exact Glob.below HG.out sq63); rintro e w' ⟨rfl, ⟨nd, rfl⟩⟩; (try first | exact ⟨rfl, _, World.drewN_drewN _ _ _⟩ | exact ⟨rfl, _, Eq.trans (World.drewN_drewN _ _ _) (congrArg (World.drewN _) (Nat.add_assoc _ _ _))⟩)))
       repeat (go_quiet (first | (go_at_call 29; (with_reducible refine (clause_word.calls a0_2 true _ ?side1 A29.out).mono ?_); (case side1 => exact Glob.below HG.out sq63); rintro e w' ⟨rfl, ⟨nd, rfl⟩⟩; (try first | exact ⟨rfl, _, World.drewN_drewN _ _ _⟩ | exact ⟨rfl, _, Eq.trans (World.drewN_drewN _ _ _) (congrArg (World.drewN _) (Nat.add_assoc _ _ _))⟩))); try go_wp2_with (first | (go_at_call 29; (with_reducible refine (clause_word.calls a0_2 true _ ?side1 A29.out).mono ?_); (case side1 => exact Glob.below HG.out sq63); rintro e w' ⟨rfl, ⟨nd, rfl⟩⟩; (try first | exact ⟨rfl, _, World.drewN_drewN _ _ _⟩ | exact ⟨rfl, _, Eq.trans (World.drewN_drewN _ _ _) (congrArg (World.drewN _) (Nat.add_assoc _ _ _))⟩))))
       go_ret
       exact ⟨sq23, sq63⟩
      replace c30 := Bool.eq_false_iff.mpr c30
      subst c30
      replace H := (itF_ _ _).symm.trans H
      obtain rfl := Option.some.inj H
      have hcz36_0 : wc.cell? ⟨gb132, 0, none⟩ = some (.int .i64 a0_0) := (blk_cell BK132.out 0).trans rfl
      have hcz36_1 : wc.cell? ⟨gb132, 1, none⟩ = some (.int .i64 a0_1) := (blk_cell BK132.out 1).trans rfl
      have hcz36_2 : wc.cell? ⟨gb132, 2, none⟩ = some (.string a0_2) := (blk_cell BK132.out 2).trans rfl
      have hcz36_3 : wc.cell? ⟨gb132, 3, none⟩ = some (.slice A0_3 l0_3.length c0_3) := (blk_cell BK132.out 3).trans rfl
      have hcz36_4 : wc.cell? ⟨gb132, 4, none⟩ = some (.slice A0_4 l0_4.length c0_4) := (blk_cell BK132.out 4).trans rfl
      have hcz36_5 : wc.cell? ⟨gb132, 5, none⟩ = some (.slice A0_5 l0_5.length c0_5) := (blk_cell BK132.out 5).trans rfl
      have hfz36_0 := blk_frozen BK132.out 0
      have hfz36_1 := blk_frozen BK132.out 1
      have hfz36_2 := blk_frozen BK132.out 2
      have hfz36_3 := blk_frozen BK132.out 3
      have hfz36_4 := blk_frozen BK132.out 4
      have hfz36_5 := blk_frozen BK132.out 5
      go_wp2_with (first | (go_at_call 29; (with_reducible refine (clause_word.calls a0_2 false _ ?side1 A29.out).mono ?_); (case side1 => exact Glob.below HG.out sq63); rintro e w' ⟨rfl, ⟨nd, rfl⟩⟩; (try first | exact ⟨rfl, _, World.drewN_drewN _ _ _⟩ | exact ⟨rfl, _, Eq.trans (World.drewN_drewN _ _ _) (congrArg (World.drewN _) (Nat.add_assoc _ _ _))⟩)))
      repeat (go_quiet (first | (go_at_call 29; (with_reducible refine (clause_word.calls a0_2 false _ ?side1 A29.out).mono ?_); (case side1 => exact Glob.below HG.out sq63); rintro e w' ⟨rfl, ⟨nd, rfl⟩⟩; (try first | exact ⟨rfl, _, World.drewN_drewN _ _ _⟩ | exact ⟨rfl, _, Eq.trans (World.drewN_drewN _ _ _) (congrArg (World.drewN _) (Nat.add_assoc _ _ _))⟩))); try go_wp2_with (first | (go_at_call 29; (with_reducible refine (clause_word.calls a0_2 false _ ?side1 A29.out).mono ?_); (case side1 => exact Glob.below HG.out sq63); rintro e w' ⟨rfl, ⟨nd, rfl⟩⟩; (try first | exact ⟨rfl, _, World.drewN_drewN _ _ _⟩ | exact ⟨rfl, _, Eq.trans (World.drewN_drewN _ _ _) (congrArg (World.drewN _) (Nat.add_assoc _ _ _))⟩))))
      go_ret
      exact ⟨sq23, sq63⟩
     rw [if_neg c28] at H
     have c28b0 : (a0_0 == 2) = false := beq_eq_false_iff_ne.mpr c28
     have c28b1 : (a0_0 != 2) = true := bne_iff_ne.mpr c28
     by_cases c37 : a0_0 = 3
     ·rw [if_pos c37] at H
      have c37b0 : (a0_0 == 3) = true := beq_iff_eq.mpr c37
      have c37b1 : (a0_0 != 3) = false := bne_eq_false_iff_eq.mpr c37
      clear c37
      by_cases c38 : x5_1 = true
      ·subst c38
       replace H := (itT_ _ _).symm.trans H
       by_cases c39 : x6_10 = true
       ·subst c39
        replace H := (itT_ _ _).symm.trans H
        obtain rfl := Option.some.inj H
        have hcz40_0 : wc.cell? ⟨gb132, 0, none⟩ = some (.int .i64 a0_0) := (blk_cell BK132.out 0).trans rfl
        have hcz40_1 : wc.cell? ⟨gb132, 1, none⟩ = some (.int .i64 a0_1) := (blk_cell BK132.out 1).trans rfl
        have hcz40_2 : wc.cell? ⟨gb132, 2, none⟩ = some (.string a0_2) := (blk_cell BK132.out 2).trans rfl
        have hcz40_3 : wc.cell? ⟨gb132, 3, none⟩ = some (.slice A0_3 l0_3.length c0_3) := (blk_cell BK132.out 3).trans rfl
        have hcz40_4 : wc.cell? ⟨gb132, 4, none⟩ = some (.slice A0_4 l0_4.length c0_4) := (blk_cell BK132.out 4).trans rfl
        have hcz40_5 : wc.cell? ⟨gb132, 5, none⟩ = some (.slice A0_5 l0_5.length c0_5) := (blk_cell BK132.out 5).trans rfl
        have hfz40_0 := blk_frozen BK132.out 0
        have hfz40_1 := blk_frozen BK132.out 1
        have hfz40_2 := blk_frozen BK132.out 2
        have hfz40_3 := blk_frozen BK132.out 3
        have hfz40_4 := blk_frozen BK132.out 4
        have hfz40_5 := blk_frozen BK132.out 5
        go_wp2
        repeat (go_quiet (fail); try go_wp2)
        go_ret
        exact ⟨sq23, sq63⟩
       replace c39 := Bool.eq_false_iff.mpr c39
       subst c39
       replace H := (itF_ _ _).symm.trans H
       obtain rfl := Option.some.inj H
       have hcz41_0 : wc.cell? ⟨gb132, 0, none⟩ = some (.int .i64 a0_0) := (blk_cell BK132.out 0).trans rfl
       have hcz41_1 : wc.cell? ⟨gb132, 1, none⟩ = some (.int .i64 a0_1) := (blk_cell BK132.out 1).trans rfl
       have hcz41_2 : wc.cell? ⟨gb132, 2, none⟩ = some (.string a0_2) := (blk_cell BK132.out 2).trans rfl
       have hcz41_3 : wc.cell? ⟨gb132, 3, none⟩ = some (.slice A0_3 l0_3.length c0_3) := (blk_cell BK132.out 3).trans rfl
       have hcz41_4 : wc.cell? ⟨gb132, 4, none⟩ = some (.slice A0_4 l0_4.length c0_4) := (blk_cell BK132.out 4).trans rfl
       have hcz41_5 : wc.cell? ⟨gb132, 5, none⟩ = some (.slice A0_5 l0_5.length c0_5) := (blk_cell BK132.out 5).trans rfl
       have hfz41_0 := blk_frozen BK132.out 0
       have hfz41_1 := blk_frozen BK132.out 1
       have hfz41_2 := blk_frozen BK132.out 2
       have hfz41_3 := blk_frozen BK132.out 3
       have hfz41_4 := blk_frozen BK132.out 4
       have hfz41_5 := blk_frozen BK132.out 5
       go_wp2
       repeat (go_quiet (fail); try go_wp2)
       go_ret
       exact ⟨sq23, sq63⟩
      replace c38 := Bool.eq_false_iff.mpr c38
      subst c38
      replace H := (itF_ _ _).symm.trans H
      obtain rfl := Option.some.inj H
      have hcz42_0 : wc.cell? ⟨gb132, 0, none⟩ = some (.int .i64 a0_0) := (blk_cell BK132.out 0).trans rfl
      have hcz42_1 : wc.cell? ⟨gb132, 1, none⟩ = some (.int .i64 a0_1) := (blk_cell BK132.out 1).trans rfl
      have hcz42_2 : wc.cell? ⟨gb132, 2, none⟩ = some (.string a0_2) := (blk_cell BK132.out 2).trans rfl
      have hcz42_3 : wc.cell? ⟨gb132, 3, none⟩ = some (.slice A0_3 l0_3.length c0_3) := (blk_cell BK132.out 3).trans rfl
      have hcz42_4 : wc.cell? ⟨gb132, 4, none⟩ = some (.slice A0_4 l0_4.length c0_4) := (blk_cell BK132.out 4).trans rfl
      have hcz42_5 : wc.cell? ⟨gb132, 5, none⟩ = some (.slice A0_5 l0_5.length c0_5) := (blk_cell BK132.out 5).trans rfl
      have hfz42_0 := blk_frozen BK132.out 0
      have hfz42_1 := blk_frozen BK132.out 1
      have hfz42_2 := blk_frozen BK132.out 2
      have hfz42_3 := blk_frozen BK132.out 3
      have hfz42_4 := blk_frozen BK132.out 4
      have hfz42_5 := blk_frozen BK132.out 5
      go_wp2
      repeat (go_quiet (fail); try go_wp2)
      go_ret
      exact ⟨sq23, sq63⟩
     rw [if_neg c37] at H
     have c37b0 : (a0_0 == 3) = false := beq_eq_false_iff_ne.mpr c37
     have c37b1 : (a0_0 != 3) = true := bne_iff_ne.mpr c37
     by_cases c43 : a0_0 = 4
     ·rw [if_pos c43] at H
      have c43b0 : (a0_0 == 4) = true := beq_iff_eq.mpr c43
      have c43b1 : (a0_0 != 4) = false := bne_eq_false_iff_eq.mpr c43
      clear c43
      by_cases c44 : x5_1 = true
      ·subst c44
       replace H := (itT_ _ _).symm.trans H
       by_cases c45 : x3_1 = true
       ·subst c45
        replace H := (itT_ _ _).symm.trans H
        obtain rfl := Option.some.inj H
        have hcz46_0 : wc.cell? ⟨gb132, 0, none⟩ = some (.int .i64 a0_0) := (blk_cell BK132.out 0).trans rfl
        have hcz46_1 : wc.cell? ⟨gb132, 1, none⟩ = some (.int .i64 a0_1) := (blk_cell BK132.out 1).trans rfl
        have hcz46_2 : wc.cell? ⟨gb132, 2, none⟩ = some (.string a0_2) := (blk_cell BK132.out 2).trans rfl
        have hcz46_3 : wc.cell? ⟨gb132, 3, none⟩ = some (.slice A0_3 l0_3.length c0_3) := (blk_cell BK132.out 3).trans rfl
        have hcz46_4 : wc.cell? ⟨gb132, 4, none⟩ = some (.slice A0_4 l0_4.length c0_4) := (blk_cell BK132.out 4).trans rfl
        have hcz46_5 : wc.cell? ⟨gb132, 5, none⟩ = some (.slice A0_5 l0_5.length c0_5) := (blk_cell BK132.out 5).trans rfl
        have hfz46_0 := blk_frozen BK132.out 0
        have hfz46_1 := blk_frozen BK132.out 1
        have hfz46_2 := blk_frozen BK132.out 2
        have hfz46_3 := blk_frozen BK132.out 3
        have hfz46_4 := blk_frozen BK132.out 4
        have hfz46_5 := blk_frozen BK132.out 5
        go_wp2
        repeat (go_quiet (fail); try go_wp2)
        go_ret
        exact ⟨sq23, sq63⟩
       replace c45 := Bool.eq_false_iff.mpr c45
       subst c45
       replace H := (itF_ _ _).symm.trans H
       by_cases c47 : x6_10 = true
       ·subst c47
        replace H := (itT_ _ _).symm.trans H
        obtain rfl := Option.some.inj H
        have hcz48_0 : wc.cell? ⟨gb132, 0, none⟩ = some (.int .i64 a0_0) := (blk_cell BK132.out 0).trans rfl
        have hcz48_1 : wc.cell? ⟨gb132, 1, none⟩ = some (.int .i64 a0_1) := (blk_cell BK132.out 1).trans rfl
        have hcz48_2 : wc.cell? ⟨gb132, 2, none⟩ = some (.string a0_2) := (blk_cell BK132.out 2).trans rfl
        have hcz48_3 : wc.cell? ⟨gb132, 3, none⟩ = some (.slice A0_3 l0_3.length c0_3) := (blk_cell BK132.out 3).trans rfl
        have hcz48_4 : wc.cell? ⟨gb132, 4, none⟩ = some (.slice A0_4 l0_4.length c0_4) := (blk_cell BK132.out 4).trans rfl
        have hcz48_5 : wc.cell? ⟨gb132, 5, none⟩ = some (.slice A0_5 l0_5.length c0_5) := (blk_cell BK132.out 5).trans rfl
        have hfz48_0 := blk_frozen BK132.out 0
        have hfz48_1 := blk_frozen BK132.out 1
        have hfz48_2 := blk_frozen BK132.out 2
        have hfz48_3 := blk_frozen BK132.out 3
        have hfz48_4 := blk_frozen BK132.out 4
        have hfz48_5 := blk_frozen BK132.out 5
        go_wp2
        repeat (go_quiet (fail); try go_wp2)
        go_ret
        exact ⟨sq23, sq63⟩
       replace c47 := Bool.eq_false_iff.mpr c47
       subst c47
       replace H := (itF_ _ _).symm.trans H
       obtain rfl := Option.some.inj H
       have hcz49_0 : wc.cell? ⟨gb132, 0, none⟩ = some (.int .i64 a0_0) := (blk_cell BK132.out 0).trans rfl
       have hcz49_1 : wc.cell? ⟨gb132, 1, none⟩ = some (.int .i64 a0_1) := (blk_cell BK132.out 1).trans rfl
       have hcz49_2 : wc.cell? ⟨gb132, 2, none⟩ = some (.string a0_2) := (blk_cell BK132.out 2).trans rfl
       have hcz49_3 : wc.cell? ⟨gb132, 3, none⟩ = some (.slice A0_3 l0_3.length c0_3) := (blk_cell BK132.out 3).trans rfl
       have hcz49_4 : wc.cell? ⟨gb132, 4, none⟩ = some (.slice A0_4 l0_4.length c0_4) := (blk_cell BK132.out 4).trans rfl
       have hcz49_5 : wc.cell? ⟨gb132, 5, none⟩ = some (.slice A0_5 l0_5.length c0_5) := (blk_cell BK132.out 5).trans rfl
       have hfz49_0 := blk_frozen BK132.out 0
       have hfz49_1 := blk_frozen BK132.out 1
       have hfz49_2 := blk_frozen BK132.out 2
       have hfz49_3 := blk_frozen BK132.out 3
       have hfz49_4 := blk_frozen BK132.out 4
       have hfz49_5 := blk_frozen BK132.out 5
       go_wp2
       repeat (go_quiet (fail); try go_wp2)
       go_ret
       exact ⟨sq23, sq63⟩
      replace c44 := Bool.eq_false_iff.mpr c44
      subst c44
      replace H := (itF_ _ _).symm.trans H
      obtain rfl := Option.some.inj H
      have hcz50_0 : wc.cell? ⟨gb132, 0, none⟩ = some (.int .i64 a0_0) := (blk_cell BK132.out 0).trans rfl
      have hcz50_1 : wc.cell? ⟨gb132, 1, none⟩ = some (.int .i64 a0_1) := (blk_cell BK132.out 1).trans rfl
      have hcz50_2 : wc.cell? ⟨gb132, 2, none⟩ = some (.string a0_2) := (blk_cell BK132.out 2).trans rfl
      have hcz50_3 : wc.cell? ⟨gb132, 3, none⟩ = some (.slice A0_3 l0_3.length c0_3) := (blk_cell BK132.out 3).trans rfl
      have hcz50_4 : wc.cell? ⟨gb132, 4, none⟩ = some (.slice A0_4 l0_4.length c0_4) := (blk_cell BK132.out 4).trans rfl
      have hcz50_5 : wc.cell? ⟨gb132, 5, none⟩ = some (.slice A0_5 l0_5.length c0_5) := (blk_cell BK132.out 5).trans rfl
      have hfz50_0 := blk_frozen BK132.out 0
      have hfz50_1 := blk_frozen BK132.out 1
      have hfz50_2 := blk_frozen BK132.out 2
      have hfz50_3 := blk_frozen BK132.out 3
      have hfz50_4 := blk_frozen BK132.out 4
      have hfz50_5 := blk_frozen BK132.out 5
      go_wp2
      repeat (go_quiet (fail); try go_wp2)
      go_ret
      exact ⟨sq23, sq63⟩
     rw [if_neg c43] at H
     have c43b0 : (a0_0 == 4) = false := beq_eq_false_iff_ne.mpr c43
     have c43b1 : (a0_0 != 4) = true := bne_iff_ne.mpr c43
     by_cases c51 : a0_0 = 5
     ·rw [if_pos c51] at H
      have c51b0 : (a0_0 == 5) = true := beq_iff_eq.mpr c51
      have c51b1 : (a0_0 != 5) = false := bne_eq_false_iff_eq.mpr c51
      clear c51
      by_cases c52 : x5_1 = true
      ·subst c52
       replace H := (itT_ _ _).symm.trans H
       by_cases c53 : x3_1 = true
       ·subst c53
        replace H := (itT_ _ _).symm.trans H
        obtain rfl := Option.some.inj H
        have hcz54_0 : wc.cell? ⟨gb132, 0, none⟩ = some (.int .i64 a0_0) := (blk_cell BK132.out 0).trans rfl
        have hcz54_1 : wc.cell? ⟨gb132, 1, none⟩ = some (.int .i64 a0_1) := (blk_cell BK132.out 1).trans rfl
        have hcz54_2 : wc.cell? ⟨gb132, 2, none⟩ = some (.string a0_2) := (blk_cell BK132.out 2).trans rfl
        have hcz54_3 : wc.cell? ⟨gb132, 3, none⟩ = some (.slice A0_3 l0_3.length c0_3) := (blk_cell BK132.out 3).trans rfl
        have hcz54_4 : wc.cell? ⟨gb132, 4, none⟩ = some (.slice A0_4 l0_4.length c0_4) := (blk_cell BK132.out 4).trans rfl
        have hcz54_5 : wc.cell? ⟨gb132, 5, none⟩ = some (.slice A0_5 l0_5.length c0_5) := (blk_cell BK132.out 5).trans rfl
        have hfz54_0 := blk_frozen BK132.out 0
        have hfz54_1 := blk_frozen BK132.out 1
        have hfz54_2 := blk_frozen BK132.out 2
        have hfz54_3 := blk_frozen BK132.out 3
        have hfz54_4 := blk_frozen BK132.out 4
        have hfz54_5 := blk_frozen BK132.out 5
        go_wp2
        repeat (go_quiet (fail); try go_wp2)
        go_ret
        exact ⟨sq23, sq63⟩
       replace c53 := Bool.eq_false_iff.mpr c53
       subst c53
       replace H := (itF_ _ _).symm.trans H
       by_cases c55 : x6_10 = true
       ·subst c55
        replace H := (itT_ _ _).symm.trans H
        obtain rfl := Option.some.inj H
        have hcz56_0 : wc.cell? ⟨gb132, 0, none⟩ = some (.int .i64 a0_0) := (blk_cell BK132.out 0).trans rfl
        have hcz56_1 : wc.cell? ⟨gb132, 1, none⟩ = some (.int .i64 a0_1) := (blk_cell BK132.out 1).trans rfl
        have hcz56_2 : wc.cell? ⟨gb132, 2, none⟩ = some (.string a0_2) := (blk_cell BK132.out 2).trans rfl
        have hcz56_3 : wc.cell? ⟨gb132, 3, none⟩ = some (.slice A0_3 l0_3.length c0_3) := (blk_cell BK132.out 3).trans rfl
        have hcz56_4 : wc.cell? ⟨gb132, 4, none⟩ = some (.slice A0_4 l0_4.length c0_4) := (blk_cell BK132.out 4).trans rfl
        have hcz56_5 : wc.cell? ⟨gb132, 5, none⟩ = some (.slice A0_5 l0_5.length c0_5) := (blk_cell BK132.out 5).trans rfl
        have hfz56_0 := blk_frozen BK132.out 0
        have hfz56_1 := blk_frozen BK132.out 1
        have hfz56_2 := blk_frozen BK132.out 2
        have hfz56_3 := blk_frozen BK132.out 3
        have hfz56_4 := blk_frozen BK132.out 4
        have hfz56_5 := blk_frozen BK132.out 5
        go_wp2
        repeat (go_quiet (fail); try go_wp2)
        go_ret
        exact ⟨sq23, sq63⟩
       replace c55 := Bool.eq_false_iff.mpr c55
       subst c55
       replace H := (itF_ _ _).symm.trans H
       obtain rfl := Option.some.inj H
       have hcz57_0 : wc.cell? ⟨gb132, 0, none⟩ = some (.int .i64 a0_0) := (blk_cell BK132.out 0).trans rfl
       have hcz57_1 : wc.cell? ⟨gb132, 1, none⟩ = some (.int .i64 a0_1) := (blk_cell BK132.out 1).trans rfl
       have hcz57_2 : wc.cell? ⟨gb132, 2, none⟩ = some (.string a0_2) := (blk_cell BK132.out 2).trans rfl
       have hcz57_3 : wc.cell? ⟨gb132, 3, none⟩ = some (.slice A0_3 l0_3.length c0_3) := (blk_cell BK132.out 3).trans rfl
       have hcz57_4 : wc.cell? ⟨gb132, 4, none⟩ = some (.slice A0_4 l0_4.length c0_4) := (blk_cell BK132.out 4).trans rfl
       have hcz57_5 : wc.cell? ⟨gb132, 5, none⟩ = some (.slice A0_5 l0_5.length c0_5) := (blk_cell BK132.out 5).trans rfl
       have hfz57_0 := blk_frozen BK132.out 0
       have hfz57_1 := blk_frozen BK132.out 1
       have hfz57_2 := blk_frozen BK132.out 2
       have hfz57_3 := blk_frozen BK132.out 3
       have hfz57_4 := blk_frozen BK132.out 4
       have hfz57_5 := blk_frozen BK132.out 5
       go_wp2
       repeat (go_quiet (fail); try go_wp2)
       go_ret
       exact ⟨sq23, sq63⟩
      replace c52 := Bool.eq_false_iff.mpr c52
      subst c52
      replace H := (itF_ _ _).symm.trans H
      obtain rfl := Option.some.inj H
      have hcz58_0 : wc.cell? ⟨gb132, 0, none⟩ = some (.int .i64 a0_0) := (blk_cell BK132.out 0).trans rfl
      have hcz58_1 : wc.cell? ⟨gb132, 1, none⟩ = some (.int .i64 a0_1) := (blk_cell BK132.out 1).trans rfl
      have hcz58_2 : wc.cell? ⟨gb132, 2, none⟩ = some (.string a0_2) := (blk_cell BK132.out 2).trans rfl
      have hcz58_3 : wc.cell? ⟨gb132, 3, none⟩ = some (.slice A0_3 l0_3.length c0_3) := (blk_cell BK132.out 3).trans rfl
      have hcz58_4 : wc.cell? ⟨gb132, 4, none⟩ = some (.slice A0_4 l0_4.length c0_4) := (blk_cell BK132.out 4).trans rfl
      have hcz58_5 : wc.cell? ⟨gb132, 5, none⟩ = some (.slice A0_5 l0_5.length c0_5) := (blk_cell BK132.out 5).trans rfl
      have hfz58_0 := blk_frozen BK132.out 0
      have hfz58_1 := blk_frozen BK132.out 1
      have hfz58_2 := blk_frozen BK132.out 2
      have hfz58_3 := blk_frozen BK132.out 3
      have hfz58_4 := blk_frozen BK132.out 4
      have hfz58_5 := blk_frozen BK132.out 5
      go_wp2
      repeat (go_quiet (fail); try go_wp2)
      go_ret
      exact ⟨sq23, sq63⟩
     rw [if_neg c51] at H
     have c51b0 : (a0_0 == 5) = false := beq_eq_false_iff_ne.mpr c51
     have c51b1 : (a0_0 != 5) = true := bne_iff_ne.mpr c51
     by_cases c59 : a0_0 = 6
     ·rw [if_pos c59] at H
      have c59b0 : (a0_0 == 6) = true := beq_iff_eq.mpr c59
      have c59b1 : (a0_0 != 6) = false := bne_eq_false_iff_eq.mpr c59
      clear c59
      by_cases c60 : x5_1 = true
      ·subst c60
       replace H := (itT_ _ _).symm.trans H
       by_cases c61 : x3_1 = true
       ·subst c61
        replace H := (itT_ _ _).symm.trans H
        obtain rfl := Option.some.inj H
        have hcz62_0 : wc.cell? ⟨gb132, 0, none⟩ = some (.int .i64 a0_0) := (blk_cell BK132.out 0).trans rfl
        have hcz62_1 : wc.cell? ⟨gb132, 1, none⟩ = some (.int .i64 a0_1) := (blk_cell BK132.out 1).trans rfl
        have hcz62_2 : wc.cell? ⟨gb132, 2, none⟩ = some (.string a0_2) := (blk_cell BK132.out 2).trans rfl
        have hcz62_3 : wc.cell? ⟨gb132, 3, none⟩ = some (.slice A0_3 l0_3.length c0_3) := (blk_cell BK132.out 3).trans rfl
        have hcz62_4 : wc.cell? ⟨gb132, 4, none⟩ = some (.slice A0_4 l0_4.length c0_4) := (blk_cell BK132.out 4).trans rfl
        have hcz62_5 : wc.cell? ⟨gb132, 5, none⟩ = some (.slice A0_5 l0_5.length c0_5) := (blk_cell BK132.out 5).trans rfl
        have hfz62_0 := blk_frozen BK132.out 0
        have hfz62_1 := blk_frozen BK132.out 1
        have hfz62_2 := blk_frozen BK132.out 2
        have hfz62_3 := blk_frozen BK132.out 3
        have hfz62_4 := blk_frozen BK132.out 4
        have hfz62_5 := blk_frozen BK132.out 5
        go_wp2
        repeat (go_quiet (fail); try go_wp2)
        go_ret
        exact ⟨sq23, sq63⟩
       replace c61 := Bool.eq_false_iff.mpr c61
       subst c61
       replace H := (itF_ _ _).symm.trans H
       by_cases c63 : x6_10 = true
       ·subst c63
        replace H := (itT_ _ _).symm.trans H
        obtain rfl := Option.some.inj H
        have hcz64_0 : wc.cell? ⟨gb132, 0, none⟩ = some (.int .i64 a0_0) := (blk_cell BK132.out 0).trans rfl
        have hcz64_1 : wc.cell? ⟨gb132, 1, none⟩ = some (.int .i64 a0_1) := (blk_cell BK132.out 1).trans rfl
        have hcz64_2 : wc.cell? ⟨gb132, 2, none⟩ = some (.string a0_2) := (blk_cell BK132.out 2).trans rfl
        have hcz64_3 : wc.cell? ⟨gb132, 3, none⟩ = some (.slice A0_3 l0_3.length c0_3) := (blk_cell BK132.out 3).trans rfl
        have hcz64_4 : wc.cell? ⟨gb132, 4, none⟩ = some (.slice A0_4 l0_4.length c0_4) := (blk_cell BK132.out 4).trans rfl
        have hcz64_5 : wc.cell? ⟨gb132, 5, none⟩ = some (.slice A0_5 l0_5.length c0_5) := (blk_cell BK132.out 5).trans rfl
        have hfz64_0 := blk_frozen BK132.out 0
        have hfz64_1 := blk_frozen BK132.out 1
        have hfz64_2 := blk_frozen BK132.out 2
        have hfz64_3 := blk_frozen BK132.out 3
        have hfz64_4 := blk_frozen BK132.out 4
        have hfz64_5 := blk_frozen BK132.out 5
        go_wp2
        repeat (go_quiet (fail); try go_wp2)
        go_ret
        exact ⟨sq23, sq63⟩
       replace c63 := Bool.eq_false_iff.mpr c63
       subst c63
       replace H := (itF_ _ _).symm.trans H
       obtain rfl := Option.some.inj H
       have hcz65_0 : wc.cell? ⟨gb132, 0, none⟩ = some (.int .i64 a0_0) := (blk_cell BK132.out 0).trans rfl
       have hcz65_1 : wc.cell? ⟨gb132, 1, none⟩ = some (.int .i64 a0_1) := (blk_cell BK132.out 1).trans rfl
       have hcz65_2 : wc.cell? ⟨gb132, 2, none⟩ = some (.string a0_2) := (blk_cell BK132.out 2).trans rfl
       have hcz65_3 : wc.cell? ⟨gb132, 3, none⟩ = some (.slice A0_3 l0_3.length c0_3) := (blk_cell BK132.out 3).trans rfl
       have hcz65_4 : wc.cell? ⟨gb132, 4, none⟩ = some (.slice A0_4 l0_4.length c0_4) := (blk_cell BK132.out 4).trans rfl
       have hcz65_5 : wc.cell? ⟨gb132, 5, none⟩ = some (.slice A0_5 l0_5.length c0_5) := (blk_cell BK132.out 5).trans rfl
       have hfz65_0 := blk_frozen BK132.out 0
       have hfz65_1 := blk_frozen BK132.out 1
       have hfz65_2 := blk_frozen BK132.out 2
       have hfz65_3 := blk_frozen BK132.out 3
       have hfz65_4 := blk_frozen BK132.out 4
       have hfz65_5 := blk_frozen BK132.out 5
       go_wp2
       repeat (go_quiet (fail); try go_wp2)
       go_ret
       exact ⟨sq23, sq63⟩
      replace c60 := Bool.eq_false_iff.mpr c60
      subst c60
      replace H := (itF_ _ _).symm.trans H
      obtain rfl := Option.some.inj H
      have hcz66_0 : wc.cell? ⟨gb132, 0, none⟩ = some (.int .i64 a0_0) := (blk_cell BK132.out 0).trans rfl
      have hcz66_1 : wc.cell? ⟨gb132, 1, none⟩ = some (.int .i64 a0_1) := (blk_cell BK132.out 1).trans rfl
      have hcz66_2 : wc.cell? ⟨gb132, 2, none⟩ = some (.string a0_2) := (blk_cell BK132.out 2).trans rfl
      have hcz66_3 : wc.cell? ⟨gb132, 3, none⟩ = some (.slice A0_3 l0_3.length c0_3) := (blk_cell BK132.out 3).trans rfl
      have hcz66_4 : wc.cell? ⟨gb132, 4, none⟩ = some (.slice A0_4 l0_4.length c0_4) := (blk_cell BK132.out 4).trans rfl
      have hcz66_5 : wc.cell? ⟨gb132, 5, none⟩ = some (.slice A0_5 l0_5.length c0_5) := (blk_cell BK132.out 5).trans rfl
      have hfz66_0 := blk_frozen BK132.out 0
      have hfz66_1 := blk_frozen BK132.out 1
      have hfz66_2 := blk_frozen BK132.out 2
      have hfz66_3 := blk_frozen BK132.out 3
      have hfz66_4 := blk_frozen BK132.out 4
      have hfz66_5 := blk_frozen BK132.out 5
      go_wp2
      repeat (go_quiet (fail); try go_wp2)
      go_ret
      exact ⟨sq23, sq63⟩
     rw [if_neg c59] at H
     have c59b0 : (a0_0 == 6) = false := beq_eq_false_iff_ne.mpr c59
     have c59b1 : (a0_0 != 6) = true := bne_iff_ne.mpr c59
     by_cases c67 : a0_0 = 7
     ·rw [if_pos c67] at H
      have c67b0 : (a0_0 == 7) = true := beq_iff_eq.mpr c67
      have c67b1 : (a0_0 != 7) = false := bne_eq_false_iff_eq.mpr c67
      clear c67
      by_cases c68 : x5_1 = true
      ·subst c68
       replace H := (itT_ _ _).symm.trans H
       by_cases c69 : x3_1 = true
       ·subst c69
        replace H := (itT_ _ _).symm.trans H
        obtain rfl := Option.some.inj H
        have hcz70_0 : wc.cell? ⟨gb132, 0, none⟩ = some (.int .i64 a0_0) := (blk_cell BK132.out 0).trans rfl
        have hcz70_1 : wc.cell? ⟨gb132, 1, none⟩ = some (.int .i64 a0_1) := (blk_cell BK132.out 1).trans rfl
        have hcz70_2 : wc.cell? ⟨gb132, 2, none⟩ = some (.string a0_2) := (blk_cell BK132.out 2).trans rfl
        have hcz70_3 : wc.cell? ⟨gb132, 3, none⟩ = some (.slice A0_3 l0_3.length c0_3) := (blk_cell BK132.out 3).trans rfl
        have hcz70_4 : wc.cell? ⟨gb132, 4, none⟩ = some (.slice A0_4 l0_4.length c0_4) := (blk_cell BK132.out 4).trans rfl
        have hcz70_5 : wc.cell? ⟨gb132, 5, none⟩ = some (.slice A0_5 l0_5.length c0_5) := (blk_cell BK132.out 5).trans rfl
        have hfz70_0 := blk_frozen BK132.out 0
        have hfz70_1 := blk_frozen BK132.out 1
        have hfz70_2 := blk_frozen BK132.out 2
        have hfz70_3 := blk_frozen BK132.out 3
        have hfz70_4 := blk_frozen BK132.out 4
        have hfz70_5 := blk_frozen BK132.out 5
        go_wp2
        repeat (go_quiet (fail); try go_wp2)
        go_ret
        exact ⟨sq23, sq63⟩
       replace c69 := Bool.eq_false_iff.mpr c69
       subst c69
       replace H := (itF_ _ _).symm.trans H
       by_cases c71 : x6_10 = true
       ·subst c71
        replace H := (itT_ _ _).symm.trans H
        obtain rfl := Option.some.inj H
        have hcz72_0 : wc.cell? ⟨gb132, 0, none⟩ = some (.int .i64 a0_0) := (blk_cell BK132.out 0).trans rfl
        have hcz72_1 : wc.cell? ⟨gb132, 1, none⟩ = some (.int .i64 a0_1) := (blk_cell BK132.out 1).trans rfl
        have hcz72_2 : wc.cell? ⟨gb132, 2, none⟩ = some (.string a0_2) := (blk_cell BK132.out 2).trans rfl
        have hcz72_3 : wc.cell? ⟨gb132, 3, none⟩ = some (.slice A0_3 l0_3.length c0_3) := (blk_cell BK132.out 3).trans rfl
        have hcz72_4 : wc.cell? ⟨gb132, 4, none⟩ = some (.slice A0_4 l0_4.length c0_4) := (blk_cell BK132.out 4).trans rfl
        have hcz72_5 : wc.cell? ⟨gb132, 5, none⟩ = some (.slice A0_5 l0_5.length c0_5) := (blk_cell BK132.out 5).trans rfl
        have hfz72_0 := blk_frozen BK132.out 0
        have hfz72_1 := blk_frozen BK132.out 1
        have hfz72_2 := blk_frozen BK132.out 2
        have hfz72_3 := blk_frozen BK132.out 3
        have hfz72_4 := blk_frozen BK132.out 4
        have hfz72_5 := blk_frozen BK132.out 5
        go_wp2
        repeat (go_quiet (fail); try go_wp2)
        go_ret
        exact ⟨sq23, sq63⟩
       replace c71 := Bool.eq_false_iff.mpr c71
       subst c71
       replace H := (itF_ _ _).symm.trans H
       obtain rfl := Option.some.inj H
       have hcz73_0 : wc.cell? ⟨gb132, 0, none⟩ = some (.int .i64 a0_0) := (blk_cell BK132.out 0).trans rfl
       have hcz73_1 : wc.cell? ⟨gb132, 1, none⟩ = some (.int .i64 a0_1) := (blk_cell BK132.out 1).trans rfl
       have hcz73_2 : wc.cell? ⟨gb132, 2, none⟩ = some (.string a0_2) := (blk_cell BK132.out 2).trans rfl
       have hcz73_3 : wc.cell? ⟨gb132, 3, none⟩ = some (.slice A0_3 l0_3.length c0_3) := (blk_cell BK132.out 3).trans rfl
       have hcz73_4 : wc.cell? ⟨gb132, 4, none⟩ = some (.slice A0_4 l0_4.length c0_4) := (blk_cell BK132.out 4).trans rfl
       have hcz73_5 : wc.cell? ⟨gb132, 5, none⟩ = some (.slice A0_5 l0_5.length c0_5) := (blk_cell BK132.out 5).trans rfl
       have hfz73_0 := blk_frozen BK132.out 0
       have hfz73_1 := blk_frozen BK132.out 1
       have hfz73_2 := blk_frozen BK132.out 2
       have hfz73_3 := blk_frozen BK132.out 3
       have hfz73_4 := blk_frozen BK132.out 4
       have hfz73_5 := blk_frozen BK132.out 5
       go_wp2
       repeat (go_quiet (fail); try go_wp2)
       go_ret
       exact ⟨sq23, sq63⟩
      replace c68 := Bool.eq_false_iff.mpr c68
      subst c68
      replace H := (itF_ _ _).symm.trans H
      obtain rfl := Option.some.inj H
      have hcz74_0 : wc.cell? ⟨gb132, 0, none⟩ = some (.int .i64 a0_0) := (blk_cell BK132.out 0).trans rfl
      have hcz74_1 : wc.cell? ⟨gb132, 1, none⟩ = some (.int .i64 a0_1) := (blk_cell BK132.out 1).trans rfl
      have hcz74_2 : wc.cell? ⟨gb132, 2, none⟩ = some (.string a0_2) := (blk_cell BK132.out 2).trans rfl
      have hcz74_3 : wc.cell? ⟨gb132, 3, none⟩ = some (.slice A0_3 l0_3.length c0_3) := (blk_cell BK132.out 3).trans rfl
      have hcz74_4 : wc.cell? ⟨gb132, 4, none⟩ = some (.slice A0_4 l0_4.length c0_4) := (blk_cell BK132.out 4).trans rfl
      have hcz74_5 : wc.cell? ⟨gb132, 5, none⟩ = some (.slice A0_5 l0_5.length c0_5) := (blk_cell BK132.out 5).trans rfl
      have hfz74_0 := blk_frozen BK132.out 0
      have hfz74_1 := blk_frozen BK132.out 1
      have hfz74_2 := blk_frozen BK132.out 2
      have hfz74_3 := blk_frozen BK132.out 3
      have hfz74_4 := blk_frozen BK132.out 4
      have hfz74_5 := blk_frozen BK132.out 5
      go_wp2
      repeat (go_quiet (fail); try go_wp2)
      go_ret
      exact ⟨sq23, sq63⟩
     rw [if_neg c67] at H
     have c67b0 : (a0_0 == 7) = false := beq_eq_false_iff_ne.mpr c67
     have c67b1 : (a0_0 != 7) = true := bne_iff_ne.mpr c67
     obtain rfl := Option.some.inj H
     have hcz75_0 : wc.cell? ⟨gb132, 0, none⟩ = some (.int .i64 a0_0) := (blk_cell BK132.out 0).trans rfl
     have hcz75_1 : wc.cell? ⟨gb132, 1, none⟩ = some (.int .i64 a0_1) := (blk_cell BK132.out 1).trans rfl
     have hcz75_2 : wc.cell? ⟨gb132, 2, none⟩ = some (.string a0_2) := (blk_cell BK132.out 2).trans rfl
     have hcz75_3 : wc.cell? ⟨gb132, 3, none⟩ = some (.slice A0_3 l0_3.length c0_3) := (blk_cell BK132.out 3).trans rfl
     have hcz75_4 : wc.cell? ⟨gb132, 4, none⟩ = some (.slice A0_4 l0_4.length c0_4) := (blk_cell BK132.out 4).trans rfl
     have hcz75_5 : wc.cell? ⟨gb132, 5, none⟩ = some (.slice A0_5 l0_5.length c0_5) := (blk_cell BK132.out 5).trans rfl
     have hfz75_0 := blk_frozen BK132.out 0
     have hfz75_1 := blk_frozen BK132.out 1
     have hfz75_2 := blk_frozen BK132.out 2
     have hfz75_3 := blk_frozen BK132.out 3
     have hfz75_4 := blk_frozen BK132.out 4
     have hfz75_5 := blk_frozen BK132.out 5
     go_wp2
     repeat (go_quiet (fail); try go_wp2)
     go_ret
     exact ⟨sq23, sq63⟩

end Go.Proofs.Ytaogejkmkalnlaa.PAll
