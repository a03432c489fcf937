-- Written by a program of this session (wip/tools/print2.sh): functions as plain Lean, and that the machine's calls do what they say.
import Derived.Test.YtaogejkmkalnlaaPAllx0
import Derived.Test.YtaogejkmkalnlaaPAllx7
namespace Go.Proofs.Ytaogejkmkalnlaa.PAll
open Go.RowKit Go.Proofs.YtaogejkmkalnlaaW.PrintWords Go.Proofs.YtaogejkmkalnlaaW.PrintLast Go.Proofs.YtaogejkmkalnlaaW.PrintMore
attribute [local go_sem] max2_int min2_int max_two min_two max_three min_three max_four min_four   -- for this text's walks alone
set_option linter.unusedVariables false
set_option linter.unusedSimpArgs false

/-! ### tontineref17_line: function 19 -/
mutual
def tontineref17_line.j0 : Nat → Bool → Int → Int → ByteArray → List (S43) → List (S43) → List (S43) → Option (Bool)
 | 0, _, _, _, _, _, _, _ => none
 | k + 1, x3, x189000, x189001, x189002, x189003, x189004, x189005 => if (x189003.length : Int) = 0 then (tontineref17_line.j1 k x3 ((x189004.length : Int) == 0) x189000 x189001 x189002 x189003 x189004 x189005) else (tontineref17_line.j1 k x3 false x189000 x189001 x189002 x189003 x189004 x189005)
def tontineref17_line.j1 : Nat → Bool → Bool → Int → Int → ByteArray → List (S43) → List (S43) → List (S43) → Option (Bool)
 | 0, _, _, _, _, _, _, _, _ => none
 | k + 1, x3, x4, x189000, x189001, x189002, x189003, x189004, x189005 => if x189000 = 1 then ((tontineref17_Word.f k x189002).bind fun t189 => (if t189 = true then (if x189001 ≥ 1 then (if x189001 ≤ 3 then (if x3 = true then (some ((x189005.length : Int) == 0)) else (if x4 = true then (some ((x189005.length : Int) == 0)) else (some false))) else (some false)) else (some false)) else (some false))) else (if x189000 = 2 then ((tontineref17_Word.f k x189002).bind fun t190 => (if t190 = true then (if x189001 = 0 then (if x4 = true then (some (decide ((x189005.length : Int) > 0))) else (some false)) else (some false)) else (some false))) else (if x189000 = 3 then (if x189002.toList = ([] : List UInt8) then (if x189001 = 0 then (if x4 = true then (some (decide ((x189005.length : Int) > 0))) else (some false)) else (some false)) else (some false)) else (if x189000 ≥ 4 then (if x189000 ≤ 7 then (if x189002.toList = ([] : List UInt8) then (if x189001 = 0 then (if x3 = true then (some (decide ((x189005.length : Int) > 0))) else (if x4 = true then (some (decide ((x189005.length : Int) > 0))) else (some false))) else (some false)) else (some false)) else (some false)) else (some false))))
end
def tontineref17_line.f (k : Nat) (a0_0 : Int) (a0_1 : Int) (a0_2 : ByteArray) (l0_3 : List (S43)) (l0_4 : List (S43)) (l0_5 : List (S43)) : Option (Bool) := if (l0_3.length : Int) > 0 then (tontineref17_line.j0 k (decide ((l0_4.length : Int) > 0)) a0_0 a0_1 a0_2 l0_3 l0_4 l0_5) else (tontineref17_line.j0 k false a0_0 a0_1 a0_2 l0_3 l0_4 l0_5)
theorem tontineref17_line.mono_l : ∀ k, (∀ y0 y1 y2 y3 y4 y5 y6, LeO (tontineref17_line.j0 k y0 y1 y2 y3 y4 y5 y6) (tontineref17_line.j0 (k + 1) y0 y1 y2 y3 y4 y5 y6)) ∧ (∀ y0 y1 y2 y3 y4 y5 y6 y7, LeO (tontineref17_line.j1 k y0 y1 y2 y3 y4 y5 y6 y7) (tontineref17_line.j1 (k + 1) y0 y1 y2 y3 y4 y5 y6 y7))
 | 0 => ⟨fun _ _ _ _ _ _ _ r h => by simp [tontineref17_line.j0] at h, fun _ _ _ _ _ _ _ _ r h => by simp [tontineref17_line.j1] at h⟩
 | k + 1 => by
  obtain ⟨ih0, ih1⟩ := tontineref17_line.mono_l k
  refine ⟨?_, ?_⟩
  ·intro y0 y1 y2 y3 y4 y5 y6
   unfold tontineref17_line.j0
   exact sq104
  intro y0 y1 y2 y3 y4 y5 y6 y7
  unfold tontineref17_line.j1
  exact sq104
theorem tontineref17_line.mono : ∀ a0 a1 a2 a3 a4 a5 k, LeO (tontineref17_line.f k a0 a1 a2 a3 a4 a5) (tontineref17_line.f (k + 1) a0 a1 a2 a3 a4 a5) := by
 intro a0 a1 a2 a3 a4 a5 k
 obtain ⟨ih0, ih1⟩ := tontineref17_line.mono_l k
 unfold tontineref17_line.f
 exact sq104
set_option maxHeartbeats 8000000 in
set_option maxRecDepth 100000 in
theorem tontineref17_line.calls (k : Nat) (a0_0 : Int) (a0_1 : Int) (a0_2 : ByteArray) (A0_3 : Option Addr) (c0_3 : Nat) (l0_3 : List (S43)) (A0_4 : Option Addr) (c0_4 : Nat) (l0_4 : List (S43)) (A0_5 : Option Addr) (c0_5 : Nat) (l0_5 : List (S43)) (r : Bool) (w : World) (hr0_3 : Kd.C k43 w A0_3 l0_3.length l0_3) (hc0_3 : l0_3.length ≤ c0_3) (hr0_4 : Kd.C k43 w A0_4 l0_4.length l0_4) (hc0_4 : l0_4.length ≤ c0_4) (hr0_5 : Kd.C k43 w A0_5 l0_5.length l0_5) (hc0_5 : l0_5.length ≤ c0_5) (h : tontineref17_line.f k a0_0 a0_1 a0_2 l0_3 l0_4 l0_5 = some r) :
  Calls Try.prog 19 #[.agg #[.int .i64 a0_0, .int .i64 a0_1, .string a0_2, .slice A0_3 l0_3.length c0_3, .slice A0_4 l0_4.length c0_4, .slice A0_5 l0_5.length c0_5]] w fun e w' => e = .returned (.bool r) ∧ Below w.heap.size w w' := by
 have hu41 := Try.underlying41
 have HR0_3 := Aside0.mk hr0_3
 have HC0_3 := Aside0.mk hc0_3
 clear hr0_3 hc0_3
 have HR0_4 := Aside0.mk hr0_4
 have HC0_4 := Aside0.mk hc0_4
 clear hr0_4 hc0_4
 have HR0_5 := Aside0.mk hr0_5
 have HC0_5 := Aside0.mk hc0_5
 clear hr0_5 hc0_5
 have HB := Aside0.mk (Below.refl w.heap.size w)
 have H : (if (l0_3.length : Int) > 0 then (tontineref17_line.j0 k (decide ((l0_4.length : Int) > 0)) a0_0 a0_1 a0_2 l0_3 l0_4 l0_5) else (tontineref17_line.j0 k false a0_0 a0_1 a0_2 l0_3 l0_4 l0_5)) = some r := h
 clear h
 have HC2 := Aside0.mk H
 clear H
 go_enter Try.func19, Try.ntmps19
 go_upto_region 1 with (first | ((with_reducible refine gate_dst (N := 1) rfl ?_); (try (refine gate_guard (by rfl) ?_; dsimp only)); refine box_event ?hg (N := 1) ?hd (cs := #[.int .i64 a0_0, .int .i64 a0_1, .string a0_2, .slice A0_3 l0_3.length c0_3, .slice A0_4 l0_4.length c0_4, .slice A0_5 l0_5.length c0_5]) (t := 41) ?hr ?_; (case hd => rfl); (case hg => rfl); (case hr => first | (go_simp; done) | (go_simp; rfl)); intro gb188 hg w3 hbox hb; have n0_ := Aside0.mk (below_step sq55 hb); have n1_ := Aside0.mk (hbox); have n2_ := Aside0.mk ((by rw [hg]; exact (below_size sq55) : w.heap.size ≤ gb188)); have n3_ := Aside0.mk ((by rw [hg]; exact (below_size sq55) : w.heap.size ≤ gb188)); clear HB; have HB := n0_; have BK188 := n1_; have GW188 := n2_; have GE188 := n3_; clear n0_ n1_ n2_ n3_; clear hb hbox hg))
 (try simp only [Act.put, List.setIfInBounds_toArray, List.set_cons_zero, List.set_cons_succ])
 go_cut [3] (fun v3 wc => ∃ (kq : Nat) (x3_1 : Bool), v3 = .bool x3_1 ∧ Aside0 (tontineref17_line.j0 kq x3_1 a0_0 a0_1 a0_2 l0_3 l0_4 l0_5 = some r) ∧ Aside0 (kq ≤ k) ∧ Aside0 (wc.heap[gb188]? = some (.cells #[.int .i64 a0_0, .int .i64 a0_1, .string a0_2, (.slice A0_3 l0_3.length c0_3), (.slice A0_4 l0_4.length c0_4), (.slice A0_5 l0_5.length c0_5)] 41 (0, 0))) ∧ Aside0 (Below w.heap.size w wc))
 case first =>
  have H := HC2.out
  clear HC2
  by_cases c4 : (l0_3.length : Int) > 0
  ·rw [if_pos c4] at H
   have c4b0 : decide (0 < (l0_3.length : Int)) = true := decide_eq_true c4
   have c4b1 : decide (0 < l0_3.length) = true := decide_eq_true (by omega)
   clear c4
   (first | rw [c4b0] | (simp only [i64_w, i32_w]; rw [c4b0]) | skip)
   have H' := Aside0.mk H
   clear H
   have hcz5_0 : w3.cell? ⟨gb188, 0, none⟩ = some (.int .i64 a0_0) := (blk_cell BK188.out 0).trans rfl
   have hcz5_1 : w3.cell? ⟨gb188, 1, none⟩ = some (.int .i64 a0_1) := (blk_cell BK188.out 1).trans rfl
   have hcz5_2 : w3.cell? ⟨gb188, 2, none⟩ = some (.string a0_2) := (blk_cell BK188.out 2).trans rfl
   have hcz5_3 : w3.cell? ⟨gb188, 3, none⟩ = some (.slice A0_3 l0_3.length c0_3) := (blk_cell BK188.out 3).trans rfl
   have hcz5_4 : w3.cell? ⟨gb188, 4, none⟩ = some (.slice A0_4 l0_4.length c0_4) := (blk_cell BK188.out 4).trans rfl
   have hcz5_5 : w3.cell? ⟨gb188, 5, none⟩ = some (.slice A0_5 l0_5.length c0_5) := (blk_cell BK188.out 5).trans rfl
   have hfz5_0 := blk_frozen BK188.out 0
   have hfz5_1 := blk_frozen BK188.out 1
   have hfz5_2 := blk_frozen BK188.out 2
   have hfz5_3 := blk_frozen BK188.out 3
   have hfz5_4 := blk_frozen BK188.out 4
   have hfz5_5 := blk_frozen BK188.out 5
   go_wp2
   go_meet
   case rel => exact ⟨_, (decide ((l0_4.length : Int) > 0)), sq4, H', ⟨sq2⟩, ⟨sq44⟩, ⟨sq67⟩⟩
  rw [if_neg c4] at H
  have c4b0 : decide (0 < (l0_3.length : Int)) = false := decide_eq_false c4
  have c4b1 : decide (0 < l0_3.length) = false := decide_eq_false (by omega)
  clear c4
  (first | rw [c4b0] | (simp only [i64_w, i32_w]; rw [c4b0]) | skip)
  have H' := Aside0.mk H
  clear H
  have hcz6_0 : w3.cell? ⟨gb188, 0, none⟩ = some (.int .i64 a0_0) := (blk_cell BK188.out 0).trans rfl
  have hcz6_1 : w3.cell? ⟨gb188, 1, none⟩ = some (.int .i64 a0_1) := (blk_cell BK188.out 1).trans rfl
  have hcz6_2 : w3.cell? ⟨gb188, 2, none⟩ = some (.string a0_2) := (blk_cell BK188.out 2).trans rfl
  have hcz6_3 : w3.cell? ⟨gb188, 3, none⟩ = some (.slice A0_3 l0_3.length c0_3) := (blk_cell BK188.out 3).trans rfl
  have hcz6_4 : w3.cell? ⟨gb188, 4, none⟩ = some (.slice A0_4 l0_4.length c0_4) := (blk_cell BK188.out 4).trans rfl
  have hcz6_5 : w3.cell? ⟨gb188, 5, none⟩ = some (.slice A0_5 l0_5.length c0_5) := (blk_cell BK188.out 5).trans rfl
  have hfz6_0 := blk_frozen BK188.out 0
  have hfz6_1 := blk_frozen BK188.out 1
  have hfz6_2 := blk_frozen BK188.out 2
  have hfz6_3 := blk_frozen BK188.out 3
  have hfz6_4 := blk_frozen BK188.out 4
  have hfz6_5 := blk_frozen BK188.out 5
  go_wp2
  go_meet
  case rel => exact ⟨_, (false), sq4, H', ⟨sq2⟩, ⟨sq44⟩, ⟨sq67⟩⟩
 case rest =>
  clear HC2; try clear c1; try clear p2; try clear c4; try clear c4b0; try clear c4b1; try clear hcz5_0; try clear hcz5_1; try clear hcz5_2; try clear hcz5_3; try clear hcz5_4; try clear hcz5_5; try clear hcz6_0; try clear hcz6_1; try clear hcz6_2; try clear hcz6_3; try clear hcz6_4; try clear hcz6_5; try clear hfz5_0; try clear hfz5_1; try clear hfz5_2; try clear hfz5_3; try clear hfz5_4; try clear hfz5_5; try clear hfz6_0; try clear hfz6_1; try clear hfz6_2; try clear hfz6_3; try clear hfz6_4; try clear hfz6_5
  obtain ⟨kq, x3_1, rfl, HA, HJ1, BK188, HB⟩ := hcut
  cases kq with
  | zero => exact absurd HA.out (by simp [tontineref17_line.j0])
  | succ kj1 =>
   have H := HA.out
   clear HA
   simp only [tontineref17_line.j0] at H
   have HC7 := Aside0.mk H
   clear H
   go_upto_region 2 with (fail)
   go_cut [4] (fun v4 wc => ∃ (kq : Nat) (x4_6 : Bool), v4 = .bool x4_6 ∧ Aside0 (tontineref17_line.j1 kq x3_1 x4_6 a0_0 a0_1 a0_2 l0_3 l0_4 l0_5 = some r) ∧ Aside0 (kq ≤ kj1) ∧ Aside0 (wc.heap[gb188]? = some (.cells #[.int .i64 a0_0, .int .i64 a0_1, .string a0_2, (.slice A0_3 l0_3.length c0_3), (.slice A0_4 l0_4.length c0_4), (.slice A0_5 l0_5.length c0_5)] 41 (0, 0))) ∧ Aside0 (Below w.heap.size w wc))
   case first =>
    have H := HC7.out
    clear HC7
    by_cases c8 : (l0_3.length : Int) = 0
    ·rw [if_pos c8] at H
     have c8b0 : ((l0_3.length : Int) == 0) = true := beq_iff_eq.mpr c8
     have c8b1 : ((l0_3.length : Int) != 0) = false := bne_eq_false_iff_eq.mpr c8
     clear c8
     (first | rw [c8b0] | (simp only [i64_w, i32_w]; rw [c8b0]) | skip)
     have H' := Aside0.mk H
     clear H
     have hcz9_0 : wc.cell? ⟨gb188, 0, none⟩ = some (.int .i64 a0_0) := (blk_cell BK188.out 0).trans rfl
     have hcz9_1 : wc.cell? ⟨gb188, 1, none⟩ = some (.int .i64 a0_1) := (blk_cell BK188.out 1).trans rfl
     have hcz9_2 : wc.cell? ⟨gb188, 2, none⟩ = some (.string a0_2) := (blk_cell BK188.out 2).trans rfl
     have hcz9_3 : wc.cell? ⟨gb188, 3, none⟩ = some (.slice A0_3 l0_3.length c0_3) := (blk_cell BK188.out 3).trans rfl
     have hcz9_4 : wc.cell? ⟨gb188, 4, none⟩ = some (.slice A0_4 l0_4.length c0_4) := (blk_cell BK188.out 4).trans rfl
     have hcz9_5 : wc.cell? ⟨gb188, 5, none⟩ = some (.slice A0_5 l0_5.length c0_5) := (blk_cell BK188.out 5).trans rfl
     have hfz9_0 := blk_frozen BK188.out 0
     have hfz9_1 := blk_frozen BK188.out 1
     have hfz9_2 := blk_frozen BK188.out 2
     have hfz9_3 := blk_frozen BK188.out 3
     have hfz9_4 := blk_frozen BK188.out 4
     have hfz9_5 := blk_frozen BK188.out 5
     go_wp2
     go_meet
     case rel => exact ⟨_, (((l0_4.length : Int) == 0)), sq4, H', ⟨sq6⟩, ⟨sq44⟩, ⟨sq67⟩⟩
    rw [if_neg c8] at H
    have c8b0 : ((l0_3.length : Int) == 0) = false := beq_eq_false_iff_ne.mpr c8
    have c8b1 : ((l0_3.length : Int) != 0) = true := bne_iff_ne.mpr c8
    have c8b2 : ¬ (l0_3 = []) := fun h_ => c8 (by rw [h_]; rfl)
    (first | rw [c8b0] | (simp only [i64_w, i32_w]; rw [c8b0]) | skip)
    have H' := Aside0.mk H
    clear H
    have hcz10_0 : wc.cell? ⟨gb188, 0, none⟩ = some (.int .i64 a0_0) := (blk_cell BK188.out 0).trans rfl
    have hcz10_1 : wc.cell? ⟨gb188, 1, none⟩ = some (.int .i64 a0_1) := (blk_cell BK188.out 1).trans rfl
    have hcz10_2 : wc.cell? ⟨gb188, 2, none⟩ = some (.string a0_2) := (blk_cell BK188.out 2).trans rfl
    have hcz10_3 : wc.cell? ⟨gb188, 3, none⟩ = some (.slice A0_3 l0_3.length c0_3) := (blk_cell BK188.out 3).trans rfl
    have hcz10_4 : wc.cell? ⟨gb188, 4, none⟩ = some (.slice A0_4 l0_4.length c0_4) := (blk_cell BK188.out 4).trans rfl
    have hcz10_5 : wc.cell? ⟨gb188, 5, none⟩ = some (.slice A0_5 l0_5.length c0_5) := (blk_cell BK188.out 5).trans rfl
    have hfz10_0 := blk_frozen BK188.out 0
    have hfz10_1 := blk_frozen BK188.out 1
    have hfz10_2 := blk_frozen BK188.out 2
    have hfz10_3 := blk_frozen BK188.out 3
    have hfz10_4 := blk_frozen BK188.out 4
    have hfz10_5 := blk_frozen BK188.out 5
    go_wp2
    go_meet
    case rel => exact ⟨_, (false), sq4, H', ⟨sq6⟩, ⟨sq44⟩, ⟨sq67⟩⟩
   case rest =>
    clear HC7; try clear c1; try clear p2; try clear c4; try clear c4b0; try clear c4b1; try clear c8; try clear c8b0; try clear c8b1; try clear c8b2; try clear hcz10_0; try clear hcz10_1; try clear hcz10_2; try clear hcz10_3; try clear hcz10_4; try clear hcz10_5; try clear hcz5_0; try clear hcz5_1; try clear hcz5_2; try clear hcz5_3; try clear hcz5_4; try clear hcz5_5; try clear hcz6_0; try clear hcz6_1; try clear hcz6_2; try clear hcz6_3; try clear hcz6_4; try clear hcz6_5; try clear hcz9_0; try clear hcz9_1; try clear hcz9_2; try clear hcz9_3; try clear hcz9_4; try clear hcz9_5; try clear hfz10_0; try clear hfz10_1; try clear hfz10_2; try clear hfz10_3; try clear hfz10_4; try clear hfz10_5; try clear hfz5_0; try clear hfz5_1; try clear hfz5_2; try clear hfz5_3; try clear hfz5_4; try clear hfz5_5; try clear hfz6_0; try clear hfz6_1; try clear hfz6_2; try clear hfz6_3; try clear hfz6_4; try clear hfz6_5; try clear hfz9_0; try clear hfz9_1; try clear hfz9_2; try clear hfz9_3; try clear hfz9_4; try clear hfz9_5; try clear p2
    obtain ⟨kq, x4_6, rfl, HA, HJ6, BK188, HB⟩ := hcut
    cases kq with
    | zero => exact absurd HA.out (by simp [tontineref17_line.j1])
    | succ kj6 =>
     have H := HA.out
     clear HA
     simp only [tontineref17_line.j1] at H
     by_cases c11 : a0_0 = 1
     ·rw [if_pos c11] at H
      have c11b0 : (a0_0 == 1) = true := beq_iff_eq.mpr c11
      have c11b1 : (a0_0 != 1) = false := bne_eq_false_iff_eq.mpr c11
      clear c11
      replace H := Option.bind_eq_some_iff.mp H
      obtain ⟨t189, A120, H⟩ := H
      replace H : (if t189 = true then (if a0_1 ≥ 1 then (if a0_1 ≤ 3 then (if x3_1 = true then (some ((l0_5.length : Int) == 0)) else (if x4_6 = true then (some ((l0_5.length : Int) == 0)) else (some false))) else (some false)) else (some false)) else (some false)) = some r := H
      have A12 := Aside0.mk A120
      clear A120
      by_cases c13 : t189 = true
      ·subst c13
       replace H := (itT_ _ _).symm.trans H
       by_cases c14 : a0_1 ≥ 1
       ·rw [if_pos c14] at H
        have c14b0 : decide (1 ≤ a0_1) = true := decide_eq_true c14; clear c14
        by_cases c15 : a0_1 ≤ 3
        ·rw [if_pos c15] at H
         have c15b0 : decide (a0_1 ≤ 3) = true := decide_eq_true c15; clear c15
         by_cases c16 : x3_1 = true
         ·subst c16
          replace H := (itT_ _ _).symm.trans H
          obtain rfl := Option.some.inj H
          have hcz17_0 : wc.cell? ⟨gb188, 0, none⟩ = some (.int .i64 a0_0) := (blk_cell BK188.out 0).trans rfl
          have hcz17_1 : wc.cell? ⟨gb188, 1, none⟩ = some (.int .i64 a0_1) := (blk_cell BK188.out 1).trans rfl
          have hcz17_2 : wc.cell? ⟨gb188, 2, none⟩ = some (.string a0_2) := (blk_cell BK188.out 2).trans rfl
          have hcz17_3 : wc.cell? ⟨gb188, 3, none⟩ = some (.slice A0_3 l0_3.length c0_3) := (blk_cell BK188.out 3).trans rfl
          have hcz17_4 : wc.cell? ⟨gb188, 4, none⟩ = some (.slice A0_4 l0_4.length c0_4) := (blk_cell BK188.out 4).trans rfl
          have hcz17_5 : wc.cell? ⟨gb188, 5, none⟩ = some (.slice A0_5 l0_5.length c0_5) := (blk_cell BK188.out 5).trans rfl
          have hfz17_0 := blk_frozen BK188.out 0
          have hfz17_1 := blk_frozen BK188.out 1
          have hfz17_2 := blk_frozen BK188.out 2
          have hfz17_3 := blk_frozen BK188.out 3
          have hfz17_4 := blk_frozen BK188.out 4
          have hfz17_5 := blk_frozen BK188.out 5
          go_wp2_with (first | ((with_reducible refine gate_callee (f := 30) rfl ?_); refine goesL_ (some 31) rfl rfl Try.func30 sq1 rfl #[.string a0_2] rfl sq56 ?_; (with_reducible refine (tontineref17_Word.calls kj6 a0_2 true _ A12.out).mono ?_); rintro e w18 ⟨rfl, hb⟩; refine ⟨_, rfl, ?_⟩; have n0_ := Aside0.mk (blk_below (g := gb188) (o := .cells #[.int .i64 a0_0, .int .i64 a0_1, .string a0_2, .slice A0_3 l0_3.length c0_3, .slice A0_4 l0_4.length c0_4, .slice A0_5 l0_5.length c0_5] 41 (0, 0)) sq44 hb); have n1_ := Aside0.mk (below_step sq67 hb); clear BK188; clear HB; have BK188 := n0_; have HB := n1_; clear n0_ n1_; (try clear hb); (try clear hb2); (try clear hk); (try clear hi); have hcz19_0 : w18.cell? ⟨gb188, 0, none⟩ = some (.int .i64 a0_0) := (blk_cell BK188.out 0).trans rfl; have hcz19_1 : w18.cell? ⟨gb188, 1, none⟩ = some (.int .i64 a0_1) := (blk_cell BK188.out 1).trans rfl; have hcz19_2 : w18.cell? ⟨gb188, 2, none⟩ = some (.string a0_2) := (blk_cell BK188.out 2).trans rfl; have hcz19_3 : w18.cell? ⟨gb188, 3, none⟩ = some (.slice A0_3 l0_3.length c0_3) := (blk_cell BK188.out 3).trans rfl; have hcz19_4 : w18.cell? ⟨gb188, 4, none⟩ = some (.slice A0_4 l0_4.length c0_4) := (blk_cell BK188.out 4).trans rfl; have hcz19_5 : w18.cell? ⟨gb188, 5, none⟩ = some (.slice A0_5 l0_5.length c0_5) := (blk_cell BK188.out 5).trans rfl; have hfz19_0 := blk_frozen BK188.out 0; have hfz19_1 := blk_frozen BK188.out 1; have hfz19_2 := blk_frozen BK188.out 2; have hfz19_3 := blk_frozen BK188.out 3; have hfz19_4 := blk_frozen BK188.out 4; have hfz19_5 := blk_frozen BK188.out 5))
          go_ret
          exact ⟨sq23, sq67⟩
         replace c16 := Bool.eq_false_iff.mpr c16
         subst c16
         replace H := (itF_ _ _).symm.trans H
         by_cases c20 : x4_6 = true
         ·subst c20
          replace H := (itT_ _ _).symm.trans H
          obtain rfl := Option.some.inj H
          have hcz21_0 : wc.cell? ⟨gb188, 0, none⟩ = some (.int .i64 a0_0) := (blk_cell BK188.out 0).trans rfl
          have hcz21_1 : wc.cell? ⟨gb188, 1, none⟩ = some (.int .i64 a0_1) := (blk_cell BK188.out 1).trans rfl
          have hcz21_2 : wc.cell? ⟨gb188, 2, none⟩ = some (.string a0_2) := (blk_cell BK188.out 2).trans rfl
          have hcz21_3 : wc.cell? ⟨gb188, 3, none⟩ = some (.slice A0_3 l0_3.length c0_3) := (blk_cell BK188.out 3).trans rfl
          have hcz21_4 : wc.cell? ⟨gb188, 4, none⟩ = some (.slice A0_4 l0_4.length c0_4) := (blk_cell BK188.out 4).trans rfl
          have hcz21_5 : wc.cell? ⟨gb188, 5, none⟩ = some (.slice A0_5 l0_5.length c0_5) := (blk_cell BK188.out 5).trans rfl
          have hfz21_0 := blk_frozen BK188.out 0
          have hfz21_1 := blk_frozen BK188.out 1
          have hfz21_2 := blk_frozen BK188.out 2
          have hfz21_3 := blk_frozen BK188.out 3
          have hfz21_4 := blk_frozen BK188.out 4
          have hfz21_5 := blk_frozen BK188.out 5
          go_wp2_with (first | ((with_reducible refine gate_callee (f := 30) rfl ?_); refine goesL_ (some 31) rfl rfl Try.func30 sq1 rfl #[.string a0_2] rfl sq56 ?_; (with_reducible refine (tontineref17_Word.calls kj6 a0_2 true _ A12.out).mono ?_); rintro e w22 ⟨rfl, hb⟩; refine ⟨_, rfl, ?_⟩; have n0_ := Aside0.mk (blk_below (g := gb188) (o := .cells #[.int .i64 a0_0, .int .i64 a0_1, .string a0_2, .slice A0_3 l0_3.length c0_3, .slice A0_4 l0_4.length c0_4, .slice A0_5 l0_5.length c0_5] 41 (0, 0)) sq44 hb); have n1_ := Aside0.mk (below_step sq67 hb); clear BK188; clear HB; have BK188 := n0_; have HB := n1_; clear n0_ n1_; (try clear hb); (try clear hb2); (try clear hk); (try clear hi); have hcz23_0 : w22.cell? ⟨gb188, 0, none⟩ = some (.int .i64 a0_0) := (blk_cell BK188.out 0).trans rfl; have hcz23_1 : w22.cell? ⟨gb188, 1, none⟩ = some (.int .i64 a0_1) := (blk_cell BK188.out 1).trans rfl; have hcz23_2 : w22.cell? ⟨gb188, 2, none⟩ = some (.string a0_2) := (blk_cell BK188.out 2).trans rfl; have hcz23_3 : w22.cell? ⟨gb188, 3, none⟩ = some (.slice A0_3 l0_3.length c0_3) := (blk_cell BK188.out 3).trans rfl; have hcz23_4 : w22.cell? ⟨gb188, 4, none⟩ = some (.slice A0_4 l0_4.length c0_4) := (blk_cell BK188.out 4).trans rfl; have hcz23_5 : w22.cell? ⟨gb188, 5, none⟩ = some (.slice A0_5 l0_5.length c0_5) := (blk_cell BK188.out 5).trans rfl; have hfz23_0 := blk_frozen BK188.out 0; have hfz23_1 := blk_frozen BK188.out 1; have hfz23_2 := blk_frozen BK188.out 2; have hfz23_3 := blk_frozen BK188.out 3; have hfz23_4 := blk_frozen BK188.out 4; have hfz23_5 := blk_frozen BK188.out 5))
          go_ret
          exact ⟨sq23, sq67⟩
         replace c20 := Bool.eq_false_iff.mpr c20
         subst c20
         replace H := (itF_ _ _).symm.trans H
         obtain rfl := Option.some.inj H
         have hcz24_0 : wc.cell? ⟨gb188, 0, none⟩ = some (.int .i64 a0_0) := (blk_cell BK188.out 0).trans rfl
         have hcz24_1 : wc.cell? ⟨gb188, 1, none⟩ = some (.int .i64 a0_1) := (blk_cell BK188.out 1).trans rfl
         have hcz24_2 : wc.cell? ⟨gb188, 2, none⟩ = some (.string a0_2) := (blk_cell BK188.out 2).trans rfl
         have hcz24_3 : wc.cell? ⟨gb188, 3, none⟩ = some (.slice A0_3 l0_3.length c0_3) := (blk_cell BK188.out 3).trans rfl
         have hcz24_4 : wc.cell? ⟨gb188, 4, none⟩ = some (.slice A0_4 l0_4.length c0_4) := (blk_cell BK188.out 4).trans rfl
         have hcz24_5 : wc.cell? ⟨gb188, 5, none⟩ = some (.slice A0_5 l0_5.length c0_5) := (blk_cell BK188.out 5).trans rfl
         have hfz24_0 := blk_frozen BK188.out 0
         have hfz24_1 := blk_frozen BK188.out 1
         have hfz24_2 := blk_frozen BK188.out 2
         have hfz24_3 := blk_frozen BK188.out 3
         have hfz24_4 := blk_frozen BK188.out 4
         have hfz24_5 := blk_frozen BK188.out 5
         go_wp2_with (first | ((with_reducible refine gate_callee (f := 30) rfl ?_); refine goesL_ (some 31) rfl rfl Try.func30 sq1 rfl #[.string a0_2] rfl sq56 ?_; (with_reducible refine (tontineref17_Word.calls kj6 a0_2 true _ A12.out).mono ?_); rintro e w25 ⟨rfl, hb⟩; refine ⟨_, rfl, ?_⟩; have n0_ := Aside0.mk (blk_below (g := gb188) (o := .cells #[.int .i64 a0_0, .int .i64 a0_1, .string a0_2, .slice A0_3 l0_3.length c0_3, .slice A0_4 l0_4.length c0_4, .slice A0_5 l0_5.length c0_5] 41 (0, 0)) sq44 hb); have n1_ := Aside0.mk (below_step sq67 hb); clear BK188; clear HB; have BK188 := n0_; have HB := n1_; clear n0_ n1_; (try clear hb); (try clear hb2); (try clear hk); (try clear hi); have hcz26_0 : w25.cell? ⟨gb188, 0, none⟩ = some (.int .i64 a0_0) := (blk_cell BK188.out 0).trans rfl; have hcz26_1 : w25.cell? ⟨gb188, 1, none⟩ = some (.int .i64 a0_1) := (blk_cell BK188.out 1).trans rfl; have hcz26_2 : w25.cell? ⟨gb188, 2, none⟩ = some (.string a0_2) := (blk_cell BK188.out 2).trans rfl; have hcz26_3 : w25.cell? ⟨gb188, 3, none⟩ = some (.slice A0_3 l0_3.length c0_3) := (blk_cell BK188.out 3).trans rfl; have hcz26_4 : w25.cell? ⟨gb188, 4, none⟩ = some (.slice A0_4 l0_4.length c0_4) := (blk_cell BK188.out 4).trans rfl; have hcz26_5 : w25.cell? ⟨gb188, 5, none⟩ = some (.slice A0_5 l0_5.length c0_5) := (blk_cell BK188.out 5).trans rfl; have hfz26_0 := blk_frozen BK188.out 0; have hfz26_1 := blk_frozen BK188.out 1; have hfz26_2 := blk_frozen BK188.out 2; have hfz26_3 := blk_frozen BK188.out 3; have hfz26_4 := blk_frozen BK188.out 4; have hfz26_5 := blk_frozen BK188.out 5))
         go_ret
         exact ⟨sq23, sq67⟩
        rw [if_neg c15] at H
        have c15b0 : decide (a0_1 ≤ 3) = false := decide_eq_false c15; clear c15
        obtain rfl := Option.some.inj H
        have hcz27_0 : wc.cell? ⟨gb188, 0, none⟩ = some (.int .i64 a0_0) := (blk_cell BK188.out 0).trans rfl
        have hcz27_1 : wc.cell? ⟨gb188, 1, none⟩ = some (.int .i64 a0_1) := (blk_cell BK188.out 1).trans rfl
        have hcz27_2 : wc.cell? ⟨gb188, 2, none⟩ = some (.string a0_2) := (blk_cell BK188.out 2).trans rfl
        have hcz27_3 : wc.cell? ⟨gb188, 3, none⟩ = some (.slice A0_3 l0_3.length c0_3) := (blk_cell BK188.out 3).trans rfl
        have hcz27_4 : wc.cell? ⟨gb188, 4, none⟩ = some (.slice A0_4 l0_4.length c0_4) := (blk_cell BK188.out 4).trans rfl
        have hcz27_5 : wc.cell? ⟨gb188, 5, none⟩ = some (.slice A0_5 l0_5.length c0_5) := (blk_cell BK188.out 5).trans rfl
        have hfz27_0 := blk_frozen BK188.out 0
        have hfz27_1 := blk_frozen BK188.out 1
        have hfz27_2 := blk_frozen BK188.out 2
        have hfz27_3 := blk_frozen BK188.out 3
        have hfz27_4 := blk_frozen BK188.out 4
        have hfz27_5 := blk_frozen BK188.out 5
        go_wp2_with (first | ((with_reducible refine gate_callee (f := 30) rfl ?_); refine goesL_ (some 31) rfl rfl Try.func30 sq1 rfl #[.string a0_2] rfl sq56 ?_; (with_reducible refine (tontineref17_Word.calls kj6 a0_2 true _ A12.out).mono ?_); rintro e w28 ⟨rfl, hb⟩; refine ⟨_, rfl, ?_⟩; have n0_ := Aside0.mk (blk_below (g := gb188) (o := .cells #[.int .i64 a0_0, .int .i64 a0_1, .string a0_2, .slice A0_3 l0_3.length c0_3, .slice A0_4 l0_4.length c0_4, .slice A0_5 l0_5.length c0_5] 41 (0, 0)) sq44 hb); have n1_ := Aside0.mk (below_step sq67 hb); clear BK188; clear HB; have BK188 := n0_; have HB := n1_; clear n0_ n1_; (try clear hb); (try clear hb2); (try clear hk); (try clear hi); have hcz29_0 : w28.cell? ⟨gb188, 0, none⟩ = some (.int .i64 a0_0) := (blk_cell BK188.out 0).trans rfl; have hcz29_1 : w28.cell? ⟨gb188, 1, none⟩ = some (.int .i64 a0_1) := (blk_cell BK188.out 1).trans rfl; have hcz29_2 : w28.cell? ⟨gb188, 2, none⟩ = some (.string a0_2) := (blk_cell BK188.out 2).trans rfl; have hcz29_3 : w28.cell? ⟨gb188, 3, none⟩ = some (.slice A0_3 l0_3.length c0_3) := (blk_cell BK188.out 3).trans rfl; have hcz29_4 : w28.cell? ⟨gb188, 4, none⟩ = some (.slice A0_4 l0_4.length c0_4) := (blk_cell BK188.out 4).trans rfl; have hcz29_5 : w28.cell? ⟨gb188, 5, none⟩ = some (.slice A0_5 l0_5.length c0_5) := (blk_cell BK188.out 5).trans rfl; have hfz29_0 := blk_frozen BK188.out 0; have hfz29_1 := blk_frozen BK188.out 1; have hfz29_2 := blk_frozen BK188.out 2; have hfz29_3 := blk_frozen BK188.out 3; have hfz29_4 := blk_frozen BK188.out 4; have hfz29_5 := blk_frozen BK188.out 5))
        go_ret
        exact ⟨sq23, sq67⟩
       rw [if_neg c14] at H
       have c14b0 : decide (1 ≤ a0_1) = false := decide_eq_false c14; clear c14
       obtain rfl := Option.some.inj H
       have hcz30_0 : wc.cell? ⟨gb188, 0, none⟩ = some (.int .i64 a0_0) := (blk_cell BK188.out 0).trans rfl
       have hcz30_1 : wc.cell? ⟨gb188, 1, none⟩ = some (.int .i64 a0_1) := (blk_cell BK188.out 1).trans rfl
       have hcz30_2 : wc.cell? ⟨gb188, 2, none⟩ = some (.string a0_2) := (blk_cell BK188.out 2).trans rfl
       have hcz30_3 : wc.cell? ⟨gb188, 3, none⟩ = some (.slice A0_3 l0_3.length c0_3) := (blk_cell BK188.out 3).trans rfl
       have hcz30_4 : wc.cell? ⟨gb188, 4, none⟩ = some (.slice A0_4 l0_4.length c0_4) := (blk_cell BK188.out 4).trans rfl
       have hcz30_5 : wc.cell? ⟨gb188, 5, none⟩ = some (.slice A0_5 l0_5.length c0_5) := (blk_cell BK188.out 5).trans rfl
       have hfz30_0 := blk_frozen BK188.out 0
       have hfz30_1 := blk_frozen BK188.out 1
       have hfz30_2 := blk_frozen BK188.out 2
       have hfz30_3 := blk_frozen BK188.out 3
       have hfz30_4 := blk_frozen BK188.out 4
       have hfz30_5 := blk_frozen BK188.out 5
       go_wp2_with (first | ((with_reducible refine gate_callee (f := 30) rfl ?_); refine goesL_ (some 31) rfl rfl Try.func30 sq1 rfl #[.string a0_2] rfl sq56 ?_; (with_reducible refine (tontineref17_Word.calls kj6 a0_2 true _ A12.out).mono ?_); rintro e w31 ⟨rfl, hb⟩; refine ⟨_, rfl, ?_⟩; have n0_ := Aside0.mk (blk_below (g := gb188) (o := .cells #[.int .i64 a0_0, .int .i64 a0_1, .string a0_2, .slice A0_3 l0_3.length c0_3, .slice A0_4 l0_4.length c0_4, .slice A0_5 l0_5.length c0_5] 41 (0, 0)) sq44 hb); have n1_ := Aside0.mk (below_step sq67 hb); clear BK188; clear HB; have BK188 := n0_; have HB := n1_; clear n0_ n1_; (try clear hb); (try clear hb2); (try clear hk); (try clear hi); have hcz32_0 : w31.cell? ⟨gb188, 0, none⟩ = some (.int .i64 a0_0) := (blk_cell BK188.out 0).trans rfl; have hcz32_1 : w31.cell? ⟨gb188, 1, none⟩ = some (.int .i64 a0_1) := (blk_cell BK188.out 1).trans rfl; have hcz32_2 : w31.cell? ⟨gb188, 2, none⟩ = some (.string a0_2) := (blk_cell BK188.out 2).trans rfl; have hcz32_3 : w31.cell? ⟨gb188, 3, none⟩ = some (.slice A0_3 l0_3.length c0_3) := (blk_cell BK188.out 3).trans rfl; have hcz32_4 : w31.cell? ⟨gb188, 4, none⟩ = some (.slice A0_4 l0_4.length c0_4) := (blk_cell BK188.out 4).trans rfl; have hcz32_5 : w31.cell? ⟨gb188, 5, none⟩ = some (.slice A0_5 l0_5.length c0_5) := (blk_cell BK188.out 5).trans rfl; have hfz32_0 := blk_frozen BK188.out 0; have hfz32_1 := blk_frozen BK188.out 1; have hfz32_2 := blk_frozen BK188.out 2; have hfz32_3 := blk_frozen BK188.out 3; have hfz32_4 := blk_frozen BK188.out 4; have hfz32_5 := blk_frozen BK188.out 5))
       go_ret
       exact ⟨sq23, sq67⟩
      replace c13 := Bool.eq_false_iff.mpr c13
      subst c13
      replace H := (itF_ _ _).symm.trans H
      obtain rfl := Option.some.inj H
      have hcz33_0 : wc.cell? ⟨gb188, 0, none⟩ = some (.int .i64 a0_0) := (blk_cell BK188.out 0).trans rfl
      have hcz33_1 : wc.cell? ⟨gb188, 1, none⟩ = some (.int .i64 a0_1) := (blk_cell BK188.out 1).trans rfl
      have hcz33_2 : wc.cell? ⟨gb188, 2, none⟩ = some (.string a0_2) := (blk_cell BK188.out 2).trans rfl
      have hcz33_3 : wc.cell? ⟨gb188, 3, none⟩ = some (.slice A0_3 l0_3.length c0_3) := (blk_cell BK188.out 3).trans rfl
      have hcz33_4 : wc.cell? ⟨gb188, 4, none⟩ = some (.slice A0_4 l0_4.length c0_4) := (blk_cell BK188.out 4).trans rfl
      have hcz33_5 : wc.cell? ⟨gb188, 5, none⟩ = some (.slice A0_5 l0_5.length c0_5) := (blk_cell BK188.out 5).trans rfl
      have hfz33_0 := blk_frozen BK188.out 0
      have hfz33_1 := blk_frozen BK188.out 1
      have hfz33_2 := blk_frozen BK188.out 2
      have hfz33_3 := blk_frozen BK188.out 3
      have hfz33_4 := blk_frozen BK188.out 4
      have hfz33_5 := blk_frozen BK188.out 5
      go_wp2_with (first | ((with_reducible refine gate_callee (f := 30) rfl ?_); refine goesL_ (some 31) rfl rfl Try.func30 sq1 rfl #[.string a0_2] rfl sq56 ?_; (with_reducible refine (tontineref17_Word.calls kj6 a0_2 false _ A12.out).mono ?_); rintro e w34 ⟨rfl, hb⟩; refine ⟨_, rfl, ?_⟩; have n0_ := Aside0.mk (blk_below (g := gb188) (o := .cells #[.int .i64 a0_0, .int .i64 a0_1, .string a0_2, .slice A0_3 l0_3.length c0_3, .slice A0_4 l0_4.length c0_4, .slice A0_5 l0_5.length c0_5] 41 (0, 0)) sq44 hb); have n1_ := Aside0.mk (below_step sq67 hb); clear BK188; clear HB; have BK188 := n0_; have HB := n1_; clear n0_ n1_; (try clear hb); (try clear hb2); (try clear hk); (try clear hi)))
      go_ret
      exact ⟨sq23, sq67⟩
     rw [if_neg c11] at H
     have c11b0 : (a0_0 == 1) = false := beq_eq_false_iff_ne.mpr c11
     have c11b1 : (a0_0 != 1) = true := bne_iff_ne.mpr c11
     by_cases c35 : a0_0 = 2
     ·rw [if_pos c35] at H
      have c35b0 : (a0_0 == 2) = true := beq_iff_eq.mpr c35
      have c35b1 : (a0_0 != 2) = false := bne_eq_false_iff_eq.mpr c35
      clear c35
      replace H := Option.bind_eq_some_iff.mp H
      obtain ⟨t190, A360, H⟩ := H
      replace H : (if t190 = true then (if a0_1 = 0 then (if x4_6 = true then (some (decide ((l0_5.length : Int) > 0))) else (some false)) else (some false)) else (some false)) = some r := H
      have A36 := Aside0.mk A360
      clear A360
      by_cases c37 : t190 = true
      ·subst c37
       replace H := (itT_ _ _).symm.trans H
       by_cases c38 : a0_1 = 0
       ·rw [if_pos c38] at H
        have c38b0 : (a0_1 == 0) = true := beq_iff_eq.mpr c38
        have c38b1 : (a0_1 != 0) = false := bne_eq_false_iff_eq.mpr c38
        clear c38
        by_cases c39 : x4_6 = true
        ·subst c39
         replace H := (itT_ _ _).symm.trans H
         obtain rfl := Option.some.inj H
         have hcz40_0 : wc.cell? ⟨gb188, 0, none⟩ = some (.int .i64 a0_0) := (blk_cell BK188.out 0).trans rfl
         have hcz40_1 : wc.cell? ⟨gb188, 1, none⟩ = some (.int .i64 a0_1) := (blk_cell BK188.out 1).trans rfl
         have hcz40_2 : wc.cell? ⟨gb188, 2, none⟩ = some (.string a0_2) := (blk_cell BK188.out 2).trans rfl
         have hcz40_3 : wc.cell? ⟨gb188, 3, none⟩ = some (.slice A0_3 l0_3.length c0_3) := (blk_cell BK188.out 3).trans rfl
         have hcz40_4 : wc.cell? ⟨gb188, 4, none⟩ = some (.slice A0_4 l0_4.length c0_4) := (blk_cell BK188.out 4).trans rfl
         have hcz40_5 : wc.cell? ⟨gb188, 5, none⟩ = some (.slice A0_5 l0_5.length c0_5) := (blk_cell BK188.out 5).trans rfl
         have hfz40_0 := blk_frozen BK188.out 0
         have hfz40_1 := blk_frozen BK188.out 1
         have hfz40_2 := blk_frozen BK188.out 2
         have hfz40_3 := blk_frozen BK188.out 3
         have hfz40_4 := blk_frozen BK188.out 4
         have hfz40_5 := blk_frozen BK188.out 5
         go_wp2_with (first | ((with_reducible refine gate_callee (f := 30) rfl ?_); refine goesL_ (some 60) rfl rfl Try.func30 sq1 rfl #[.string a0_2] rfl sq56 ?_; (with_reducible refine (tontineref17_Word.calls kj6 a0_2 true _ A36.out).mono ?_); rintro e w41 ⟨rfl, hb⟩; refine ⟨_, rfl, ?_⟩; have n0_ := Aside0.mk (blk_below (g := gb188) (o := .cells #[.int .i64 a0_0, .int .i64 a0_1, .string a0_2, .slice A0_3 l0_3.length c0_3, .slice A0_4 l0_4.length c0_4, .slice A0_5 l0_5.length c0_5] 41 (0, 0)) sq44 hb); have n1_ := Aside0.mk (below_step sq67 hb); clear BK188; clear HB; have BK188 := n0_; have HB := n1_; clear n0_ n1_; (try clear hb); (try clear hb2); (try clear hk); (try clear hi); have hcz42_0 : w41.cell? ⟨gb188, 0, none⟩ = some (.int .i64 a0_0) := (blk_cell BK188.out 0).trans rfl; have hcz42_1 : w41.cell? ⟨gb188, 1, none⟩ = some (.int .i64 a0_1) := (blk_cell BK188.out 1).trans rfl; have hcz42_2 : w41.cell? ⟨gb188, 2, none⟩ = some (.string a0_2) := (blk_cell BK188.out 2).trans rfl; have hcz42_3 : w41.cell? ⟨gb188, 3, none⟩ = some (.slice A0_3 l0_3.length c0_3) := (blk_cell BK188.out 3).trans rfl; have hcz42_4 : w41.cell? ⟨gb188, 4, none⟩ = some (.slice A0_4 l0_4.length c0_4) := (blk_cell BK188.out 4).trans rfl; have hcz42_5 : w41.cell? ⟨gb188, 5, none⟩ = some (.slice A0_5 l0_5.length c0_5) := (blk_cell BK188.out 5).trans rfl; have hfz42_0 := blk_frozen BK188.out 0; have hfz42_1 := blk_frozen BK188.out 1; have hfz42_2 := blk_frozen BK188.out 2; have hfz42_3 := blk_frozen BK188.out 3; have hfz42_4 := blk_frozen BK188.out 4; have hfz42_5 := blk_frozen BK188.out 5))
         go_ret
         exact ⟨sq23, sq67⟩
        replace c39 := Bool.eq_false_iff.mpr c39
        subst c39
        replace H := (itF_ _ _).symm.trans H
        obtain rfl := Option.some.inj H
        have hcz43_0 : wc.cell? ⟨gb188, 0, none⟩ = some (.int .i64 a0_0) := (blk_cell BK188.out 0).trans rfl
        have hcz43_1 : wc.cell? ⟨gb188, 1, none⟩ = some (.int .i64 a0_1) := (blk_cell BK188.out 1).trans rfl
        have hcz43_2 : wc.cell? ⟨gb188, 2, none⟩ = some (.string a0_2) := (blk_cell BK188.out 2).trans rfl
        have hcz43_3 : wc.cell? ⟨gb188, 3, none⟩ = some (.slice A0_3 l0_3.length c0_3) := (blk_cell BK188.out 3).trans rfl
        have hcz43_4 : wc.cell? ⟨gb188, 4, none⟩ = some (.slice A0_4 l0_4.length c0_4) := (blk_cell BK188.out 4).trans rfl
        have hcz43_5 : wc.cell? ⟨gb188, 5, none⟩ = some (.slice A0_5 l0_5.length c0_5) := (blk_cell BK188.out 5).trans rfl
        have hfz43_0 := blk_frozen BK188.out 0
        have hfz43_1 := blk_frozen BK188.out 1
        have hfz43_2 := blk_frozen BK188.out 2
        have hfz43_3 := blk_frozen BK188.out 3
        have hfz43_4 := blk_frozen BK188.out 4
        have hfz43_5 := blk_frozen BK188.out 5
        go_wp2_with (first | ((with_reducible refine gate_callee (f := 30) rfl ?_); refine goesL_ (some 60) rfl rfl Try.func30 sq1 rfl #[.string a0_2] rfl sq56 ?_; (with_reducible refine (tontineref17_Word.calls kj6 a0_2 true _ A36.out).mono ?_); rintro e w44 ⟨rfl, hb⟩; refine ⟨_, rfl, ?_⟩; have n0_ := Aside0.mk (blk_below (g := gb188) (o := .cells #[.int .i64 a0_0, .int .i64 a0_1, .string a0_2, .slice A0_3 l0_3.length c0_3, .slice A0_4 l0_4.length c0_4, .slice A0_5 l0_5.length c0_5] 41 (0, 0)) sq44 hb); have n1_ := Aside0.mk (below_step sq67 hb); clear BK188; clear HB; have BK188 := n0_; have HB := n1_; clear n0_ n1_; (try clear hb); (try clear hb2); (try clear hk); (try clear hi); have hcz45_0 : w44.cell? ⟨gb188, 0, none⟩ = some (.int .i64 a0_0) := (blk_cell BK188.out 0).trans rfl; have hcz45_1 : w44.cell? ⟨gb188, 1, none⟩ = some (.int .i64 a0_1) := (blk_cell BK188.out 1).trans rfl; have hcz45_2 : w44.cell? ⟨gb188, 2, none⟩ = some (.string a0_2) := (blk_cell BK188.out 2).trans rfl; have hcz45_3 : w44.cell? ⟨gb188, 3, none⟩ = some (.slice A0_3 l0_3.length c0_3) := (blk_cell BK188.out 3).trans rfl; have hcz45_4 : w44.cell? ⟨gb188, 4, none⟩ = some (.slice A0_4 l0_4.length c0_4) := (blk_cell BK188.out 4).trans rfl; have hcz45_5 : w44.cell? ⟨gb188, 5, none⟩ = some (.slice A0_5 l0_5.length c0_5) := (blk_cell BK188.out 5).trans rfl; have hfz45_0 := blk_frozen BK188.out 0; have hfz45_1 := blk_frozen BK188.out 1; have hfz45_2 := blk_frozen BK188.out 2; have hfz45_3 := blk_frozen BK188.out 3; have hfz45_4 := blk_frozen BK188.out 4; have hfz45_5 := blk_frozen BK188.out 5))
        go_ret
        exact ⟨sq23, sq67⟩
       rw [if_neg c38] at H
       have c38b0 : (a0_1 == 0) = false := beq_eq_false_iff_ne.mpr c38
       have c38b1 : (a0_1 != 0) = true := bne_iff_ne.mpr c38
       obtain rfl := Option.some.inj H
       have hcz46_0 : wc.cell? ⟨gb188, 0, none⟩ = some (.int .i64 a0_0) := (blk_cell BK188.out 0).trans rfl
       have hcz46_1 : wc.cell? ⟨gb188, 1, none⟩ = some (.int .i64 a0_1) := (blk_cell BK188.out 1).trans rfl
       have hcz46_2 : wc.cell? ⟨gb188, 2, none⟩ = some (.string a0_2) := (blk_cell BK188.out 2).trans rfl
       have hcz46_3 : wc.cell? ⟨gb188, 3, none⟩ = some (.slice A0_3 l0_3.length c0_3) := (blk_cell BK188.out 3).trans rfl
       have hcz46_4 : wc.cell? ⟨gb188, 4, none⟩ = some (.slice A0_4 l0_4.length c0_4) := (blk_cell BK188.out 4).trans rfl
       have hcz46_5 : wc.cell? ⟨gb188, 5, none⟩ = some (.slice A0_5 l0_5.length c0_5) := (blk_cell BK188.out 5).trans rfl
       have hfz46_0 := blk_frozen BK188.out 0
       have hfz46_1 := blk_frozen BK188.out 1
       have hfz46_2 := blk_frozen BK188.out 2
       have hfz46_3 := blk_frozen BK188.out 3
       have hfz46_4 := blk_frozen BK188.out 4
       have hfz46_5 := blk_frozen BK188.out 5
       go_wp2_with (first | ((with_reducible refine gate_callee (f := 30) rfl ?_); refine goesL_ (some 60) rfl rfl Try.func30 sq1 rfl #[.string a0_2] rfl sq56 ?_; (with_reducible refine (tontineref17_Word.calls kj6 a0_2 true _ A36.out).mono ?_); rintro e w47 ⟨rfl, hb⟩; refine ⟨_, rfl, ?_⟩; have n0_ := Aside0.mk (blk_below (g := gb188) (o := .cells #[.int .i64 a0_0, .int .i64 a0_1, .string a0_2, .slice A0_3 l0_3.length c0_3, .slice A0_4 l0_4.length c0_4, .slice A0_5 l0_5.length c0_5] 41 (0, 0)) sq44 hb); have n1_ := Aside0.mk (below_step sq67 hb); clear BK188; clear HB; have BK188 := n0_; have HB := n1_; clear n0_ n1_; (try clear hb); (try clear hb2); (try clear hk); (try clear hi); have hcz48_0 : w47.cell? ⟨gb188, 0, none⟩ = some (.int .i64 a0_0) := (blk_cell BK188.out 0).trans rfl; have hcz48_1 : w47.cell? ⟨gb188, 1, none⟩ = some (.int .i64 a0_1) := (blk_cell BK188.out 1).trans rfl; have hcz48_2 : w47.cell? ⟨gb188, 2, none⟩ = some (.string a0_2) := (blk_cell BK188.out 2).trans rfl; have hcz48_3 : w47.cell? ⟨gb188, 3, none⟩ = some (.slice A0_3 l0_3.length c0_3) := (blk_cell BK188.out 3).trans rfl; have hcz48_4 : w47.cell? ⟨gb188, 4, none⟩ = some (.slice A0_4 l0_4.length c0_4) := (blk_cell BK188.out 4).trans rfl; have hcz48_5 : w47.cell? ⟨gb188, 5, none⟩ = some (.slice A0_5 l0_5.length c0_5) := (blk_cell BK188.out 5).trans rfl; have hfz48_0 := blk_frozen BK188.out 0; have hfz48_1 := blk_frozen BK188.out 1; have hfz48_2 := blk_frozen BK188.out 2; have hfz48_3 := blk_frozen BK188.out 3; have hfz48_4 := blk_frozen BK188.out 4; have hfz48_5 := blk_frozen BK188.out 5))
       go_ret
       exact ⟨sq23, sq67⟩
      replace c37 := Bool.eq_false_iff.mpr c37
      subst c37
      replace H := (itF_ _ _).symm.trans H
      obtain rfl := Option.some.inj H
      have hcz49_0 : wc.cell? ⟨gb188, 0, none⟩ = some (.int .i64 a0_0) := (blk_cell BK188.out 0).trans rfl
      have hcz49_1 : wc.cell? ⟨gb188, 1, none⟩ = some (.int .i64 a0_1) := (blk_cell BK188.out 1).trans rfl
      have hcz49_2 : wc.cell? ⟨gb188, 2, none⟩ = some (.string a0_2) := (blk_cell BK188.out 2).trans rfl
      have hcz49_3 : wc.cell? ⟨gb188, 3, none⟩ = some (.slice A0_3 l0_3.length c0_3) := (blk_cell BK188.out 3).trans rfl
      have hcz49_4 : wc.cell? ⟨gb188, 4, none⟩ = some (.slice A0_4 l0_4.length c0_4) := (blk_cell BK188.out 4).trans rfl
      have hcz49_5 : wc.cell? ⟨gb188, 5, none⟩ = some (.slice A0_5 l0_5.length c0_5) := (blk_cell BK188.out 5).trans rfl
      have hfz49_0 := blk_frozen BK188.out 0
      have hfz49_1 := blk_frozen BK188.out 1
      have hfz49_2 := blk_frozen BK188.out 2
      have hfz49_3 := blk_frozen BK188.out 3
      have hfz49_4 := blk_frozen BK188.out 4
      have hfz49_5 := blk_frozen BK188.out 5
      go_wp2_with (first | ((with_reducible refine gate_callee (f := 30) rfl ?_); refine goesL_ (some 60) rfl rfl Try.func30 sq1 rfl #[.string a0_2] rfl sq56 ?_; (with_reducible refine (tontineref17_Word.calls kj6 a0_2 false _ A36.out).mono ?_); rintro e w50 ⟨rfl, hb⟩; refine ⟨_, rfl, ?_⟩; have n0_ := Aside0.mk (blk_below (g := gb188) (o := .cells #[.int .i64 a0_0, .int .i64 a0_1, .string a0_2, .slice A0_3 l0_3.length c0_3, .slice A0_4 l0_4.length c0_4, .slice A0_5 l0_5.length c0_5] 41 (0, 0)) sq44 hb); have n1_ := Aside0.mk (below_step sq67 hb); clear BK188; clear HB; have BK188 := n0_; have HB := n1_; clear n0_ n1_; (try clear hb); (try clear hb2); (try clear hk); (try clear hi)))
      go_ret
      exact ⟨sq23, sq67⟩
     rw [if_neg c35] at H
     have c35b0 : (a0_0 == 2) = false := beq_eq_false_iff_ne.mpr c35
     have c35b1 : (a0_0 != 2) = true := bne_iff_ne.mpr c35
     by_cases c51 : a0_0 = 3
     ·rw [if_pos c51] at H
      have c51b0 : (a0_0 == 3) = true := beq_iff_eq.mpr c51
      have c51b1 : (a0_0 != 3) = false := bne_eq_false_iff_eq.mpr c51
      clear c51
      by_cases c52 : a0_2.toList = ([] : List UInt8)
      ·rw [if_pos c52] at H
       have c52b0 : (a0_2.toList == ([] : List UInt8)) = true := beq_iff_eq.mpr c52
       have c52b1 : (a0_2.toList != ([] : List UInt8)) = false := bne_eq_false_iff_eq.mpr c52
       clear c52
       by_cases c53 : a0_1 = 0
       ·rw [if_pos c53] at H
        have c53b0 : (a0_1 == 0) = true := beq_iff_eq.mpr c53
        have c53b1 : (a0_1 != 0) = false := bne_eq_false_iff_eq.mpr c53
        clear c53
        by_cases c54 : x4_6 = true
        ·subst c54
         replace H := (itT_ _ _).symm.trans H
         obtain rfl := Option.some.inj H
         have hcz55_0 : wc.cell? ⟨gb188, 0, none⟩ = some (.int .i64 a0_0) := (blk_cell BK188.out 0).trans rfl
         have hcz55_1 : wc.cell? ⟨gb188, 1, none⟩ = some (.int .i64 a0_1) := (blk_cell BK188.out 1).trans rfl
         have hcz55_2 : wc.cell? ⟨gb188, 2, none⟩ = some (.string a0_2) := (blk_cell BK188.out 2).trans rfl
         have hcz55_3 : wc.cell? ⟨gb188, 3, none⟩ = some (.slice A0_3 l0_3.length c0_3) := (blk_cell BK188.out 3).trans rfl
         have hcz55_4 : wc.cell? ⟨gb188, 4, none⟩ = some (.slice A0_4 l0_4.length c0_4) := (blk_cell BK188.out 4).trans rfl
         have hcz55_5 : wc.cell? ⟨gb188, 5, none⟩ = some (.slice A0_5 l0_5.length c0_5) := (blk_cell BK188.out 5).trans rfl
         have hfz55_0 := blk_frozen BK188.out 0
         have hfz55_1 := blk_frozen BK188.out 1
         have hfz55_2 := blk_frozen BK188.out 2
         have hfz55_3 := blk_frozen BK188.out 3
         have hfz55_4 := blk_frozen BK188.out 4
         have hfz55_5 := blk_frozen BK188.out 5
         go_wp2
         go_ret
         exact ⟨sq23, sq67⟩
        replace c54 := Bool.eq_false_iff.mpr c54
        subst c54
        replace H := (itF_ _ _).symm.trans H
        obtain rfl := Option.some.inj H
        have hcz56_0 : wc.cell? ⟨gb188, 0, none⟩ = some (.int .i64 a0_0) := (blk_cell BK188.out 0).trans rfl
        have hcz56_1 : wc.cell? ⟨gb188, 1, none⟩ = some (.int .i64 a0_1) := (blk_cell BK188.out 1).trans rfl
        have hcz56_2 : wc.cell? ⟨gb188, 2, none⟩ = some (.string a0_2) := (blk_cell BK188.out 2).trans rfl
        have hcz56_3 : wc.cell? ⟨gb188, 3, none⟩ = some (.slice A0_3 l0_3.length c0_3) := (blk_cell BK188.out 3).trans rfl
        have hcz56_4 : wc.cell? ⟨gb188, 4, none⟩ = some (.slice A0_4 l0_4.length c0_4) := (blk_cell BK188.out 4).trans rfl
        have hcz56_5 : wc.cell? ⟨gb188, 5, none⟩ = some (.slice A0_5 l0_5.length c0_5) := (blk_cell BK188.out 5).trans rfl
        have hfz56_0 := blk_frozen BK188.out 0
        have hfz56_1 := blk_frozen BK188.out 1
        have hfz56_2 := blk_frozen BK188.out 2
        have hfz56_3 := blk_frozen BK188.out 3
        have hfz56_4 := blk_frozen BK188.out 4
        have hfz56_5 := blk_frozen BK188.out 5
        go_wp2
        go_ret
        exact ⟨sq23, sq67⟩
       rw [if_neg c53] at H
       have c53b0 : (a0_1 == 0) = false := beq_eq_false_iff_ne.mpr c53
       have c53b1 : (a0_1 != 0) = true := bne_iff_ne.mpr c53
       obtain rfl := Option.some.inj H
       have hcz57_0 : wc.cell? ⟨gb188, 0, none⟩ = some (.int .i64 a0_0) := (blk_cell BK188.out 0).trans rfl
       have hcz57_1 : wc.cell? ⟨gb188, 1, none⟩ = some (.int .i64 a0_1) := (blk_cell BK188.out 1).trans rfl
       have hcz57_2 : wc.cell? ⟨gb188, 2, none⟩ = some (.string a0_2) := (blk_cell BK188.out 2).trans rfl
       have hcz57_3 : wc.cell? ⟨gb188, 3, none⟩ = some (.slice A0_3 l0_3.length c0_3) := (blk_cell BK188.out 3).trans rfl
       have hcz57_4 : wc.cell? ⟨gb188, 4, none⟩ = some (.slice A0_4 l0_4.length c0_4) := (blk_cell BK188.out 4).trans rfl
       have hcz57_5 : wc.cell? ⟨gb188, 5, none⟩ = some (.slice A0_5 l0_5.length c0_5) := (blk_cell BK188.out 5).trans rfl
       have hfz57_0 := blk_frozen BK188.out 0
       have hfz57_1 := blk_frozen BK188.out 1
       have hfz57_2 := blk_frozen BK188.out 2
       have hfz57_3 := blk_frozen BK188.out 3
       have hfz57_4 := blk_frozen BK188.out 4
       have hfz57_5 := blk_frozen BK188.out 5
       go_wp2
       go_ret
       exact ⟨sq23, sq67⟩
      rw [if_neg c52] at H
      have c52b0 : (a0_2.toList == ([] : List UInt8)) = false := beq_eq_false_iff_ne.mpr c52
      have c52b1 : (a0_2.toList != ([] : List UInt8)) = true := bne_iff_ne.mpr c52
      obtain rfl := Option.some.inj H
      have hcz58_0 : wc.cell? ⟨gb188, 0, none⟩ = some (.int .i64 a0_0) := (blk_cell BK188.out 0).trans rfl
      have hcz58_1 : wc.cell? ⟨gb188, 1, none⟩ = some (.int .i64 a0_1) := (blk_cell BK188.out 1).trans rfl
      have hcz58_2 : wc.cell? ⟨gb188, 2, none⟩ = some (.string a0_2) := (blk_cell BK188.out 2).trans rfl
      have hcz58_3 : wc.cell? ⟨gb188, 3, none⟩ = some (.slice A0_3 l0_3.length c0_3) := (blk_cell BK188.out 3).trans rfl
      have hcz58_4 : wc.cell? ⟨gb188, 4, none⟩ = some (.slice A0_4 l0_4.length c0_4) := (blk_cell BK188.out 4).trans rfl
      have hcz58_5 : wc.cell? ⟨gb188, 5, none⟩ = some (.slice A0_5 l0_5.length c0_5) := (blk_cell BK188.out 5).trans rfl
      have hfz58_0 := blk_frozen BK188.out 0
      have hfz58_1 := blk_frozen BK188.out 1
      have hfz58_2 := blk_frozen BK188.out 2
      have hfz58_3 := blk_frozen BK188.out 3
      have hfz58_4 := blk_frozen BK188.out 4
      have hfz58_5 := blk_frozen BK188.out 5
      go_wp2
      go_ret
      exact ⟨sq23, sq67⟩
     rw [if_neg c51] at H
     have c51b0 : (a0_0 == 3) = false := beq_eq_false_iff_ne.mpr c51
     have c51b1 : (a0_0 != 3) = true := bne_iff_ne.mpr c51
     by_cases c59 : a0_0 ≥ 4
     ·rw [if_pos c59] at H
      have c59b0 : decide (4 ≤ a0_0) = true := decide_eq_true c59; clear c59
      by_cases c60 : a0_0 ≤ 7
      ·rw [if_pos c60] at H
       have c60b0 : decide (a0_0 ≤ 7) = true := decide_eq_true c60; clear c60
       by_cases c61 : a0_2.toList = ([] : List UInt8)
       ·rw [if_pos c61] at H
        have c61b0 : (a0_2.toList == ([] : List UInt8)) = true := beq_iff_eq.mpr c61
        have c61b1 : (a0_2.toList != ([] : List UInt8)) = false := bne_eq_false_iff_eq.mpr c61
        clear c61
        by_cases c62 : a0_1 = 0
        ·rw [if_pos c62] at H
         have c62b0 : (a0_1 == 0) = true := beq_iff_eq.mpr c62
         have c62b1 : (a0_1 != 0) = false := bne_eq_false_iff_eq.mpr c62
         clear c62
         by_cases c63 : x3_1 = true
         ·subst c63
          replace H := (itT_ _ _).symm.trans H
          obtain rfl := Option.some.inj H
          have hcz64_0 : wc.cell? ⟨gb188, 0, none⟩ = some (.int .i64 a0_0) := (blk_cell BK188.out 0).trans rfl
          have hcz64_1 : wc.cell? ⟨gb188, 1, none⟩ = some (.int .i64 a0_1) := (blk_cell BK188.out 1).trans rfl
          have hcz64_2 : wc.cell? ⟨gb188, 2, none⟩ = some (.string a0_2) := (blk_cell BK188.out 2).trans rfl
          have hcz64_3 : wc.cell? ⟨gb188, 3, none⟩ = some (.slice A0_3 l0_3.length c0_3) := (blk_cell BK188.out 3).trans rfl
          have hcz64_4 : wc.cell? ⟨gb188, 4, none⟩ = some (.slice A0_4 l0_4.length c0_4) := (blk_cell BK188.out 4).trans rfl
          have hcz64_5 : wc.cell? ⟨gb188, 5, none⟩ = some (.slice A0_5 l0_5.length c0_5) := (blk_cell BK188.out 5).trans rfl
          have hfz64_0 := blk_frozen BK188.out 0
          have hfz64_1 := blk_frozen BK188.out 1
          have hfz64_2 := blk_frozen BK188.out 2
          have hfz64_3 := blk_frozen BK188.out 3
          have hfz64_4 := blk_frozen BK188.out 4
          have hfz64_5 := blk_frozen BK188.out 5
          go_wp2
          go_ret
          exact ⟨sq23, sq67⟩
         replace c63 := Bool.eq_false_iff.mpr c63
         subst c63
         replace H := (itF_ _ _).symm.trans H
         by_cases c65 : x4_6 = true
         ·subst c65
          replace H := (itT_ _ _).symm.trans H
          obtain rfl := Option.some.inj H
          have hcz66_0 : wc.cell? ⟨gb188, 0, none⟩ = some (.int .i64 a0_0) := (blk_cell BK188.out 0).trans rfl
          have hcz66_1 : wc.cell? ⟨gb188, 1, none⟩ = some (.int .i64 a0_1) := (blk_cell BK188.out 1).trans rfl
          have hcz66_2 : wc.cell? ⟨gb188, 2, none⟩ = some (.string a0_2) := (blk_cell BK188.out 2).trans rfl
          have hcz66_3 : wc.cell? ⟨gb188, 3, none⟩ = some (.slice A0_3 l0_3.length c0_3) := (blk_cell BK188.out 3).trans rfl
          have hcz66_4 : wc.cell? ⟨gb188, 4, none⟩ = some (.slice A0_4 l0_4.length c0_4) := (blk_cell BK188.out 4).trans rfl
          have hcz66_5 : wc.cell? ⟨gb188, 5, none⟩ = some (.slice A0_5 l0_5.length c0_5) := (blk_cell BK188.out 5).trans rfl
          have hfz66_0 := blk_frozen BK188.out 0
          have hfz66_1 := blk_frozen BK188.out 1
          have hfz66_2 := blk_frozen BK188.out 2
          have hfz66_3 := blk_frozen BK188.out 3
          have hfz66_4 := blk_frozen BK188.out 4
          have hfz66_5 := blk_frozen BK188.out 5
          go_wp2
          go_ret
          exact ⟨sq23, sq67⟩
         replace c65 := Bool.eq_false_iff.mpr c65
         subst c65
         replace H := (itF_ _ _).symm.trans H
         obtain rfl := Option.some.inj H
         have hcz67_0 : wc.cell? ⟨gb188, 0, none⟩ = some (.int .i64 a0_0) := (blk_cell BK188.out 0).trans rfl
         have hcz67_1 : wc.cell? ⟨gb188, 1, none⟩ = some (.int .i64 a0_1) := (blk_cell BK188.out 1).trans rfl
         have hcz67_2 : wc.cell? ⟨gb188, 2, none⟩ = some (.string a0_2) := (blk_cell BK188.out 2).trans rfl
         have hcz67_3 : wc.cell? ⟨gb188, 3, none⟩ = some (.slice A0_3 l0_3.length c0_3) := (blk_cell BK188.out 3).trans rfl
         have hcz67_4 : wc.cell? ⟨gb188, 4, none⟩ = some (.slice A0_4 l0_4.length c0_4) := (blk_cell BK188.out 4).trans rfl
         have hcz67_5 : wc.cell? ⟨gb188, 5, none⟩ = some (.slice A0_5 l0_5.length c0_5) := (blk_cell BK188.out 5).trans rfl
         have hfz67_0 := blk_frozen BK188.out 0
         have hfz67_1 := blk_frozen BK188.out 1
         have hfz67_2 := blk_frozen BK188.out 2
         have hfz67_3 := blk_frozen BK188.out 3
         have hfz67_4 := blk_frozen BK188.out 4
         have hfz67_5 := blk_frozen BK188.out 5
         go_wp2
         go_ret
         exact ⟨sq23, sq67⟩
        rw [if_neg c62] at H
        have c62b0 : (a0_1 == 0) = false := beq_eq_false_iff_ne.mpr c62
        have c62b1 : (a0_1 != 0) = true := bne_iff_ne.mpr c62
        obtain rfl := Option.some.inj H
        have hcz68_0 : wc.cell? ⟨gb188, 0, none⟩ = some (.int .i64 a0_0) := (blk_cell BK188.out 0).trans rfl
        have hcz68_1 : wc.cell? ⟨gb188, 1, none⟩ = some (.int .i64 a0_1) := (blk_cell BK188.out 1).trans rfl
        have hcz68_2 : wc.cell? ⟨gb188, 2, none⟩ = some (.string a0_2) := (blk_cell BK188.out 2).trans rfl
        have hcz68_3 : wc.cell? ⟨gb188, 3, none⟩ = some (.slice A0_3 l0_3.length c0_3) := (blk_cell BK188.out 3).trans rfl
        have hcz68_4 : wc.cell? ⟨gb188, 4, none⟩ = some (.slice A0_4 l0_4.length c0_4) := (blk_cell BK188.out 4).trans rfl
        have hcz68_5 : wc.cell? ⟨gb188, 5, none⟩ = some (.slice A0_5 l0_5.length c0_5) := (blk_cell BK188.out 5).trans rfl
        have hfz68_0 := blk_frozen BK188.out 0
        have hfz68_1 := blk_frozen BK188.out 1
        have hfz68_2 := blk_frozen BK188.out 2
        have hfz68_3 := blk_frozen BK188.out 3
        have hfz68_4 := blk_frozen BK188.out 4
        have hfz68_5 := blk_frozen BK188.out 5
        go_wp2
        go_ret
        exact ⟨sq23, sq67⟩
       rw [if_neg c61] at H
       have c61b0 : (a0_2.toList == ([] : List UInt8)) = false := beq_eq_false_iff_ne.mpr c61
       have c61b1 : (a0_2.toList != ([] : List UInt8)) = true := bne_iff_ne.mpr c61
       obtain rfl := Option.some.inj H
       have hcz69_0 : wc.cell? ⟨gb188, 0, none⟩ = some (.int .i64 a0_0) := (blk_cell BK188.out 0).trans rfl
       have hcz69_1 : wc.cell? ⟨gb188, 1, none⟩ = some (.int .i64 a0_1) := (blk_cell BK188.out 1).trans rfl
       have hcz69_2 : wc.cell? ⟨gb188, 2, none⟩ = some (.string a0_2) := (blk_cell BK188.out 2).trans rfl
       have hcz69_3 : wc.cell? ⟨gb188, 3, none⟩ = some (.slice A0_3 l0_3.length c0_3) := (blk_cell BK188.out 3).trans rfl
       have hcz69_4 : wc.cell? ⟨gb188, 4, none⟩ = some (.slice A0_4 l0_4.length c0_4) := (blk_cell BK188.out 4).trans rfl
       have hcz69_5 : wc.cell? ⟨gb188, 5, none⟩ = some (.slice A0_5 l0_5.length c0_5) := (blk_cell BK188.out 5).trans rfl
       have hfz69_0 := blk_frozen BK188.out 0
       have hfz69_1 := blk_frozen BK188.out 1
       have hfz69_2 := blk_frozen BK188.out 2
       have hfz69_3 := blk_frozen BK188.out 3
       have hfz69_4 := blk_frozen BK188.out 4
       have hfz69_5 := blk_frozen BK188.out 5
       go_wp2
       go_ret
       exact ⟨sq23, sq67⟩
      rw [if_neg c60] at H
      have c60b0 : decide (a0_0 ≤ 7) = false := decide_eq_false c60; clear c60
      obtain rfl := Option.some.inj H
      have hcz70_0 : wc.cell? ⟨gb188, 0, none⟩ = some (.int .i64 a0_0) := (blk_cell BK188.out 0).trans rfl
      have hcz70_1 : wc.cell? ⟨gb188, 1, none⟩ = some (.int .i64 a0_1) := (blk_cell BK188.out 1).trans rfl
      have hcz70_2 : wc.cell? ⟨gb188, 2, none⟩ = some (.string a0_2) := (blk_cell BK188.out 2).trans rfl
      have hcz70_3 : wc.cell? ⟨gb188, 3, none⟩ = some (.slice A0_3 l0_3.length c0_3) := (blk_cell BK188.out 3).trans rfl
      have hcz70_4 : wc.cell? ⟨gb188, 4, none⟩ = some (.slice A0_4 l0_4.length c0_4) := (blk_cell BK188.out 4).trans rfl
      have hcz70_5 : wc.cell? ⟨gb188, 5, none⟩ = some (.slice A0_5 l0_5.length c0_5) := (blk_cell BK188.out 5).trans rfl
      have hfz70_0 := blk_frozen BK188.out 0
      have hfz70_1 := blk_frozen BK188.out 1
      have hfz70_2 := blk_frozen BK188.out 2
      have hfz70_3 := blk_frozen BK188.out 3
      have hfz70_4 := blk_frozen BK188.out 4
      have hfz70_5 := blk_frozen BK188.out 5
      go_wp2
      go_ret
      exact ⟨sq23, sq67⟩
     rw [if_neg c59] at H
     have c59b0 : decide (4 ≤ a0_0) = false := decide_eq_false c59; clear c59
     obtain rfl := Option.some.inj H
     have hcz71_0 : wc.cell? ⟨gb188, 0, none⟩ = some (.int .i64 a0_0) := (blk_cell BK188.out 0).trans rfl
     have hcz71_1 : wc.cell? ⟨gb188, 1, none⟩ = some (.int .i64 a0_1) := (blk_cell BK188.out 1).trans rfl
     have hcz71_2 : wc.cell? ⟨gb188, 2, none⟩ = some (.string a0_2) := (blk_cell BK188.out 2).trans rfl
     have hcz71_3 : wc.cell? ⟨gb188, 3, none⟩ = some (.slice A0_3 l0_3.length c0_3) := (blk_cell BK188.out 3).trans rfl
     have hcz71_4 : wc.cell? ⟨gb188, 4, none⟩ = some (.slice A0_4 l0_4.length c0_4) := (blk_cell BK188.out 4).trans rfl
     have hcz71_5 : wc.cell? ⟨gb188, 5, none⟩ = some (.slice A0_5 l0_5.length c0_5) := (blk_cell BK188.out 5).trans rfl
     have hfz71_0 := blk_frozen BK188.out 0
     have hfz71_1 := blk_frozen BK188.out 1
     have hfz71_2 := blk_frozen BK188.out 2
     have hfz71_3 := blk_frozen BK188.out 3
     have hfz71_4 := blk_frozen BK188.out 4
     have hfz71_5 := blk_frozen BK188.out 5
     go_wp2
     go_ret
     exact ⟨sq23, sq67⟩

/-! ### tontineref17_formulas: function 20 -/
def tontineref17_formulas.f (a0_0 : Int) (a0_1 : Int) (a0_2 : ByteArray) (l0_3 : List (S43)) (l0_4 : List (S43)) (l0_5 : List (S43)) : Option ((List (List (S43)))) := some (([l0_3, l0_4, l0_5] : List (List (S43))))
set_option maxHeartbeats 8000000 in
set_option maxRecDepth 100000 in
theorem tontineref17_formulas.calls (a0_0 : Int) (a0_1 : Int) (a0_2 : ByteArray) (P0_3_ : Nat → Prop) (A0_3 : Option Addr) (c0_3 : Nat) (l0_3 : List (S43)) (P0_4_ : Nat → Prop) (A0_4 : Option Addr) (c0_4 : Nat) (l0_4 : List (S43)) (P0_5_ : Nat → Prop) (A0_5 : Option Addr) (c0_5 : Nat) (l0_5 : List (S43)) (r : List (List (S43))) (w : World) (hs0_3 : Kd.V k43 43 w w.heap.size (fun k_ => P0_3_ k_) (.slice A0_3 l0_3.length c0_3) l0_3) (hs0_4 : Kd.V k43 43 w w.heap.size (fun k_ => P0_4_ k_) (.slice A0_4 l0_4.length c0_4) l0_4) (hs0_5 : Kd.V k43 43 w w.heap.size (fun k_ => P0_5_ k_) (.slice A0_5 l0_5.length c0_5) l0_5) (h : tontineref17_formulas.f a0_0 a0_1 a0_2 l0_3 l0_4 l0_5 = some r) :
  Calls Try.prog 20 #[.agg #[.int .i64 a0_0, .int .i64 a0_1, .string a0_2, .slice A0_3 l0_3.length c0_3, .slice A0_4 l0_4.length c0_4, .slice A0_5 l0_5.length c0_5]] w fun e w' => ∃ v0_ : Value, e = .returned (v0_) ∧ Kd.N (Kd.slice 43 k43) 26 w' w.heap.size (fun k_ => ((P0_3_ k_ ∨ P0_4_ k_ ∨ P0_5_ k_) ∨ w.heap.size ≤ k_)) v0_ r ∧ Below w.heap.size w w' := by
 have hu41 := Try.underlying41
 have HO0_3 := Aside0.mk (show Kd.V k43 43 w w.heap.size (fun k_ => ((P0_3_ k_ ∨ P0_4_ k_ ∨ P0_5_ k_) ∨ w.heap.size ≤ k_)) (.slice A0_3 l0_3.length c0_3) l0_3 from Kd.V_mono hs0_3 (fun k_ hk => .inl (.inl hk)))
 have HO0_4 := Aside0.mk (show Kd.V k43 43 w w.heap.size (fun k_ => ((P0_3_ k_ ∨ P0_4_ k_ ∨ P0_5_ k_) ∨ w.heap.size ≤ k_)) (.slice A0_4 l0_4.length c0_4) l0_4 from Kd.V_mono hs0_4 (fun k_ hk => .inl (.inr (.inl hk))))
 have HO0_5 := Aside0.mk (show Kd.V k43 43 w w.heap.size (fun k_ => ((P0_3_ k_ ∨ P0_4_ k_ ∨ P0_5_ k_) ∨ w.heap.size ≤ k_)) (.slice A0_5 l0_5.length c0_5) l0_5 from Kd.V_mono hs0_5 (fun k_ hk => .inl (.inr (.inr hk))))
 have HB := Aside0.mk (Below.refl w.heap.size w)
 have H : (some (([l0_3, l0_4, l0_5] : List (List (S43))))) = some r := h
 clear h
 obtain ⟨y192, hy192⟩ : ∃ y_ : List (List (S43)), y_ = (([l0_3, l0_4, l0_5] : List (List (S43)))) := ⟨_, rfl⟩
 replace H : (some y192) = some r := by first | (rw [hy192]; with_reducible exact H) | (have H2_ := (Option.bind_some _ _).symm.trans H; rw [hy192]; with_reducible exact H2_) | (have H2_ := (Option.bind_some _ _).symm.trans H; with_reducible exact H2_) | with_reducible exact H | (rw [hy192]; exact H) | exact H
 have Ny192 := Aside0.mk hy192
 clear hy192
 obtain rfl := Option.some.inj H
 go_enter Try.func20, Try.ntmps20
 go_wp2_with (first | ((with_reducible refine gate_dst (N := 1) rfl ?_); refine box_event ?hg (N := 1) ?hd (cs := #[.int .i64 a0_0, .int .i64 a0_1, .string a0_2, .slice A0_3 l0_3.length c0_3, .slice A0_4 l0_4.length c0_4, .slice A0_5 l0_5.length c0_5]) (t := 41) ?hr ?_; (case hd => rfl); (case hg => rfl); (case hr => first | (go_simp; done) | (go_simp; rfl)); intro gb191 hg w2 hbox hb; have n0_ := Aside0.mk (Kd.V_below (Kd.V_elderB (by (with_reducible repeat (first | apply Kd.V_alloc | apply Kd.V_drewN | apply Kd.V_drew)); exact HO0_3.out) gb191 (Nat.le_of_eq hg.symm)) hb); have n1_ := Aside0.mk (Kd.V_below (Kd.V_elderB (by (with_reducible repeat (first | apply Kd.V_alloc | apply Kd.V_drewN | apply Kd.V_drew)); exact HO0_4.out) gb191 (Nat.le_of_eq hg.symm)) hb); have n2_ := Aside0.mk (Kd.V_below (Kd.V_elderB (by (with_reducible repeat (first | apply Kd.V_alloc | apply Kd.V_drewN | apply Kd.V_drew)); exact HO0_5.out) gb191 (Nat.le_of_eq hg.symm)) hb); have n3_ := Aside0.mk (below_step sq55 hb); have n4_ := Aside0.mk (hbox); have n5_ := Aside0.mk ((by rw [hg]; exact (below_size sq55) : w.heap.size ≤ gb191)); have n6_ := Aside0.mk ((by rw [hg]; exact (below_size sq55) : w.heap.size ≤ gb191)); clear HO0_3; clear HO0_4; clear HO0_5; clear HB; have HO0_3 := n0_; have HO0_4 := n1_; have HO0_5 := n2_; have HB := n3_; have BK191 := n4_; have GW191 := n5_; have GE191 := n6_; clear n0_ n1_ n2_ n3_ n4_ n5_ n6_; clear hb hbox hg; have hcz3_0 : w2.cell? ⟨gb191, 0, none⟩ = some (.int .i64 a0_0) := (blk_cell BK191.out 0).trans rfl; have hcz3_1 : w2.cell? ⟨gb191, 1, none⟩ = some (.int .i64 a0_1) := (blk_cell BK191.out 1).trans rfl; have hcz3_2 : w2.cell? ⟨gb191, 2, none⟩ = some (.string a0_2) := (blk_cell BK191.out 2).trans rfl; have hcz3_3 : w2.cell? ⟨gb191, 3, none⟩ = some (.slice A0_3 l0_3.length c0_3) := (blk_cell BK191.out 3).trans rfl; have hcz3_4 : w2.cell? ⟨gb191, 4, none⟩ = some (.slice A0_4 l0_4.length c0_4) := (blk_cell BK191.out 4).trans rfl; have hcz3_5 : w2.cell? ⟨gb191, 5, none⟩ = some (.slice A0_5 l0_5.length c0_5) := (blk_cell BK191.out 5).trans rfl; have hfz3_0 := blk_frozen BK191.out 0; have hfz3_1 := blk_frozen BK191.out 1; have hfz3_2 := blk_frozen BK191.out 2; have hfz3_3 := blk_frozen BK191.out 3; have hfz3_4 := blk_frozen BK191.out 4; have hfz3_5 := blk_frozen BK191.out 5) | ((with_reducible refine gate_dst (N := 9) rfl ?_); refine Kd.N_lit (Kd.slice 43 k43) _ 26 ?hg (N' := 9) ?hd (xs := ([l0_3, l0_4, l0_5] : List (List (S43)))) (inner := [.slice A0_3 l0_3.length c0_3, .slice A0_4 l0_4.length c0_4, .slice A0_5 l0_5.length c0_5]) (ok := (fun k_ => ((P0_3_ k_ ∨ P0_4_ k_ ∨ P0_5_ k_) ∨ w.heap.size ≤ k_) ∧ k_ ≠ gb191)) (okp := (fun k_ => ((P0_3_ k_ ∨ P0_4_ k_ ∨ P0_5_ k_) ∨ w.heap.size ≤ k_) ∧ k_ ≠ gb191)) ?hr ?hp (fun _ hk => hk) ((show ∀ k_, w2.heap.size ≤ k_ → (fun k_ => ((P0_3_ k_ ∨ P0_4_ k_ ∨ P0_5_ k_) ∨ w.heap.size ≤ k_) ∧ k_ ≠ gb191) k_ from fun k_ hk => ⟨(.inr (Nat.le_trans (below_size sq68) hk)), Kd.freshB (g := gb191) (o := .cells #[.int .i64 a0_0, .int .i64 a0_1, .string a0_2, .slice A0_3 l0_3.length c0_3, .slice A0_4 l0_4.length c0_4, .slice A0_5 l0_5.length c0_5] 41 (0, 0)) (by (with_reducible repeat (first | refine blk_drewN ?_ _ | refine blk_drew ?_ | refine blk_alloc ?_ _)); exact BK191.out) k_ hk⟩) _ (Nat.le_refl _)) (Below.refl _ _) (Nat.le_refl _) (by simp) ?_; (case hd => rfl); (case hg => rfl); (case hr => first | (go_simp; done) | (go_simp; rfl)); (case hp => exact (Reps.one (show Kd.FK (Kd.slice 43 k43) _ _ l0_3 [.slice A0_3 l0_3.length c0_3] from (Kd.FK_slice_mk (Kd.V_reads' (Kd.V_mono (ok' := (fun k_ => ((P0_3_ k_ ∨ P0_4_ k_ ∨ P0_5_ k_) ∨ w.heap.size ≤ k_) ∧ k_ ≠ gb191)) (HO0_3.out) (fun k_ hk => ⟨hk.1, hk.2⟩))).2.1 (Kd.V_F (Kd.V_mono (ok' := (fun k_ => ((P0_3_ k_ ∨ P0_4_ k_ ∨ P0_5_ k_) ∨ w.heap.size ≤ k_) ∧ k_ ≠ gb191)) (HO0_3.out) (fun k_ hk => ⟨hk.1, hk.2⟩))))) (Reps.one (show Kd.FK (Kd.slice 43 k43) _ _ l0_4 [.slice A0_4 l0_4.length c0_4] from (Kd.FK_slice_mk (Kd.V_reads' (Kd.V_mono (ok' := (fun k_ => ((P0_3_ k_ ∨ P0_4_ k_ ∨ P0_5_ k_) ∨ w.heap.size ≤ k_) ∧ k_ ≠ gb191)) (HO0_4.out) (fun k_ hk => ⟨hk.1, hk.2⟩))).2.1 (Kd.V_F (Kd.V_mono (ok' := (fun k_ => ((P0_3_ k_ ∨ P0_4_ k_ ∨ P0_5_ k_) ∨ w.heap.size ≤ k_) ∧ k_ ≠ gb191)) (HO0_4.out) (fun k_ hk => ⟨hk.1, hk.2⟩))))) (Reps.one (show Kd.FK (Kd.slice 43 k43) _ _ l0_5 [.slice A0_5 l0_5.length c0_5] from (Kd.FK_slice_mk (Kd.V_reads' (Kd.V_mono (ok' := (fun k_ => ((P0_3_ k_ ∨ P0_4_ k_ ∨ P0_5_ k_) ∨ w.heap.size ≤ k_) ∧ k_ ≠ gb191)) (HO0_5.out) (fun k_ hk => ⟨hk.1, hk.2⟩))).2.1 (Kd.V_F (Kd.V_mono (ok' := (fun k_ => ((P0_3_ k_ ∨ P0_4_ k_ ∨ P0_5_ k_) ∨ w.heap.size ≤ k_) ∧ k_ ≠ gb191)) (HO0_5.out) (fun k_ hk => ⟨hk.1, hk.2⟩))))) (Reps.none _ _))))); intro v193 w4 ho5 hb hg_ hnew_; clear hg_ hnew_; (first | rw [← Ny192.out] at ho5 | (simp only [Int.reduceToNat] at ho5; rw [← Ny192.out] at ho5)); have n0_ := Aside0.mk (Kd.V_elder' (by (with_reducible repeat (first | apply Kd.V_alloc | apply Kd.V_drewN | apply Kd.V_drew)); exact HO0_3.out) (Kd.N_base ho5) hb); have n1_ := Aside0.mk (Kd.V_elder' (by (with_reducible repeat (first | apply Kd.V_alloc | apply Kd.V_drewN | apply Kd.V_drew)); exact HO0_4.out) (Kd.N_base ho5) hb); have n2_ := Aside0.mk (Kd.V_elder' (by (with_reducible repeat (first | apply Kd.V_alloc | apply Kd.V_drewN | apply Kd.V_drew)); exact HO0_5.out) (Kd.N_base ho5) hb); have n3_ := Aside0.mk (Kd.N_lower ho5 (below_size sq68)); have n4_ := Aside0.mk (blk_below (g := gb191) (o := .cells #[.int .i64 a0_0, .int .i64 a0_1, .string a0_2, .slice A0_3 l0_3.length c0_3, .slice A0_4 l0_4.length c0_4, .slice A0_5 l0_5.length c0_5] 41 (0, 0)) (by (with_reducible repeat (first | refine blk_drewN ?_ _ | refine blk_drew ?_ | refine blk_alloc ?_ _)); exact BK191.out) hb); have n5_ := Aside0.mk (below_step sq68 hb); clear HO0_3; clear HO0_4; clear HO0_5; clear BK191; clear HB; have HO0_3 := n0_; have HO0_4 := n1_; have HO0_5 := n2_; have HO194 := n3_; have BK191 := n4_; have HB := n5_; clear n0_ n1_ n2_ n3_ n4_ n5_; clear hb ho5))
 go_ret
 exact ⟨_, sq23, by (with_reducible repeat (first | apply Kd.N_alloc | apply Kd.N_drewN | apply Kd.N_drew)); exact Kd.N_mono HO194.out (fun _ hk => hk.1), sq68⟩

end Go.Proofs.Ytaogejkmkalnlaa.PAll
