-- Written by a program of this session (wip/tools/print2.sh): functions as plain Lean, and that the machine's calls do what they say.
import Derived.Test.YtpfnnamicbbobaaPAllx0
import Derived.Test.YtpfnnamicbbobaaPAllx3
namespace Go.Proofs.Ytpfnnamicbbobaa.PAll
open Go.RowKit Go.Proofs.YtpfnnamicbbobaaW.PrintWords Go.Proofs.YtpfnnamicbbobaaW.PrintLast Go.Proofs.YtpfnnamicbbobaaW.PrintMore
attribute [local go_sem] max2_int min2_int max_two min_two max_three min_three max_four min_four   -- for this text's walks alone
set_option linter.unusedVariables false
set_option linter.unusedSimpArgs false

/-! ### kind_each: function 28 -/
def kind_each.l0 : Nat → MapV → List Int → List Int → List (S56) → Int → Int → Option (List Int × Int × Int)
 | 0, _, _, _, _, _, _ => none
 | k + 1, x1, x6, x7, x13, x14, x15 => if x15 < x14 then (if 0 ≤ x15 then (if x15 < (x13.length : Int) then (if 0 ≤ (wrap64 ((x7.length : Int) - ((rd_T56 x13 x15).f1))) then (if (wrap64 ((x7.length : Int) - ((rd_T56 x13 x15).f1))) ≤ (x7.length : Int) then (if ((rd_T56 x13 x15).f0) = 5 then (if (mgetD x1 ((rd_T56 x13 x15).f2)) = 0 then (some (([] : List Int), x15, 181)) else ((some (x7.take ((wrap64 ((x7.length : Int) - ((rd_T56 x13 x15).f1))) : Int).toNat : List Int)).bind fun y138 => (if y138.length < 17592186044416 then (if x6.length < 17592186044416 then (kind_each.l0 k x1 (x6 ++ [mgetD x1 ((rd_T56 x13 x15).f2)]) (y138 ++ [mgetD x1 ((rd_T56 x13 x15).f2)]) x13 x14 (wrap64 (x15 + 1))) else (none)) else (none)))) else ((kind_node.f k ((rd_T56 x13 x15).f0) (x7.drop ((wrap64 ((x7.length : Int) - ((rd_T56 x13 x15).f1))) : Int).toNat)).bind fun t147 => (if t147 = 0 then (some (([] : List Int), x15, 180)) else ((some (x7.take ((wrap64 ((x7.length : Int) - ((rd_T56 x13 x15).f1))) : Int).toNat : List Int)).bind fun y148 => (if y148.length < 17592186044416 then (if x6.length < 17592186044416 then (kind_each.l0 k x1 (x6 ++ [t147]) (y148 ++ [t147]) x13 x14 (wrap64 (x15 + 1))) else (none)) else (none)))))) else (none)) else (none)) else (none)) else (none)) else (some (x6, 0, 0))
def kind_each.f (k : Nat) (l0 : List (S56)) (a1 : MapV) : Option (List Int × Int × Int) := kind_each.l0 k a1 ([] : List Int) ([] : List Int) l0 (l0.length : Int) 0
theorem kind_each.mono_l : ∀ k, (∀ y0 y1 y2 y3 y4 y5, LeO (kind_each.l0 k y0 y1 y2 y3 y4 y5) (kind_each.l0 (k + 1) y0 y1 y2 y3 y4 y5))
 | 0 => fun _ _ _ _ _ _ r h => by simp [kind_each.l0] at h
 | k + 1 => by
  have ih0 := kind_each.mono_l k
  ·intro y0 y1 y2 y3 y4 y5
   unfold kind_each.l0
   exact sq114
theorem kind_each.mono : ∀ a0 a1 k, LeO (kind_each.f k a0 a1) (kind_each.f (k + 1) a0 a1) := by
 intro a0 a1 k
 have ih0 := kind_each.mono_l k
 unfold kind_each.f
 exact sq114
set_option maxHeartbeats 8000000 in
set_option maxRecDepth 100000 in
theorem kind_each.calls (k : Nat) (A0 : Option Addr) (c0 : Nat) (l0 : List (S56)) (a1 : MapV) (r1 : List Int) (r2 : Int) (r3 : Int) (w : World) (hm1 : MapAt w a1) (hr0 : Kd.C k56 w A0 l0.length l0) (hc0 : l0.length ≤ c0) (h : kind_each.f k l0 a1 = some (r1, r2, r3)) :
  Calls Try.prog 28 #[.slice A0 l0.length c0, .map (some a1.b)] w fun e w' => ∃ v0_ : Value, e = .returned (.tuple #[v0_, .agg #[.int .i64 r2, .int .i64 r3]]) ∧ Kd.R (Kd.int .i64) 3 w' w.heap.size (fun _ => True) v0_ r1 ∧ Below w.heap.size w w' := by
 have hu28 := Try.underlying28
 have hu56 := Try.underlying56
 have HR0 := Aside0.mk hr0
 have HC0 := Aside0.mk hc0
 clear hr0 hc0
 have HB := Aside0.mk (Below.refl w.heap.size w)
 have HM1 := Aside0.mk hm1
 clear hm1
 have H : (kind_each.l0 k a1 ([] : List Int) ([] : List Int) l0 (l0.length : Int) 0) = some (r1, r2, r3) := h
 clear h
 have H' := Aside0.mk H
 clear H
 go_enter Try.func28, Try.ntmps28
 go_wp2_with (first | ((with_reducible refine gate_lookup rfl ?_); refine wpList_mlook rfl _ _ 73 rfl Try.underlying73 Try.underlying9 Try.zeroValue3 (MapAt.below HM1.out sq69) rfl _ rfl ?_) | ((with_reducible refine gate_dst (N := 5) rfl ?_); refine box_event ?hg (N := 5) ?hd (cs := #[.int .i64 0, .int .i64 0]) (t := 28) ?hr ?_; (case hd => rfl); (case hg => rfl); (case hr => first | (go_simp; done) | (go_simp; rfl)); intro gb131 hg w3 hbox hb; have n0_ := Aside0.mk (below_step sq50 hb); have n1_ := Aside0.mk (hbox); have n2_ := Aside0.mk ((by rw [hg]; exact (below_size sq50) : w.heap.size ≤ gb131)); have n3_ := Aside0.mk ((by rw [hg]; exact (below_size sq50) : w.heap.size ≤ gb131)); clear HB; have HB := n0_; have BK131 := n1_; have GW131 := n2_; have GE131 := n3_; clear n0_ n1_ n2_ n3_; clear hb hbox hg))
 go_loopg [6, 7, 15] k (fun kq v6 v7 v15 w' => ∃ (x6_1 : List Int) (x7_1 : List Int) (x15_1 : Int) (x132000_1 : Int) (x132001_1 : Int), v15 = .int .i64 x15_1 ∧ Aside0 (kind_each.l0 kq a1 x6_1 x7_1 l0 (l0.length : Int) x15_1 = some (r1, r2, r3)) ∧ Aside0 (kq ≤ k) ∧ Aside0 (Kd.R (Kd.int .i64) 3 w' w.heap.size (fun k_ => some k_ ≠ (v7 : Value).ownBlock) v6 x6_1) ∧ Aside0 (Kd.R (Kd.int .i64) 3 w' w.heap.size (fun k_ => some k_ ≠ (v6 : Value).ownBlock) v7 x7_1) ∧ Aside0 (w'.heap[gb131]? = some (.cells #[.int .i64 x132000_1, .int .i64 x132001_1] 28 (0, 0))) ∧ Aside0 (Below w.heap.size w w'))
 case atStart => exact ⟨(([] : List Int)), (([] : List Int)), (0), (0), (0), sq5, H', ⟨Nat.le_refl _⟩, ⟨sq52⟩, ⟨sq52⟩, ⟨sq34⟩, ⟨sq58⟩⟩
 case round =>
  clear H'
  try clear c2; try clear p2
  obtain ⟨x6_1, x7_1, x15_1, x132000_1, x132001_1, rfl, HA, HK1, HO_6, HO_7, BK131, HB⟩ := hrel
  cases gk with
  | zero => exact absurd HA.out (by simp [kind_each.l0])
  | succ k1 =>
   have H := HA.out
   clear HA
   simp only [kind_each.l0] at H
   by_cases c4 : x15_1 < (l0.length : Int)
   ·rw [if_pos c4] at H
    have c4b0 : decide (x15_1 < (l0.length : Int)) = true := decide_eq_true c4; clear c4
    by_cases c5 : 0 ≤ x15_1
    ·rw [if_pos c5] at H
     have c5b0 : decide (0 ≤ x15_1) = true := decide_eq_true c5; clear c5
     by_cases c6 : x15_1 < (l0.length : Int)
     ·rw [if_pos c6] at H
      have c6b0 : decide (x15_1 < (l0.length : Int)) = true := decide_eq_true c6; clear c6
      obtain ⟨ji7, hji7⟩ : ∃ j_ : Int, (wrap64 ((x7_1.length : Int) - ((rd_T56 l0 x15_1).f1))) = j_ := ⟨_, rfl⟩
      replace H : (if 0 ≤ (ji7) then (if (ji7) ≤ (x7_1.length : Int) then (if ((rd_T56 l0 x15_1).f0) = 5 then (if (mgetD a1 ((rd_T56 l0 x15_1).f2)) = 0 then (some (([] : List Int), x15_1, 181)) else ((some (x7_1.take ((ji7) : Int).toNat : List Int)).bind fun y138 => (if y138.length < 17592186044416 then (if x6_1.length < 17592186044416 then (kind_each.l0 k1 a1 (x6_1 ++ [mgetD a1 ((rd_T56 l0 x15_1).f2)]) (y138 ++ [mgetD a1 ((rd_T56 l0 x15_1).f2)]) l0 (l0.length : Int) (wrap64 (x15_1 + 1))) else (none)) else (none)))) else ((kind_node.f k1 ((rd_T56 l0 x15_1).f0) (x7_1.drop ((ji7) : Int).toNat)).bind fun t147 => (if t147 = 0 then (some (([] : List Int), x15_1, 180)) else ((some (x7_1.take ((ji7) : Int).toNat : List Int)).bind fun y148 => (if y148.length < 17592186044416 then (if x6_1.length < 17592186044416 then (kind_each.l0 k1 a1 (x6_1 ++ [t147]) (y148 ++ [t147]) l0 (l0.length : Int) (wrap64 (x15_1 + 1))) else (none)) else (none)))))) else (none)) else (none)) = some (r1, r2, r3) := by first | (rw [hji7] at H; exact H) | (simp only [hji7] at H ⊢; exact H)
      have hji7w : (IntKind.i64.wrap ((x7_1.length : Int) - ((rd_T56 l0 x15_1).f1))) = ji7 := (i64_w _).trans hji7
      by_cases c8 : 0 ≤ (ji7)
      ·rw [if_pos c8] at H
       have c8b0 := eq_true c8
       have c8b1 : decide (0 ≤ (ji7)) = true := decide_eq_true c8
       clear c8
       by_cases c9 : (ji7) ≤ (x7_1.length : Int)
       ·rw [if_pos c9] at H
        have c9b0 := eq_true c9
        have c9b1 : decide ((ji7) ≤ (x7_1.length : Int)) = true := decide_eq_true c9
        clear c9
        obtain ⟨y134, hy134⟩ : ∃ y_ : List Int, y_ = (x7_1.drop ((ji7) : Int).toNat) := ⟨_, rfl⟩
        replace H : (if ((rd_T56 l0 x15_1).f0) = 5 then (if (mgetD a1 ((rd_T56 l0 x15_1).f2)) = 0 then (some (([] : List Int), x15_1, 181)) else ((some (x7_1.take ((ji7) : Int).toNat : List Int)).bind fun y138 => (if y138.length < 17592186044416 then (if x6_1.length < 17592186044416 then (kind_each.l0 k1 a1 (x6_1 ++ [mgetD a1 ((rd_T56 l0 x15_1).f2)]) (y138 ++ [mgetD a1 ((rd_T56 l0 x15_1).f2)]) l0 (l0.length : Int) (wrap64 (x15_1 + 1))) else (none)) else (none)))) else ((kind_node.f k1 ((rd_T56 l0 x15_1).f0) y134).bind fun t147 => (if t147 = 0 then (some (([] : List Int), x15_1, 180)) else ((some (x7_1.take ((ji7) : Int).toNat : List Int)).bind fun y148 => (if y148.length < 17592186044416 then (if x6_1.length < 17592186044416 then (kind_each.l0 k1 a1 (x6_1 ++ [t147]) (y148 ++ [t147]) l0 (l0.length : Int) (wrap64 (x15_1 + 1))) else (none)) else (none)))))) = some (r1, r2, r3) := by first | (rw [hy134]; with_reducible exact H) | (have H2_ := (Option.bind_some _ _).symm.trans H; rw [hy134]; with_reducible exact H2_) | (have H2_ := (Option.bind_some _ _).symm.trans H; with_reducible exact H2_) | with_reducible exact H | (rw [hy134]; exact H) | exact H
        have Ny134 := Aside0.mk hy134
        clear hy134
        by_cases c10 : ((rd_T56 l0 x15_1).f0) = 5
        ·rw [if_pos c10] at H
         have c10b0 : (((rd_T56 l0 x15_1).f0) == 5) = true := beq_iff_eq.mpr c10
         have c10b1 : (((rd_T56 l0 x15_1).f0) != 5) = false := bne_eq_false_iff_eq.mpr c10
         clear c10
         by_cases c11 : (mgetD a1 ((rd_T56 l0 x15_1).f2)) = 0
         ·rw [if_pos c11] at H
          have c11b0 : ((mgetD a1 ((rd_T56 l0 x15_1).f2)) == 0) = true := beq_iff_eq.mpr c11
          have c11b1 : ((mgetD a1 ((rd_T56 l0 x15_1).f2)) != 0) = false := bne_eq_false_iff_eq.mpr c11
          clear c11
          simp only [Option.some.injEq, Prod.mk.injEq] at H
          obtain ⟨rfl, rfl, rfl⟩ := H
          have p132 : 0 ≤ (x15_1 : Int) := of_decide_eq_true sq6
          have q132 : x15_1 < (l0.length : Int) := of_decide_eq_true sq6
          obtain ⟨ad132, e132, hx132_0, hx132_1, hx132_2⟩ := at_T56 HR0.out x15_1 p132 q132
          cases e132
          try replace hx132_0 := (HB.out.cell (World.block_lt_of_cell? w _ hx132_0)).trans hx132_0
          try replace hx132_1 := (HB.out.cell (World.block_lt_of_cell? w _ hx132_1)).trans hx132_1
          try replace hx132_2 := (HB.out.cell (World.block_lt_of_cell? w _ hx132_2)).trans hx132_2
          replace p132 := eq_true p132
          replace q132 := eq_true q132
          go_wp2_with (first | ((with_reducible refine gate_lookup rfl ?_); refine wpList_mlook rfl _ _ 73 rfl Try.underlying73 Try.underlying9 Try.zeroValue3 (MapAt.below HM1.out sq69) rfl _ rfl ?_) | ((with_reducible refine gate_dst (N := 9) rfl ?_); refine box_event ?hg (N := 9) ?hd (cs := #[.int .i64 0, .int .i64 0, .string (⟨#[]⟩ : ByteArray)]) (t := 56) ?hr ?_; (case hd => rfl); (case hg => rfl); (case hr => first | (go_simp; done) | (go_simp; rfl)); intro gb133 hg w12 hbox hb; have n0_ := Aside0.mk (Kd.R_below sq12 hb); have n1_ := Aside0.mk (Kd.R_below sq13 hb); have n2_ := Aside0.mk (blk_below (g := gb131) (o := .cells #[.int .i64 x132000_1, .int .i64 x132001_1] 28 (0, 0)) sq34 hb); have n3_ := Aside0.mk (below_step sq58 hb); have n4_ := Aside0.mk (hbox); have n5_ := Aside0.mk ((by rw [hg]; exact (below_size sq58) : w.heap.size ≤ gb133)); have n6_ := Aside0.mk ((by rw [hg]; exact (below_size sq58) : w.heap.size ≤ gb133)); have n7_ := Aside0.mk ((by rw [hg]; exact Nat.ne_of_lt (blk_lt (g := gb131) (o := .cells #[.int .i64 x132000_1, .int .i64 x132001_1] 28 (0, 0)) sq34) : gb131 ≠ gb133)); have n8_ := Aside0.mk ((by rw [hg]; exact Nat.ne_of_gt (blk_lt (g := gb131) (o := .cells #[.int .i64 x132000_1, .int .i64 x132001_1] 28 (0, 0)) sq34) : gb133 ≠ gb131)); clear HO_6; clear HO_7; clear BK131; clear HB; have HO_6 := n0_; have HO_7 := n1_; have BK131 := n2_; have HB := n3_; have BK133 := n4_; have GW133 := n5_; have GE133 := n6_; have NB131_133 := n7_; have NB133_131 := n8_; clear n0_ n1_ n2_ n3_ n4_ n5_ n6_ n7_ n8_; clear hb hbox hg; have hnb13 := NB133_131.out; have hnc13 := NB131_133.out; have hcz14_0 : w12.cell? ⟨gb133, 0, none⟩ = some (.int .i64 0) := (blk_cell BK133.out 0).trans rfl; have hcz14_1 : w12.cell? ⟨gb133, 1, none⟩ = some (.int .i64 0) := (blk_cell BK133.out 1).trans rfl; have hcz14_2 : w12.cell? ⟨gb133, 2, none⟩ = some (.string (⟨#[]⟩ : ByteArray)) := (blk_cell BK133.out 2).trans rfl; have hfz14_0 := blk_frozen BK133.out 0; have hfz14_1 := blk_frozen BK133.out 1; have hfz14_2 := blk_frozen BK133.out 2) | ((with_reducible refine gate_store (t := 56) (p := 9) rfl ?_); refine store_event (t := 56) (p := 9) (v := ?vo_w15) (w1 := (((w12.setCell ⟨gb133, 0, none⟩ (.int .i64 ((rd_T56 l0 x15_1).f0))).setCell ⟨gb133, 1, none⟩ (.int .i64 ((rd_T56 l0 x15_1).f1))).setCell ⟨gb133, 2, none⟩ (.string ((rd_T56 l0 x15_1).f2)))) ?hg ?ho ?hn ?hr ?_; (case ho => rfl); (case hg => rfl); (case hn => rfl); (case hr => first | (go_simp; done) | (go_simp; rfl)); intro w15 hw; have n0_ : Aside0 (Kd.R (Kd.int .i64) 3 w15 w.heap.size (fun k_ => some k_ ≠ (u7 : Value).ownBlock) u6 x6_1) := ⟨sq128⟩; have n1_ : Aside0 (Kd.R (Kd.int .i64) 3 w15 w.heap.size (fun k_ => some k_ ≠ (u6 : Value).ownBlock) u7 x7_1) := ⟨sq129⟩; have n2_ : Aside0 (w15.heap[gb131]? = some (.cells #[.int .i64 x132000_1, .int .i64 x132001_1] 28 (0, 0))) := ⟨sq134⟩; have n3_ : Aside0 (w15.heap[gb133]? = some (.cells #[.int .i64 ((rd_T56 l0 x15_1).f0), .int .i64 ((rd_T56 l0 x15_1).f1), .string ((rd_T56 l0 x15_1).f2)] 56 (0, 0))) := ⟨sq142⟩; have n4_ : Aside0 (Below w.heap.size w w15) := ⟨sq83⟩; clear hw; clear HO_6; clear HO_7; clear BK131; clear BK133; clear HB; have HO_6 := n0_; have HO_7 := n1_; have BK131 := n2_; have BK133 := n3_; have HB := n4_; clear n0_ n1_ n2_ n3_ n4_; obtain ⟨Ao16, co16, eo16⟩ := Kd.R_slice HO_7.out; subst eo16; have hcz17_0 : w15.cell? ⟨gb133, 0, none⟩ = some (.int .i64 ((rd_T56 l0 x15_1).f0)) := (blk_cell BK133.out 0).trans rfl; have hcz17_1 : w15.cell? ⟨gb133, 1, none⟩ = some (.int .i64 ((rd_T56 l0 x15_1).f1)) := (blk_cell BK133.out 1).trans rfl; have hcz17_2 : w15.cell? ⟨gb133, 2, none⟩ = some (.string ((rd_T56 l0 x15_1).f2)) := (blk_cell BK133.out 2).trans rfl; have hfz17_0 := blk_frozen BK133.out 0; have hfz17_1 := blk_frozen BK133.out 1; have hfz17_2 := blk_frozen BK133.out 2; have q18 : ((ji7) : Int) ≤ ((x7_1.length : Int) : Int) := of_decide_eq_true sq6; obtain ⟨i018, hi018, _, hsz18, _⟩ := info_parts info3; have hroom18 : x7_1.length ≤ co16 := (Kd.R_reads' HO_7.out).2.1; have hC18 : Kd.C (Kd.int .i64) _ Ao16 x7_1.length x7_1 := (Kd.R_reads' HO_7.out).2.2; have q018 : (0 : Int) ≤ ((ji7) : Int) := of_decide_eq_true sq6; have hcut18 := cut_from (P := Try.prog) 36 3 .i64 Try.underlying36 hi018 1 hsz18 Ao16 x7_1.length co16 (ji7) q018 q18; have hr18 := Kd.C_drop (m := ((ji7) : Int).toNat) (c := co16) hC18 sq0 hroom18; obtain ⟨A18, hA18⟩ : ∃ A1, A1 = (if co16 = ((ji7) : Int).toNat then Ao16 else (Ao16 : Option Addr).map (·.add (((ji7) : Int).toNat * 1))) := ⟨_, rfl⟩; obtain ⟨c18, hc18⟩ : ∃ c1, c1 = co16 - ((ji7) : Int).toNat := ⟨_, rfl⟩; have hy18 : y134.length = x7_1.length - ((ji7) : Int).toNat := (by rw [Ny134.out, List.length_drop] <;> omega); rw [show (x7_1).drop ((ji7) : Int).toNat = y134 from Ny134.out.symm] at hr18; replace hr18 : Kd.C (Kd.int .i64) _ A18 y134.length y134 := (by rw [hA18]; exact hr18); rw [← hy18, ← hA18, ← hc18] at hcut18; have HR137 := Aside0.mk hr18; have HC137 := Aside0.mk (show y134.length ≤ c18 from by rw [hy18, hc18]; exact Nat.sub_le_sub_right hroom18 _); clear hr18 hC18 hroom18 hi018 hsz18 hc18; have KY18 := Aside0.mk hy18; have KA18 := Aside0.mk hA18; clear hy18 hA18; have KL18 := Aside0.mk (show ((ji7) : Int).toNat ≤ x7_1.length from by omega); replace q18 := eq_true q18; have hcz19_0 : w15.cell? ⟨gb131, 0, none⟩ = some (.int .i64 x132000_1) := (blk_cell BK131.out 0).trans rfl; have hcz19_1 : w15.cell? ⟨gb131, 1, none⟩ = some (.int .i64 x132001_1) := (blk_cell BK131.out 1).trans rfl; have hfz19_0 := blk_frozen BK131.out 0; have hfz19_1 := blk_frozen BK131.out 1))
          refine bodyPost_ret (results_tc rfl _ _ gb131 28 #[.int .i64 x15_1, .int .i64 181] (0, 0) _ rfl (by (with_reducible repeat (first | refine blk_drewN ?_ _ | refine blk_drew ?_ | refine blk_alloc ?_ _)); refine blk_put (cs := #[.int .i64 x15_1, .int .i64 x132001_1]) ?_ 1 _ rfl; (with_reducible repeat (first | refine blk_drewN ?_ _ | refine blk_drew ?_ | refine blk_alloc ?_ _)); refine blk_put (cs := #[.int .i64 x132000_1, .int .i64 x132001_1]) ?_ 0 _ rfl; (with_reducible repeat (first | refine blk_drewN ?_ _ | refine blk_drew ?_ | refine blk_alloc ?_ _)); exact BK131.out) Try.underlying28 rfl (by kernel_rfl)) rfl ?_
          exact ⟨_, by first | rfl | (simp [errW_none, errW_some] <;> rfl) | (simp only [← hji7]; first | rfl | (simp [errW_none, errW_some] <;> rfl)) | (simp [*, errW_none, errW_some] <;> rfl), sq52, sq75⟩
         rw [if_neg c11] at H
         have c11b0 : ((mgetD a1 ((rd_T56 l0 x15_1).f2)) == 0) = false := beq_eq_false_iff_ne.mpr c11
         have c11b1 : ((mgetD a1 ((rd_T56 l0 x15_1).f2)) != 0) = true := bne_iff_ne.mpr c11
         have c20b0 := eq_true (of_decide_eq_true sq6 : (ji7) ≤ (x7_1.length : Int))
         obtain ⟨y138, hy138⟩ : ∃ y_ : List Int, y_ = (x7_1.take ((ji7) : Int).toNat) := ⟨_, rfl⟩
         replace H : (if y138.length < 17592186044416 then (if x6_1.length < 17592186044416 then (kind_each.l0 k1 a1 (x6_1 ++ [mgetD a1 ((rd_T56 l0 x15_1).f2)]) (y138 ++ [mgetD a1 ((rd_T56 l0 x15_1).f2)]) l0 (l0.length : Int) (wrap64 (x15_1 + 1))) else (none)) else (none)) = some (r1, r2, r3) := by first | (rw [hy138]; with_reducible exact H) | (have H2_ := (Option.bind_some _ _).symm.trans H; rw [hy138]; with_reducible exact H2_) | (have H2_ := (Option.bind_some _ _).symm.trans H; with_reducible exact H2_) | with_reducible exact H | (rw [hy138]; exact H) | exact H
         have Ny138 := Aside0.mk hy138
         clear hy138
         by_cases c21 : y138.length < 17592186044416
         ·rw [if_pos c21] at H
          have LMc21 := Aside0.mk c21
          clear c21
          obtain ⟨y141, hy141⟩ : ∃ y_ : List Int, y_ = (y138 ++ [mgetD a1 ((rd_T56 l0 x15_1).f2)]) := ⟨_, rfl⟩
          replace H : (if x6_1.length < 17592186044416 then (kind_each.l0 k1 a1 (x6_1 ++ [mgetD a1 ((rd_T56 l0 x15_1).f2)]) y141 l0 (l0.length : Int) (wrap64 (x15_1 + 1))) else (none)) = some (r1, r2, r3) := by first | (rw [hy141]; with_reducible exact H) | (have H2_ := (Option.bind_some _ _).symm.trans H; rw [hy141]; with_reducible exact H2_) | (have H2_ := (Option.bind_some _ _).symm.trans H; with_reducible exact H2_) | with_reducible exact H | (rw [hy141]; exact H) | exact H
          have Ny141 := Aside0.mk hy141
          clear hy141
          by_cases c22 : x6_1.length < 17592186044416
          ·rw [if_pos c22] at H
           have LMc22 := Aside0.mk c22
           clear c22
           obtain ⟨y144, hy144⟩ : ∃ y_ : List Int, y_ = (x6_1 ++ [mgetD a1 ((rd_T56 l0 x15_1).f2)]) := ⟨_, rfl⟩
           replace H : (kind_each.l0 k1 a1 y144 y141 l0 (l0.length : Int) (wrap64 (x15_1 + 1))) = some (r1, r2, r3) := by first | (rw [hy144]; with_reducible exact H) | (have H2_ := (Option.bind_some _ _).symm.trans H; rw [hy144]; with_reducible exact H2_) | (have H2_ := (Option.bind_some _ _).symm.trans H; with_reducible exact H2_) | with_reducible exact H | (rw [hy144]; exact H) | exact H
           have Ny144 := Aside0.mk hy144
           clear hy144
           have H' := Aside0.mk H
           clear H
           have p132 : 0 ≤ (x15_1 : Int) := of_decide_eq_true sq6
           have q132 : x15_1 < (l0.length : Int) := of_decide_eq_true sq6
           obtain ⟨ad132, e132, hx132_0, hx132_1, hx132_2⟩ := at_T56 HR0.out x15_1 p132 q132
           cases e132
           try replace hx132_0 := (HB.out.cell (World.block_lt_of_cell? w _ hx132_0)).trans hx132_0
           try replace hx132_1 := (HB.out.cell (World.block_lt_of_cell? w _ hx132_1)).trans hx132_1
           try replace hx132_2 := (HB.out.cell (World.block_lt_of_cell? w _ hx132_2)).trans hx132_2
           replace p132 := eq_true p132
           replace q132 := eq_true q132
           go_wp2_with (first | ((with_reducible refine gate_lookup rfl ?_); refine wpList_mlook rfl _ _ 73 rfl Try.underlying73 Try.underlying9 Try.zeroValue3 (MapAt.below HM1.out sq69) rfl _ rfl ?_) | ((with_reducible refine gate_dst (N := 9) rfl ?_); refine box_event ?hg (N := 9) ?hd (cs := #[.int .i64 0, .int .i64 0, .string (⟨#[]⟩ : ByteArray)]) (t := 56) ?hr ?_; (case hd => rfl); (case hg => rfl); (case hr => first | (go_simp; done) | (go_simp; rfl)); intro gb133 hg w23 hbox hb; have n0_ := Aside0.mk (Kd.R_below sq12 hb); have n1_ := Aside0.mk (Kd.R_below sq13 hb); have n2_ := Aside0.mk (blk_below (g := gb131) (o := .cells #[.int .i64 x132000_1, .int .i64 x132001_1] 28 (0, 0)) sq34 hb); have n3_ := Aside0.mk (below_step sq58 hb); have n4_ := Aside0.mk (hbox); have n5_ := Aside0.mk ((by rw [hg]; exact (below_size sq58) : w.heap.size ≤ gb133)); have n6_ := Aside0.mk ((by rw [hg]; exact (below_size sq58) : w.heap.size ≤ gb133)); have n7_ := Aside0.mk ((by rw [hg]; exact Nat.ne_of_lt (blk_lt (g := gb131) (o := .cells #[.int .i64 x132000_1, .int .i64 x132001_1] 28 (0, 0)) sq34) : gb131 ≠ gb133)); have n8_ := Aside0.mk ((by rw [hg]; exact Nat.ne_of_gt (blk_lt (g := gb131) (o := .cells #[.int .i64 x132000_1, .int .i64 x132001_1] 28 (0, 0)) sq34) : gb133 ≠ gb131)); clear HO_6; clear HO_7; clear BK131; clear HB; have HO_6 := n0_; have HO_7 := n1_; have BK131 := n2_; have HB := n3_; have BK133 := n4_; have GW133 := n5_; have GE133 := n6_; have NB131_133 := n7_; have NB133_131 := n8_; clear n0_ n1_ n2_ n3_ n4_ n5_ n6_ n7_ n8_; clear hb hbox hg; have hnb24 := NB133_131.out; have hnc24 := NB131_133.out; have hcz25_0 : w23.cell? ⟨gb133, 0, none⟩ = some (.int .i64 0) := (blk_cell BK133.out 0).trans rfl; have hcz25_1 : w23.cell? ⟨gb133, 1, none⟩ = some (.int .i64 0) := (blk_cell BK133.out 1).trans rfl; have hcz25_2 : w23.cell? ⟨gb133, 2, none⟩ = some (.string (⟨#[]⟩ : ByteArray)) := (blk_cell BK133.out 2).trans rfl; have hfz25_0 := blk_frozen BK133.out 0; have hfz25_1 := blk_frozen BK133.out 1; have hfz25_2 := blk_frozen BK133.out 2) | ((with_reducible refine gate_store (t := 56) (p := 9) rfl ?_); refine store_event (t := 56) (p := 9) (v := ?vo_w26) (w1 := (((w23.setCell ⟨gb133, 0, none⟩ (.int .i64 ((rd_T56 l0 x15_1).f0))).setCell ⟨gb133, 1, none⟩ (.int .i64 ((rd_T56 l0 x15_1).f1))).setCell ⟨gb133, 2, none⟩ (.string ((rd_T56 l0 x15_1).f2)))) ?hg ?ho ?hn ?hr ?_; (case ho => rfl); (case hg => rfl); (case hn => rfl); (case hr => first | (go_simp; done) | (go_simp; rfl)); intro w26 hw; have n0_ : Aside0 (Kd.R (Kd.int .i64) 3 w26 w.heap.size (fun k_ => some k_ ≠ (u7 : Value).ownBlock) u6 x6_1) := ⟨sq128⟩; have n1_ : Aside0 (Kd.R (Kd.int .i64) 3 w26 w.heap.size (fun k_ => some k_ ≠ (u6 : Value).ownBlock) u7 x7_1) := ⟨sq129⟩; have n2_ : Aside0 (w26.heap[gb131]? = some (.cells #[.int .i64 x132000_1, .int .i64 x132001_1] 28 (0, 0))) := ⟨sq134⟩; have n3_ : Aside0 (w26.heap[gb133]? = some (.cells #[.int .i64 ((rd_T56 l0 x15_1).f0), .int .i64 ((rd_T56 l0 x15_1).f1), .string ((rd_T56 l0 x15_1).f2)] 56 (0, 0))) := ⟨sq142⟩; have n4_ : Aside0 (Below w.heap.size w w26) := ⟨sq83⟩; clear hw; clear HO_6; clear HO_7; clear BK131; clear BK133; clear HB; have HO_6 := n0_; have HO_7 := n1_; have BK131 := n2_; have BK133 := n3_; have HB := n4_; clear n0_ n1_ n2_ n3_ n4_; obtain ⟨Ao27, co27, eo27⟩ := Kd.R_slice HO_7.out; subst eo27; have hcz28_0 : w26.cell? ⟨gb133, 0, none⟩ = some (.int .i64 ((rd_T56 l0 x15_1).f0)) := (blk_cell BK133.out 0).trans rfl; have hcz28_1 : w26.cell? ⟨gb133, 1, none⟩ = some (.int .i64 ((rd_T56 l0 x15_1).f1)) := (blk_cell BK133.out 1).trans rfl; have hcz28_2 : w26.cell? ⟨gb133, 2, none⟩ = some (.string ((rd_T56 l0 x15_1).f2)) := (blk_cell BK133.out 2).trans rfl; have hfz28_0 := blk_frozen BK133.out 0; have hfz28_1 := blk_frozen BK133.out 1; have hfz28_2 := blk_frozen BK133.out 2; have q29 : ((ji7) : Int) ≤ ((x7_1.length : Int) : Int) := of_decide_eq_true sq6; obtain ⟨i029, hi029, _, hsz29, _⟩ := info_parts info3; have hroom29 : x7_1.length ≤ co27 := (Kd.R_reads' HO_7.out).2.1; have hC29 : Kd.C (Kd.int .i64) _ Ao27 x7_1.length x7_1 := (Kd.R_reads' HO_7.out).2.2; have q029 : (0 : Int) ≤ ((ji7) : Int) := of_decide_eq_true sq6; have hcut29 := cut_from (P := Try.prog) 36 3 .i64 Try.underlying36 hi029 1 hsz29 Ao27 x7_1.length co27 (ji7) q029 q29; have hr29 := Kd.C_drop (m := ((ji7) : Int).toNat) (c := co27) hC29 sq0 hroom29; obtain ⟨A29, hA29⟩ : ∃ A1, A1 = (if co27 = ((ji7) : Int).toNat then Ao27 else (Ao27 : Option Addr).map (·.add (((ji7) : Int).toNat * 1))) := ⟨_, rfl⟩; obtain ⟨c29, hc29⟩ : ∃ c1, c1 = co27 - ((ji7) : Int).toNat := ⟨_, rfl⟩; have hy29 : y134.length = x7_1.length - ((ji7) : Int).toNat := (by rw [Ny134.out, List.length_drop] <;> omega); rw [show (x7_1).drop ((ji7) : Int).toNat = y134 from Ny134.out.symm] at hr29; replace hr29 : Kd.C (Kd.int .i64) _ A29 y134.length y134 := (by rw [hA29]; exact hr29); rw [← hy29, ← hA29, ← hc29] at hcut29; have HR137 := Aside0.mk hr29; have HC137 := Aside0.mk (show y134.length ≤ c29 from by rw [hy29, hc29]; exact Nat.sub_le_sub_right hroom29 _); clear hr29 hC29 hroom29 hi029 hsz29 hc29; have KY29 := Aside0.mk hy29; have KA29 := Aside0.mk hA29; clear hy29 hA29; have KL29 := Aside0.mk (show ((ji7) : Int).toNat ≤ x7_1.length from by omega); replace q29 := eq_true q29; have q30 : ((ji7) : Int) ≤ ((x7_1.length : Int) : Int) := of_decide_eq_true sq6; obtain ⟨i030, hi030, _, hsz30, _⟩ := info_parts info3; have hcut30 := cut_to (P := Try.prog) 36 3 .i64 Try.underlying36 hi030 Ao27 x7_1.length co27 (ji7) (of_decide_eq_true sq6) q30 (Kd.R_reads' HO_7.out).2.1; have hr30 := Kd.R_take (m := ((ji7) : Int).toNat) HO_7.out sq0; have hy30 : y138.length = ((ji7) : Int).toNat := (by rw [Ny138.out, List.length_take]; omega); rw [← Ny138.out] at hr30; rw [← hy30] at hr30 hcut30; clear hy30 hi030 hsz30 HO_7; have HO140 := Aside0.mk hr30; clear hr30; replace q30 := eq_true q30) | ((with_reducible refine gate_builtin (b := .append) (xs := #[.tmp 49, .tmp 51]) rfl ?_); at_builtin; refine Kd.R_append (Kd.int .i64) (w0 := w) w.heap.size rfl (.tmp 49) (.tmp 51) 36 3 (.int .i64 0) 8 rfl Try.underlying36 info3 rfl sq1 sq0 (.slice Ao27 y138.length co27) y138 (mgetD a1 ((rd_T56 l0 x15_1).f2)) [.int .i64 (mgetD a1 ((rd_T56 l0 x15_1).f2))] (fun k_ => some k_ ≠ (u6 : Value).ownBlock) (fun _ => False) rfl rfl ?aP (fun _ hk => hk.elim) ?aF ?aO ?aB ?aS ?aL ?_; (case aP => exact rfl); (case aB => exact sq75); (case aF => exact (fun k_ hk => Kd.fresh' (Kd.R_lt sq12) k_ hk)); (case aO => exact (by (with_reducible repeat (first | apply Kd.R_alloc | apply Kd.R_drewN | apply Kd.R_drew)); exact HO140.out)); (case aS => exact (below_size sq75)); (case aL => have := LMc21.out; omega); intro v142 w31 ho hb hg hat; rw [← Ny141.out] at ho; have n0_ := Aside0.mk (Kd.R_after (ok := (fun _ => True)) sq80 hg hat); have n1_ := Aside0.mk (blk_grown (g := gb131) (o := .cells #[.int .i64 x132000_1, .int .i64 x132001_1] 28 (0, 0)) sq34 hg (Kd.R_ne HO140.out BK131.out sq1)); have n2_ := Aside0.mk (blk_grown (g := gb133) (o := .cells #[.int .i64 ((rd_T56 l0 x15_1).f0), .int .i64 ((rd_T56 l0 x15_1).f1), .string ((rd_T56 l0 x15_1).f2)] 56 (0, 0)) sq35 hg (Kd.R_ne HO140.out BK133.out sq1)); have n3_ := Aside0.mk (hb); have n4_ := Aside0.mk (ho); clear HO_6; clear BK131; clear BK133; clear HB; clear HO140; have HO_6 := n0_; have BK131 := n1_; have BK133 := n2_; have HB := n3_; have HO143 := n4_; clear n0_ n1_ n2_ n3_ n4_; clear ho hb hg hat) | ((with_reducible refine gate_builtin (b := .append) (xs := #[.tmp 53, .tmp 55]) rfl ?_); at_builtin; refine Kd.R_append (Kd.int .i64) (w0 := w) w.heap.size rfl (.tmp 53) (.tmp 55) 36 3 (.int .i64 0) 8 rfl Try.underlying36 info3 rfl sq1 sq0 u6 x6_1 (mgetD a1 ((rd_T56 l0 x15_1).f2)) [.int .i64 (mgetD a1 ((rd_T56 l0 x15_1).f2))] (fun k_ => some k_ ≠ (v142 : Value).ownBlock) (fun _ => False) rfl rfl ?aP (fun _ hk => hk.elim) ?aF ?aO ?aB ?aS ?aL ?_; (case aP => exact rfl); (case aB => exact sq75); (case aF => exact (fun k_ hk => Kd.fresh' (Kd.R_lt (by (with_reducible repeat (first | apply Kd.R_alloc | apply Kd.R_drewN | apply Kd.R_drew)); exact HO143.out)) k_ hk)); (case aO => exact (by (with_reducible repeat (first | apply Kd.R_alloc | apply Kd.R_drewN | apply Kd.R_drew)); exact Kd.R_mono HO_6.out (fun _ hk => hk.2))); (case aS => exact (below_size sq75)); (case aL => have := LMc22.out; omega); intro v145 w32 ho hb hg hat; rw [← Ny144.out] at ho; have n0_ := Aside0.mk (blk_grown (g := gb131) (o := .cells #[.int .i64 x132000_1, .int .i64 x132001_1] 28 (0, 0)) sq34 hg (Kd.R_ne HO_6.out BK131.out sq1)); have n1_ := Aside0.mk (blk_grown (g := gb133) (o := .cells #[.int .i64 ((rd_T56 l0 x15_1).f0), .int .i64 ((rd_T56 l0 x15_1).f1), .string ((rd_T56 l0 x15_1).f2)] 56 (0, 0)) sq35 hg (Kd.R_ne HO_6.out BK133.out sq1)); have n2_ := Aside0.mk (Kd.R_after (ok := (fun _ => True)) (by (with_reducible repeat (first | apply Kd.R_alloc | apply Kd.R_drewN | apply Kd.R_drew)); exact Kd.R_mono HO143.out (fun _ hk => ⟨trivial, by first | exact hk | exact fun e_ => hk (e_.trans (own_len _ _ _ _))⟩)) hg hat); have n3_ := Aside0.mk (hb); have n4_ := Aside0.mk (ho); clear BK131; clear BK133; clear HO143; clear HB; clear HO_6; have BK131 := n0_; have BK133 := n1_; have HO143 := n2_; have HB := n3_; have HO146 := n4_; clear n0_ n1_ n2_ n3_ n4_; clear ho hb hg hat))
           go_roundg k1
           case measure => have := HK1.out; omega
           case rel => exact ⟨(y144), (y141), (wrap64 (x15_1 + 1)), (x132000_1), (x132001_1), sq5, H', ⟨by have := HK1.out; omega⟩, ⟨by (with_reducible repeat (first | apply Kd.R_alloc | apply Kd.R_drewN | apply Kd.R_drew)); exact HO146.out⟩, ⟨by (with_reducible repeat (first | apply Kd.R_alloc | apply Kd.R_drewN | apply Kd.R_drew)); exact Kd.R_mono HO143.out (fun _ hk => hk.2)⟩, ⟨sq34⟩, ⟨sq75⟩⟩
          rw [if_neg c22] at H
          exact absurd H (by simp)
         rw [if_neg c21] at H
         exact absurd H (by simp)
        rw [if_neg c10] at H
        have c10b0 : (((rd_T56 l0 x15_1).f0) == 5) = false := beq_eq_false_iff_ne.mpr c10
        have c10b1 : (((rd_T56 l0 x15_1).f0) != 5) = true := bne_iff_ne.mpr c10
        replace H := Option.bind_eq_some_iff.mp H
        obtain ⟨t147, A330, H⟩ := H
        replace H : (if t147 = 0 then (some (([] : List Int), x15_1, 180)) else ((some (x7_1.take ((ji7) : Int).toNat : List Int)).bind fun y148 => (if y148.length < 17592186044416 then (if x6_1.length < 17592186044416 then (kind_each.l0 k1 a1 (x6_1 ++ [t147]) (y148 ++ [t147]) l0 (l0.length : Int) (wrap64 (x15_1 + 1))) else (none)) else (none)))) = some (r1, r2, r3) := H
        have A33 := Aside0.mk A330
        clear A330
        by_cases c34 : t147 = 0
        ·rw [if_pos c34] at H
         have c34b0 : (t147 == 0) = true := beq_iff_eq.mpr c34
         have c34b1 : (t147 != 0) = false := bne_eq_false_iff_eq.mpr c34
         clear c34
         simp only [Option.some.injEq, Prod.mk.injEq] at H
         obtain ⟨rfl, rfl, rfl⟩ := H
         have p132 : 0 ≤ (x15_1 : Int) := of_decide_eq_true sq6
         have q132 : x15_1 < (l0.length : Int) := of_decide_eq_true sq6
         obtain ⟨ad132, e132, hx132_0, hx132_1, hx132_2⟩ := at_T56 HR0.out x15_1 p132 q132
         cases e132
         try replace hx132_0 := (HB.out.cell (World.block_lt_of_cell? w _ hx132_0)).trans hx132_0
         try replace hx132_1 := (HB.out.cell (World.block_lt_of_cell? w _ hx132_1)).trans hx132_1
         try replace hx132_2 := (HB.out.cell (World.block_lt_of_cell? w _ hx132_2)).trans hx132_2
         replace p132 := eq_true p132
         replace q132 := eq_true q132
         go_wp2_with (first | ((with_reducible refine gate_lookup rfl ?_); refine wpList_mlook rfl _ _ 73 rfl Try.underlying73 Try.underlying9 Try.zeroValue3 (MapAt.below HM1.out sq69) rfl _ rfl ?_) | ((with_reducible refine gate_dst (N := 9) rfl ?_); refine box_event ?hg (N := 9) ?hd (cs := #[.int .i64 0, .int .i64 0, .string (⟨#[]⟩ : ByteArray)]) (t := 56) ?hr ?_; (case hd => rfl); (case hg => rfl); (case hr => first | (go_simp; done) | (go_simp; rfl)); intro gb133 hg w35 hbox hb; have n0_ := Aside0.mk (Kd.R_below sq12 hb); have n1_ := Aside0.mk (Kd.R_below sq13 hb); have n2_ := Aside0.mk (blk_below (g := gb131) (o := .cells #[.int .i64 x132000_1, .int .i64 x132001_1] 28 (0, 0)) sq34 hb); have n3_ := Aside0.mk (below_step sq58 hb); have n4_ := Aside0.mk (hbox); have n5_ := Aside0.mk ((by rw [hg]; exact (below_size sq58) : w.heap.size ≤ gb133)); have n6_ := Aside0.mk ((by rw [hg]; exact (below_size sq58) : w.heap.size ≤ gb133)); have n7_ := Aside0.mk ((by rw [hg]; exact Nat.ne_of_lt (blk_lt (g := gb131) (o := .cells #[.int .i64 x132000_1, .int .i64 x132001_1] 28 (0, 0)) sq34) : gb131 ≠ gb133)); have n8_ := Aside0.mk ((by rw [hg]; exact Nat.ne_of_gt (blk_lt (g := gb131) (o := .cells #[.int .i64 x132000_1, .int .i64 x132001_1] 28 (0, 0)) sq34) : gb133 ≠ gb131)); clear HO_6; clear HO_7; clear BK131; clear HB; have HO_6 := n0_; have HO_7 := n1_; have BK131 := n2_; have HB := n3_; have BK133 := n4_; have GW133 := n5_; have GE133 := n6_; have NB131_133 := n7_; have NB133_131 := n8_; clear n0_ n1_ n2_ n3_ n4_ n5_ n6_ n7_ n8_; clear hb hbox hg; have hnb36 := NB133_131.out; have hnc36 := NB131_133.out; have hcz37_0 : w35.cell? ⟨gb133, 0, none⟩ = some (.int .i64 0) := (blk_cell BK133.out 0).trans rfl; have hcz37_1 : w35.cell? ⟨gb133, 1, none⟩ = some (.int .i64 0) := (blk_cell BK133.out 1).trans rfl; have hcz37_2 : w35.cell? ⟨gb133, 2, none⟩ = some (.string (⟨#[]⟩ : ByteArray)) := (blk_cell BK133.out 2).trans rfl; have hfz37_0 := blk_frozen BK133.out 0; have hfz37_1 := blk_frozen BK133.out 1; have hfz37_2 := blk_frozen BK133.out 2) | ((with_reducible refine gate_store (t := 56) (p := 9) rfl ?_); refine store_event (t := 56) (p := 9) (v := ?vo_w38) (w1 := (((w35.setCell ⟨gb133, 0, none⟩ (.int .i64 ((rd_T56 l0 x15_1).f0))).setCell ⟨gb133, 1, none⟩ (.int .i64 ((rd_T56 l0 x15_1).f1))).setCell ⟨gb133, 2, none⟩ (.string ((rd_T56 l0 x15_1).f2)))) ?hg ?ho ?hn ?hr ?_; (case ho => rfl); (case hg => rfl); (case hn => rfl); (case hr => first | (go_simp; done) | (go_simp; rfl)); intro w38 hw; have n0_ : Aside0 (Kd.R (Kd.int .i64) 3 w38 w.heap.size (fun k_ => some k_ ≠ (u7 : Value).ownBlock) u6 x6_1) := ⟨sq128⟩; have n1_ : Aside0 (Kd.R (Kd.int .i64) 3 w38 w.heap.size (fun k_ => some k_ ≠ (u6 : Value).ownBlock) u7 x7_1) := ⟨sq129⟩; have n2_ : Aside0 (w38.heap[gb131]? = some (.cells #[.int .i64 x132000_1, .int .i64 x132001_1] 28 (0, 0))) := ⟨sq134⟩; have n3_ : Aside0 (w38.heap[gb133]? = some (.cells #[.int .i64 ((rd_T56 l0 x15_1).f0), .int .i64 ((rd_T56 l0 x15_1).f1), .string ((rd_T56 l0 x15_1).f2)] 56 (0, 0))) := ⟨sq142⟩; have n4_ : Aside0 (Below w.heap.size w w38) := ⟨sq83⟩; clear hw; clear HO_6; clear HO_7; clear BK131; clear BK133; clear HB; have HO_6 := n0_; have HO_7 := n1_; have BK131 := n2_; have BK133 := n3_; have HB := n4_; clear n0_ n1_ n2_ n3_ n4_; obtain ⟨Ao39, co39, eo39⟩ := Kd.R_slice HO_7.out; subst eo39; have hcz40_0 : w38.cell? ⟨gb133, 0, none⟩ = some (.int .i64 ((rd_T56 l0 x15_1).f0)) := (blk_cell BK133.out 0).trans rfl; have hcz40_1 : w38.cell? ⟨gb133, 1, none⟩ = some (.int .i64 ((rd_T56 l0 x15_1).f1)) := (blk_cell BK133.out 1).trans rfl; have hcz40_2 : w38.cell? ⟨gb133, 2, none⟩ = some (.string ((rd_T56 l0 x15_1).f2)) := (blk_cell BK133.out 2).trans rfl; have hfz40_0 := blk_frozen BK133.out 0; have hfz40_1 := blk_frozen BK133.out 1; have hfz40_2 := blk_frozen BK133.out 2; have q41 : ((ji7) : Int) ≤ ((x7_1.length : Int) : Int) := of_decide_eq_true sq6; obtain ⟨i041, hi041, _, hsz41, _⟩ := info_parts info3; have hroom41 : x7_1.length ≤ co39 := (Kd.R_reads' HO_7.out).2.1; have hC41 : Kd.C (Kd.int .i64) _ Ao39 x7_1.length x7_1 := (Kd.R_reads' HO_7.out).2.2; have q041 : (0 : Int) ≤ ((ji7) : Int) := of_decide_eq_true sq6; have hcut41 := cut_from (P := Try.prog) 36 3 .i64 Try.underlying36 hi041 1 hsz41 Ao39 x7_1.length co39 (ji7) q041 q41; have hr41 := Kd.C_drop (m := ((ji7) : Int).toNat) (c := co39) hC41 sq0 hroom41; obtain ⟨A41, hA41⟩ : ∃ A1, A1 = (if co39 = ((ji7) : Int).toNat then Ao39 else (Ao39 : Option Addr).map (·.add (((ji7) : Int).toNat * 1))) := ⟨_, rfl⟩; obtain ⟨c41, hc41⟩ : ∃ c1, c1 = co39 - ((ji7) : Int).toNat := ⟨_, rfl⟩; have hy41 : y134.length = x7_1.length - ((ji7) : Int).toNat := (by rw [Ny134.out, List.length_drop] <;> omega); rw [show (x7_1).drop ((ji7) : Int).toNat = y134 from Ny134.out.symm] at hr41; replace hr41 : Kd.C (Kd.int .i64) _ A41 y134.length y134 := (by rw [hA41]; exact hr41); rw [← hy41, ← hA41, ← hc41] at hcut41; have HR137 := Aside0.mk hr41; have HC137 := Aside0.mk (show y134.length ≤ c41 from by rw [hy41, hc41]; exact Nat.sub_le_sub_right hroom41 _); clear hr41 hC41 hroom41 hi041 hsz41 hc41; have KY41 := Aside0.mk hy41; have KA41 := Aside0.mk hA41; clear hy41 hA41; have KL41 := Aside0.mk (show ((ji7) : Int).toNat ≤ x7_1.length from by omega); replace q41 := eq_true q41) | ((with_reducible refine gate_callee (f := 42) rfl ?_); refine goesL_ (some 37) rfl rfl Try.func42 sq2 rfl #[.int .i64 ((rd_T56 l0 x15_1).f0), .slice A41 y134.length c41] rfl sq51 ?_; (with_reducible refine (kind_node.calls k1 ((rd_T56 l0 x15_1).f0) _ _ y134 t147 _ ?side1 ?side2 A33.out).mono ?_); (case side1 => repeat (first | exact sq71 | (with_reducible refine Kd.C_alloc ?_ _) | (with_reducible refine Kd.C_drewN ?_ _) | (with_reducible refine Kd.C_drew ?_))); (case side2 => exact HC137.out); rintro e w42 ⟨rfl, hb⟩; refine ⟨_, rfl, ?_⟩; have n0_ := Aside0.mk (Kd.R_below sq12 hb); have n1_ := Aside0.mk (Kd.R_below sq13 hb); have n2_ := Aside0.mk (blk_below (g := gb131) (o := .cells #[.int .i64 x132000_1, .int .i64 x132001_1] 28 (0, 0)) sq34 hb); have n3_ := Aside0.mk (blk_below (g := gb133) (o := .cells #[.int .i64 ((rd_T56 l0 x15_1).f0), .int .i64 ((rd_T56 l0 x15_1).f1), .string ((rd_T56 l0 x15_1).f2)] 56 (0, 0)) sq35 hb); have n4_ := Aside0.mk (Kd.C_below sq71 hb); have n5_ := Aside0.mk (below_step sq75 hb); clear HO_6; clear HO_7; clear BK131; clear BK133; clear HR137; clear HB; have HO_6 := n0_; have HO_7 := n1_; have BK131 := n2_; have BK133 := n3_; have HR137 := n4_; have HB := n5_; clear n0_ n1_ n2_ n3_ n4_ n5_; (try clear hb); (try clear hb2); (try clear hk); (try clear hi); have hcz43_0 : w42.cell? ⟨gb131, 0, none⟩ = some (.int .i64 x132000_1) := (blk_cell BK131.out 0).trans rfl; have hcz43_1 : w42.cell? ⟨gb131, 1, none⟩ = some (.int .i64 x132001_1) := (blk_cell BK131.out 1).trans rfl; have hfz43_0 := blk_frozen BK131.out 0; have hfz43_1 := blk_frozen BK131.out 1))
         refine bodyPost_ret (results_tc rfl _ _ gb131 28 #[.int .i64 x15_1, .int .i64 180] (0, 0) _ rfl (by (with_reducible repeat (first | refine blk_drewN ?_ _ | refine blk_drew ?_ | refine blk_alloc ?_ _)); refine blk_put (cs := #[.int .i64 x15_1, .int .i64 x132001_1]) ?_ 1 _ rfl; (with_reducible repeat (first | refine blk_drewN ?_ _ | refine blk_drew ?_ | refine blk_alloc ?_ _)); refine blk_put (cs := #[.int .i64 x132000_1, .int .i64 x132001_1]) ?_ 0 _ rfl; (with_reducible repeat (first | refine blk_drewN ?_ _ | refine blk_drew ?_ | refine blk_alloc ?_ _)); exact BK131.out) Try.underlying28 rfl (by kernel_rfl)) rfl ?_
         exact ⟨_, by first | rfl | (simp [errW_none, errW_some] <;> rfl) | (simp only [← hji7]; first | rfl | (simp [errW_none, errW_some] <;> rfl)) | (simp [*, errW_none, errW_some] <;> rfl), sq52, sq75⟩
        rw [if_neg c34] at H
        have c34b0 : (t147 == 0) = false := beq_eq_false_iff_ne.mpr c34
        have c34b1 : (t147 != 0) = true := bne_iff_ne.mpr c34
        have c44b0 := eq_true (of_decide_eq_true sq6 : (ji7) ≤ (x7_1.length : Int))
        obtain ⟨y148, hy148⟩ : ∃ y_ : List Int, y_ = (x7_1.take ((ji7) : Int).toNat) := ⟨_, rfl⟩
        replace H : (if y148.length < 17592186044416 then (if x6_1.length < 17592186044416 then (kind_each.l0 k1 a1 (x6_1 ++ [t147]) (y148 ++ [t147]) l0 (l0.length : Int) (wrap64 (x15_1 + 1))) else (none)) else (none)) = some (r1, r2, r3) := by first | (rw [hy148]; with_reducible exact H) | (have H2_ := (Option.bind_some _ _).symm.trans H; rw [hy148]; with_reducible exact H2_) | (have H2_ := (Option.bind_some _ _).symm.trans H; with_reducible exact H2_) | with_reducible exact H | (rw [hy148]; exact H) | exact H
        have Ny148 := Aside0.mk hy148
        clear hy148
        by_cases c45 : y148.length < 17592186044416
        ·rw [if_pos c45] at H
         have LMc45 := Aside0.mk c45
         clear c45
         obtain ⟨y151, hy151⟩ : ∃ y_ : List Int, y_ = (y148 ++ [t147]) := ⟨_, rfl⟩
         replace H : (if x6_1.length < 17592186044416 then (kind_each.l0 k1 a1 (x6_1 ++ [t147]) y151 l0 (l0.length : Int) (wrap64 (x15_1 + 1))) else (none)) = some (r1, r2, r3) := by first | (rw [hy151]; with_reducible exact H) | (have H2_ := (Option.bind_some _ _).symm.trans H; rw [hy151]; with_reducible exact H2_) | (have H2_ := (Option.bind_some _ _).symm.trans H; with_reducible exact H2_) | with_reducible exact H | (rw [hy151]; exact H) | exact H
         have Ny151 := Aside0.mk hy151
         clear hy151
         by_cases c46 : x6_1.length < 17592186044416
         ·rw [if_pos c46] at H
          have LMc46 := Aside0.mk c46
          clear c46
          obtain ⟨y154, hy154⟩ : ∃ y_ : List Int, y_ = (x6_1 ++ [t147]) := ⟨_, rfl⟩
          replace H : (kind_each.l0 k1 a1 y154 y151 l0 (l0.length : Int) (wrap64 (x15_1 + 1))) = some (r1, r2, r3) := by first | (rw [hy154]; with_reducible exact H) | (have H2_ := (Option.bind_some _ _).symm.trans H; rw [hy154]; with_reducible exact H2_) | (have H2_ := (Option.bind_some _ _).symm.trans H; with_reducible exact H2_) | with_reducible exact H | (rw [hy154]; exact H) | exact H
          have Ny154 := Aside0.mk hy154
          clear hy154
          have H' := Aside0.mk H
          clear H
          have p132 : 0 ≤ (x15_1 : Int) := of_decide_eq_true sq6
          have q132 : x15_1 < (l0.length : Int) := of_decide_eq_true sq6
          obtain ⟨ad132, e132, hx132_0, hx132_1, hx132_2⟩ := at_T56 HR0.out x15_1 p132 q132
          cases e132
          try replace hx132_0 := (HB.out.cell (World.block_lt_of_cell? w _ hx132_0)).trans hx132_0
          try replace hx132_1 := (HB.out.cell (World.block_lt_of_cell? w _ hx132_1)).trans hx132_1
          try replace hx132_2 := (HB.out.cell (World.block_lt_of_cell? w _ hx132_2)).trans hx132_2
          replace p132 := eq_true p132
          replace q132 := eq_true q132
          go_wp2_with (first | ((with_reducible refine gate_lookup rfl ?_); refine wpList_mlook rfl _ _ 73 rfl Try.underlying73 Try.underlying9 Try.zeroValue3 (MapAt.below HM1.out sq69) rfl _ rfl ?_) | ((with_reducible refine gate_dst (N := 9) rfl ?_); refine box_event ?hg (N := 9) ?hd (cs := #[.int .i64 0, .int .i64 0, .string (⟨#[]⟩ : ByteArray)]) (t := 56) ?hr ?_; (case hd => rfl); (case hg => rfl); (case hr => first | (go_simp; done) | (go_simp; rfl)); intro gb133 hg w47 hbox hb; have n0_ := Aside0.mk (Kd.R_below sq12 hb); have n1_ := Aside0.mk (Kd.R_below sq13 hb); have n2_ := Aside0.mk (blk_below (g := gb131) (o := .cells #[.int .i64 x132000_1, .int .i64 x132001_1] 28 (0, 0)) sq34 hb); have n3_ := Aside0.mk (below_step sq58 hb); have n4_ := Aside0.mk (hbox); have n5_ := Aside0.mk ((by rw [hg]; exact (below_size sq58) : w.heap.size ≤ gb133)); have n6_ := Aside0.mk ((by rw [hg]; exact (below_size sq58) : w.heap.size ≤ gb133)); have n7_ := Aside0.mk ((by rw [hg]; exact Nat.ne_of_lt (blk_lt (g := gb131) (o := .cells #[.int .i64 x132000_1, .int .i64 x132001_1] 28 (0, 0)) sq34) : gb131 ≠ gb133)); have n8_ := Aside0.mk ((by rw [hg]; exact Nat.ne_of_gt (blk_lt (g := gb131) (o := .cells #[.int .i64 x132000_1, .int .i64 x132001_1] 28 (0, 0)) sq34) : gb133 ≠ gb131)); clear HO_6; clear HO_7; clear BK131; clear HB; have HO_6 := n0_; have HO_7 := n1_; have BK131 := n2_; have HB := n3_; have BK133 := n4_; have GW133 := n5_; have GE133 := n6_; have NB131_133 := n7_; have NB133_131 := n8_; clear n0_ n1_ n2_ n3_ n4_ n5_ n6_ n7_ n8_; clear hb hbox hg; have hnb48 := NB133_131.out; have hnc48 := NB131_133.out; have hcz49_0 : w47.cell? ⟨gb133, 0, none⟩ = some (.int .i64 0) := (blk_cell BK133.out 0).trans rfl; have hcz49_1 : w47.cell? ⟨gb133, 1, none⟩ = some (.int .i64 0) := (blk_cell BK133.out 1).trans rfl; have hcz49_2 : w47.cell? ⟨gb133, 2, none⟩ = some (.string (⟨#[]⟩ : ByteArray)) := (blk_cell BK133.out 2).trans rfl; have hfz49_0 := blk_frozen BK133.out 0; have hfz49_1 := blk_frozen BK133.out 1; have hfz49_2 := blk_frozen BK133.out 2) | ((with_reducible refine gate_store (t := 56) (p := 9) rfl ?_); refine store_event (t := 56) (p := 9) (v := ?vo_w50) (w1 := (((w47.setCell ⟨gb133, 0, none⟩ (.int .i64 ((rd_T56 l0 x15_1).f0))).setCell ⟨gb133, 1, none⟩ (.int .i64 ((rd_T56 l0 x15_1).f1))).setCell ⟨gb133, 2, none⟩ (.string ((rd_T56 l0 x15_1).f2)))) ?hg ?ho ?hn ?hr ?_; (case ho => rfl); (case hg => rfl); (case hn => rfl); (case hr => first | (go_simp; done) | (go_simp; rfl)); intro w50 hw; have n0_ : Aside0 (Kd.R (Kd.int .i64) 3 w50 w.heap.size (fun k_ => some k_ ≠ (u7 : Value).ownBlock) u6 x6_1) := ⟨sq128⟩; have n1_ : Aside0 (Kd.R (Kd.int .i64) 3 w50 w.heap.size (fun k_ => some k_ ≠ (u6 : Value).ownBlock) u7 x7_1) := ⟨sq129⟩; have n2_ : Aside0 (w50.heap[gb131]? = some (.cells #[.int .i64 x132000_1, .int .i64 x132001_1] 28 (0, 0))) := ⟨sq134⟩; have n3_ : Aside0 (w50.heap[gb133]? = some (.cells #[.int .i64 ((rd_T56 l0 x15_1).f0), .int .i64 ((rd_T56 l0 x15_1).f1), .string ((rd_T56 l0 x15_1).f2)] 56 (0, 0))) := ⟨sq142⟩; have n4_ : Aside0 (Below w.heap.size w w50) := ⟨sq83⟩; clear hw; clear HO_6; clear HO_7; clear BK131; clear BK133; clear HB; have HO_6 := n0_; have HO_7 := n1_; have BK131 := n2_; have BK133 := n3_; have HB := n4_; clear n0_ n1_ n2_ n3_ n4_; obtain ⟨Ao51, co51, eo51⟩ := Kd.R_slice HO_7.out; subst eo51; have hcz52_0 : w50.cell? ⟨gb133, 0, none⟩ = some (.int .i64 ((rd_T56 l0 x15_1).f0)) := (blk_cell BK133.out 0).trans rfl; have hcz52_1 : w50.cell? ⟨gb133, 1, none⟩ = some (.int .i64 ((rd_T56 l0 x15_1).f1)) := (blk_cell BK133.out 1).trans rfl; have hcz52_2 : w50.cell? ⟨gb133, 2, none⟩ = some (.string ((rd_T56 l0 x15_1).f2)) := (blk_cell BK133.out 2).trans rfl; have hfz52_0 := blk_frozen BK133.out 0; have hfz52_1 := blk_frozen BK133.out 1; have hfz52_2 := blk_frozen BK133.out 2; have q53 : ((ji7) : Int) ≤ ((x7_1.length : Int) : Int) := of_decide_eq_true sq6; obtain ⟨i053, hi053, _, hsz53, _⟩ := info_parts info3; have hroom53 : x7_1.length ≤ co51 := (Kd.R_reads' HO_7.out).2.1; have hC53 : Kd.C (Kd.int .i64) _ Ao51 x7_1.length x7_1 := (Kd.R_reads' HO_7.out).2.2; have q053 : (0 : Int) ≤ ((ji7) : Int) := of_decide_eq_true sq6; have hcut53 := cut_from (P := Try.prog) 36 3 .i64 Try.underlying36 hi053 1 hsz53 Ao51 x7_1.length co51 (ji7) q053 q53; have hr53 := Kd.C_drop (m := ((ji7) : Int).toNat) (c := co51) hC53 sq0 hroom53; obtain ⟨A53, hA53⟩ : ∃ A1, A1 = (if co51 = ((ji7) : Int).toNat then Ao51 else (Ao51 : Option Addr).map (·.add (((ji7) : Int).toNat * 1))) := ⟨_, rfl⟩; obtain ⟨c53, hc53⟩ : ∃ c1, c1 = co51 - ((ji7) : Int).toNat := ⟨_, rfl⟩; have hy53 : y134.length = x7_1.length - ((ji7) : Int).toNat := (by rw [Ny134.out, List.length_drop] <;> omega); rw [show (x7_1).drop ((ji7) : Int).toNat = y134 from Ny134.out.symm] at hr53; replace hr53 : Kd.C (Kd.int .i64) _ A53 y134.length y134 := (by rw [hA53]; exact hr53); rw [← hy53, ← hA53, ← hc53] at hcut53; have HR137 := Aside0.mk hr53; have HC137 := Aside0.mk (show y134.length ≤ c53 from by rw [hy53, hc53]; exact Nat.sub_le_sub_right hroom53 _); clear hr53 hC53 hroom53 hi053 hsz53 hc53; have KY53 := Aside0.mk hy53; have KA53 := Aside0.mk hA53; clear hy53 hA53; have KL53 := Aside0.mk (show ((ji7) : Int).toNat ≤ x7_1.length from by omega); replace q53 := eq_true q53) | ((with_reducible refine gate_callee (f := 42) rfl ?_); refine goesL_ (some 37) rfl rfl Try.func42 sq2 rfl #[.int .i64 ((rd_T56 l0 x15_1).f0), .slice A53 y134.length c53] rfl sq51 ?_; (with_reducible refine (kind_node.calls k1 ((rd_T56 l0 x15_1).f0) _ _ y134 t147 _ ?side1 ?side2 A33.out).mono ?_); (case side1 => repeat (first | exact sq71 | (with_reducible refine Kd.C_alloc ?_ _) | (with_reducible refine Kd.C_drewN ?_ _) | (with_reducible refine Kd.C_drew ?_))); (case side2 => exact HC137.out); rintro e w54 ⟨rfl, hb⟩; refine ⟨_, rfl, ?_⟩; have n0_ := Aside0.mk (Kd.R_below sq12 hb); have n1_ := Aside0.mk (Kd.R_below sq13 hb); have n2_ := Aside0.mk (blk_below (g := gb131) (o := .cells #[.int .i64 x132000_1, .int .i64 x132001_1] 28 (0, 0)) sq34 hb); have n3_ := Aside0.mk (blk_below (g := gb133) (o := .cells #[.int .i64 ((rd_T56 l0 x15_1).f0), .int .i64 ((rd_T56 l0 x15_1).f1), .string ((rd_T56 l0 x15_1).f2)] 56 (0, 0)) sq35 hb); have n4_ := Aside0.mk (Kd.C_below sq71 hb); have n5_ := Aside0.mk (below_step sq75 hb); clear HO_6; clear HO_7; clear BK131; clear BK133; clear HR137; clear HB; have HO_6 := n0_; have HO_7 := n1_; have BK131 := n2_; have BK133 := n3_; have HR137 := n4_; have HB := n5_; clear n0_ n1_ n2_ n3_ n4_ n5_; (try clear hb); (try clear hb2); (try clear hk); (try clear hi); have hcz55_0 : w54.cell? ⟨gb133, 0, none⟩ = some (.int .i64 ((rd_T56 l0 x15_1).f0)) := (blk_cell BK133.out 0).trans rfl; have hcz55_1 : w54.cell? ⟨gb133, 1, none⟩ = some (.int .i64 ((rd_T56 l0 x15_1).f1)) := (blk_cell BK133.out 1).trans rfl; have hcz55_2 : w54.cell? ⟨gb133, 2, none⟩ = some (.string ((rd_T56 l0 x15_1).f2)) := (blk_cell BK133.out 2).trans rfl; have hfz55_0 := blk_frozen BK133.out 0; have hfz55_1 := blk_frozen BK133.out 1; have hfz55_2 := blk_frozen BK133.out 2; have q56 : ((ji7) : Int) ≤ ((x7_1.length : Int) : Int) := of_decide_eq_true sq6; obtain ⟨i056, hi056, _, hsz56, _⟩ := info_parts info3; have hcut56 := cut_to (P := Try.prog) 36 3 .i64 Try.underlying36 hi056 Ao51 x7_1.length co51 (ji7) (of_decide_eq_true sq6) q56 (Kd.R_reads' HO_7.out).2.1; have hr56 := Kd.R_take (m := ((ji7) : Int).toNat) HO_7.out sq0; have hy56 : y148.length = ((ji7) : Int).toNat := (by rw [Ny148.out, List.length_take]; omega); rw [← Ny148.out] at hr56; rw [← hy56] at hr56 hcut56; clear hy56 hi056 hsz56 HO_7; have HO150 := Aside0.mk hr56; clear hr56; replace q56 := eq_true q56) | ((with_reducible refine gate_builtin (b := .append) (xs := #[.tmp 49, .tmp 51]) rfl ?_); at_builtin; refine Kd.R_append (Kd.int .i64) (w0 := w) w.heap.size rfl (.tmp 49) (.tmp 51) 36 3 (.int .i64 0) 8 rfl Try.underlying36 info3 rfl sq1 sq0 (.slice Ao51 y148.length co51) y148 t147 [.int .i64 t147] (fun k_ => some k_ ≠ (u6 : Value).ownBlock) (fun _ => False) rfl rfl ?aP (fun _ hk => hk.elim) ?aF ?aO ?aB ?aS ?aL ?_; (case aP => exact rfl); (case aB => exact sq75); (case aF => exact (fun k_ hk => Kd.fresh' (Kd.R_lt sq12) k_ hk)); (case aO => exact (by (with_reducible repeat (first | apply Kd.R_alloc | apply Kd.R_drewN | apply Kd.R_drew)); exact HO150.out)); (case aS => exact (below_size sq75)); (case aL => have := LMc45.out; omega); intro v152 w57 ho hb hg hat; rw [← Ny151.out] at ho; have n0_ := Aside0.mk (Kd.R_after (ok := (fun _ => True)) sq80 hg hat); have n1_ := Aside0.mk (blk_grown (g := gb131) (o := .cells #[.int .i64 x132000_1, .int .i64 x132001_1] 28 (0, 0)) sq34 hg (Kd.R_ne HO150.out BK131.out sq1)); have n2_ := Aside0.mk (blk_grown (g := gb133) (o := .cells #[.int .i64 ((rd_T56 l0 x15_1).f0), .int .i64 ((rd_T56 l0 x15_1).f1), .string ((rd_T56 l0 x15_1).f2)] 56 (0, 0)) sq35 hg (Kd.R_ne HO150.out BK133.out sq1)); have n3_ := Aside0.mk (hb); have n4_ := Aside0.mk (ho); clear HO_6; clear BK131; clear BK133; clear HB; clear HO150; have HO_6 := n0_; have BK131 := n1_; have BK133 := n2_; have HB := n3_; have HO153 := n4_; clear n0_ n1_ n2_ n3_ n4_; clear ho hb hg hat) | ((with_reducible refine gate_builtin (b := .append) (xs := #[.tmp 53, .tmp 55]) rfl ?_); at_builtin; refine Kd.R_append (Kd.int .i64) (w0 := w) w.heap.size rfl (.tmp 53) (.tmp 55) 36 3 (.int .i64 0) 8 rfl Try.underlying36 info3 rfl sq1 sq0 u6 x6_1 t147 [.int .i64 t147] (fun k_ => some k_ ≠ (v152 : Value).ownBlock) (fun _ => False) rfl rfl ?aP (fun _ hk => hk.elim) ?aF ?aO ?aB ?aS ?aL ?_; (case aP => exact rfl); (case aB => exact sq75); (case aF => exact (fun k_ hk => Kd.fresh' (Kd.R_lt (by (with_reducible repeat (first | apply Kd.R_alloc | apply Kd.R_drewN | apply Kd.R_drew)); exact HO153.out)) k_ hk)); (case aO => exact (by (with_reducible repeat (first | apply Kd.R_alloc | apply Kd.R_drewN | apply Kd.R_drew)); exact Kd.R_mono HO_6.out (fun _ hk => hk.2))); (case aS => exact (below_size sq75)); (case aL => have := LMc46.out; omega); intro v155 w58 ho hb hg hat; rw [← Ny154.out] at ho; have n0_ := Aside0.mk (blk_grown (g := gb131) (o := .cells #[.int .i64 x132000_1, .int .i64 x132001_1] 28 (0, 0)) sq34 hg (Kd.R_ne HO_6.out BK131.out sq1)); have n1_ := Aside0.mk (blk_grown (g := gb133) (o := .cells #[.int .i64 ((rd_T56 l0 x15_1).f0), .int .i64 ((rd_T56 l0 x15_1).f1), .string ((rd_T56 l0 x15_1).f2)] 56 (0, 0)) sq35 hg (Kd.R_ne HO_6.out BK133.out sq1)); have n2_ := Aside0.mk (Kd.R_after (ok := (fun _ => True)) (by (with_reducible repeat (first | apply Kd.R_alloc | apply Kd.R_drewN | apply Kd.R_drew)); exact Kd.R_mono HO153.out (fun _ hk => ⟨trivial, by first | exact hk | exact fun e_ => hk (e_.trans (own_len _ _ _ _))⟩)) hg hat); have n3_ := Aside0.mk (hb); have n4_ := Aside0.mk (ho); clear BK131; clear BK133; clear HO153; clear HB; clear HO_6; have BK131 := n0_; have BK133 := n1_; have HO153 := n2_; have HB := n3_; have HO156 := n4_; clear n0_ n1_ n2_ n3_ n4_; clear ho hb hg hat))
          go_roundg k1
          case measure => have := HK1.out; omega
          case rel => exact ⟨(y154), (y151), (wrap64 (x15_1 + 1)), (x132000_1), (x132001_1), sq5, H', ⟨by have := HK1.out; omega⟩, ⟨by (with_reducible repeat (first | apply Kd.R_alloc | apply Kd.R_drewN | apply Kd.R_drew)); exact HO156.out⟩, ⟨by (with_reducible repeat (first | apply Kd.R_alloc | apply Kd.R_drewN | apply Kd.R_drew)); exact Kd.R_mono HO153.out (fun _ hk => hk.2)⟩, ⟨sq34⟩, ⟨sq75⟩⟩
         rw [if_neg c46] at H
         exact absurd H (by simp)
        rw [if_neg c45] at H
        exact absurd H (by simp)
       rw [if_neg c9] at H
       exact absurd H (by simp)
      rw [if_neg c8] at H
      exact absurd H (by simp)
     rw [if_neg c6] at H
     exact absurd H (by simp)
    rw [if_neg c5] at H
    exact absurd H (by simp)
   rw [if_neg c4] at H
   have c4b0 : decide (x15_1 < (l0.length : Int)) = false := decide_eq_false c4; clear c4
   simp only [Option.some.injEq, Prod.mk.injEq] at H
   obtain ⟨rfl, rfl, rfl⟩ := H
   have hcz59_0 : wr.cell? ⟨gb131, 0, none⟩ = some (.int .i64 x132000_1) := (blk_cell BK131.out 0).trans rfl
   have hcz59_1 : wr.cell? ⟨gb131, 1, none⟩ = some (.int .i64 x132001_1) := (blk_cell BK131.out 1).trans rfl
   have hfz59_0 := blk_frozen BK131.out 0
   have hfz59_1 := blk_frozen BK131.out 1
   go_wp2_with ((with_reducible refine gate_lookup rfl ?_); refine wpList_mlook rfl _ _ 73 rfl Try.underlying73 Try.underlying9 Try.zeroValue3 (MapAt.below HM1.out sq69) rfl _ rfl ?_)
   refine bodyPost_ret (results_tc rfl _ _ gb131 28 #[.int .i64 0, .int .i64 0] (0, 0) _ rfl (by (with_reducible repeat (first | refine blk_drewN ?_ _ | refine blk_drew ?_ | refine blk_alloc ?_ _)); refine blk_put (cs := #[.int .i64 0, .int .i64 x132001_1]) ?_ 1 _ rfl; (with_reducible repeat (first | refine blk_drewN ?_ _ | refine blk_drew ?_ | refine blk_alloc ?_ _)); refine blk_put (cs := #[.int .i64 x132000_1, .int .i64 x132001_1]) ?_ 0 _ rfl; (with_reducible repeat (first | refine blk_drewN ?_ _ | refine blk_drew ?_ | refine blk_alloc ?_ _)); exact BK131.out) Try.underlying28 rfl (by kernel_rfl)) rfl ?_
   exact ⟨_, sq11, by (with_reducible repeat (first | apply Kd.R_alloc | apply Kd.R_drewN | apply Kd.R_drew)); exact Kd.R_mono (Kd.R_far (p := ⟨gb131, 1, none⟩) (Kd.R_far (p := ⟨gb131, 0, none⟩) (Kd.R_types HO_6.out BK131.out sq1) (fun _ hk => hk.2) (.int .i64 0)) (fun _ hk => hk.2) (.int .i64 0)) (fun _ hk => trivial), sq58⟩

/-! ### clause_parts: function 60 -/
mutual
def clause_parts.j0 : Nat → Int → Bool → Option (Int)
 | 0, _, _ => none
 | k + 1, x3, x4 => if x4 = true then (some 0) else (if x3 = 6 then (clause_parts.j1 k x3 (x3 == 6)) else (clause_parts.j1 k x3 (x3 == 7)))
def clause_parts.j1 : Nat → Int → Bool → Option (Int)
 | 0, _, _ => none
 | k + 1, x3, x10 => if x10 = true then (some 1) else (if x3 = 20 then (some 3) else (if x3 = 21 then (some (-1)) else (if x3 = 22 then (some (-1)) else (some 2))))
end
def clause_parts.f (k : Nat) (a0 : Int) : Option (Int) := if a0 = 1 then (clause_parts.j0 k a0 (a0 == 1)) else (if a0 = 2 then (clause_parts.j0 k a0 (a0 == 2)) else (if a0 = 3 then (clause_parts.j0 k a0 (a0 == 3)) else (if a0 = 4 then (clause_parts.j0 k a0 (a0 == 4)) else (clause_parts.j0 k a0 (a0 == 5)))))
theorem clause_parts.mono_l : ∀ k, (∀ y0 y1, LeO (clause_parts.j0 k y0 y1) (clause_parts.j0 (k + 1) y0 y1)) ∧ (∀ y0 y1, LeO (clause_parts.j1 k y0 y1) (clause_parts.j1 (k + 1) y0 y1))
 | 0 => ⟨fun _ _ r h => by simp [clause_parts.j0] at h, fun _ _ r h => by simp [clause_parts.j1] at h⟩
 | k + 1 => by
  obtain ⟨ih0, ih1⟩ := clause_parts.mono_l k
  refine ⟨?_, ?_⟩
  ·intro y0 y1
   unfold clause_parts.j0
   exact sq99
  intro y0 y1
  unfold clause_parts.j1
  exact sq99
theorem clause_parts.mono : ∀ a0 k, LeO (clause_parts.f k a0) (clause_parts.f (k + 1) a0) := by
 intro a0 k
 obtain ⟨ih0, ih1⟩ := clause_parts.mono_l k
 unfold clause_parts.f
 exact sq99
set_option maxHeartbeats 8000000 in
set_option maxRecDepth 100000 in
theorem clause_parts.calls (k : Nat) (a0 : Int) (r : Int) (w : World) (h : clause_parts.f k a0 = some r) :
  Calls Try.prog 60 #[.int .i64 a0] w fun e w' => e = .returned (.int .i64 r) ∧ Drawn0 w w' := by
 have H : (if a0 = 1 then (clause_parts.j0 k a0 (a0 == 1)) else (if a0 = 2 then (clause_parts.j0 k a0 (a0 == 2)) else (if a0 = 3 then (clause_parts.j0 k a0 (a0 == 3)) else (if a0 = 4 then (clause_parts.j0 k a0 (a0 == 4)) else (clause_parts.j0 k a0 (a0 == 5)))))) = some r := h
 clear h
 have HC2 := Aside0.mk H
 clear H
 go_enter Try.func60, Try.ntmps60
 go_upto_if 4 with (fail)
 go_cut [4] (fun v4 wc => ∃ (kq : Nat) (x4_1 : Bool), v4 = .bool x4_1 ∧ Aside0 (clause_parts.j0 kq a0 x4_1 = some r) ∧ Aside0 (kq ≤ k) ∧ Drawn0 w wc)
 case first =>
  have H := HC2.out
  clear HC2
  by_cases c3 : a0 = 1
  ·rw [if_pos c3] at H
   have c3b0 : (a0 == 1) = true := beq_iff_eq.mpr c3
   have c3b1 : (a0 != 1) = false := bne_eq_false_iff_eq.mpr c3
   clear c3
   (first | rw [c3b0] | (simp only [i64_w, i32_w]; rw [c3b0]) | skip)
   have H' := Aside0.mk H
   clear H
   go_wp2
   go_meet
   case rel => exact ⟨_, ((a0 == 1)), sq5, H', ⟨sq3⟩, sq7⟩
  rw [if_neg c3] at H
  have c3b0 : (a0 == 1) = false := beq_eq_false_iff_ne.mpr c3
  have c3b1 : (a0 != 1) = true := bne_iff_ne.mpr c3
  (first | rw [c3b0] | (simp only [i64_w, i32_w]; rw [c3b0]) | skip)
  by_cases c4 : a0 = 2
  ·rw [if_pos c4] at H
   have c4b0 : (a0 == 2) = true := beq_iff_eq.mpr c4
   have c4b1 : (a0 != 2) = false := bne_eq_false_iff_eq.mpr c4
   clear c4
   have H' := Aside0.mk H
   clear H
   go_wp2
   go_meet
   case rel => exact ⟨_, ((a0 == 2)), sq5, H', ⟨sq3⟩, sq7⟩
  rw [if_neg c4] at H
  have c4b0 : (a0 == 2) = false := beq_eq_false_iff_ne.mpr c4
  have c4b1 : (a0 != 2) = true := bne_iff_ne.mpr c4
  by_cases c5 : a0 = 3
  ·rw [if_pos c5] at H
   have c5b0 : (a0 == 3) = true := beq_iff_eq.mpr c5
   have c5b1 : (a0 != 3) = false := bne_eq_false_iff_eq.mpr c5
   clear c5
   have H' := Aside0.mk H
   clear H
   go_wp2
   go_meet
   case rel => exact ⟨_, ((a0 == 3)), sq5, H', ⟨sq3⟩, sq7⟩
  rw [if_neg c5] at H
  have c5b0 : (a0 == 3) = false := beq_eq_false_iff_ne.mpr c5
  have c5b1 : (a0 != 3) = true := bne_iff_ne.mpr c5
  by_cases c6 : a0 = 4
  ·rw [if_pos c6] at H
   have c6b0 : (a0 == 4) = true := beq_iff_eq.mpr c6
   have c6b1 : (a0 != 4) = false := bne_eq_false_iff_eq.mpr c6
   clear c6
   have H' := Aside0.mk H
   clear H
   go_wp2
   go_meet
   case rel => exact ⟨_, ((a0 == 4)), sq5, H', ⟨sq3⟩, sq7⟩
  rw [if_neg c6] at H
  have c6b0 : (a0 == 4) = false := beq_eq_false_iff_ne.mpr c6
  have c6b1 : (a0 != 4) = true := bne_iff_ne.mpr c6
  have H' := Aside0.mk H
  clear H
  go_wp2
  go_meet
  case rel => exact ⟨_, ((a0 == 5)), sq5, H', ⟨sq3⟩, sq7⟩
 case rest =>
  clear HC2; try clear p2; try clear c3; try clear c3b0; try clear c3b1; try clear c4; try clear c4b0; try clear c4b1; try clear c5; try clear c5b0; try clear c5b1; try clear c6; try clear c6b0; try clear c6b1
  obtain ⟨kq, x4_1, rfl, HA, HJ1, ⟨mc1, rfl⟩⟩ := hcut
  cases kq with
  | zero => exact absurd HA.out (by simp [clause_parts.j0])
  | succ kj1 =>
   have H := HA.out
   clear HA
   simp only [clause_parts.j0] at H
   by_cases c7 : x4_1 = true
   ·subst c7
    replace H := (itT_ _ _).symm.trans H
    obtain rfl := Option.some.inj H
    go_wp2
    go_ret
    exact ⟨sq5, sq7⟩
   replace c7 := Bool.eq_false_iff.mpr c7
   subst c7
   replace H := (itF_ _ _).symm.trans H
   have HC8 := Aside0.mk H
   clear H
   go_upto_if 10 with (fail)
   go_cut [10] (fun v10 wc => ∃ (kq : Nat) (x10_7 : Bool), v10 = .bool x10_7 ∧ Aside0 (clause_parts.j1 kq a0 x10_7 = some r) ∧ Aside0 (kq ≤ kj1) ∧ Drawn0 w wc)
   case first =>
    have H := HC8.out
    clear HC8
    by_cases c9 : a0 = 6
    ·rw [if_pos c9] at H
     have c9b0 : (a0 == 6) = true := beq_iff_eq.mpr c9
     have c9b1 : (a0 != 6) = false := bne_eq_false_iff_eq.mpr c9
     clear c9
     (first | rw [c9b0] | (simp only [i64_w, i32_w]; rw [c9b0]) | skip)
     have H' := Aside0.mk H
     clear H
     go_wp2
     go_meet
     case rel => exact ⟨_, ((a0 == 6)), sq5, H', ⟨by have := HJ1.out; first | omega | exact Nat.le_refl _⟩, sq7⟩
    rw [if_neg c9] at H
    have c9b0 : (a0 == 6) = false := beq_eq_false_iff_ne.mpr c9
    have c9b1 : (a0 != 6) = true := bne_iff_ne.mpr c9
    (first | rw [c9b0] | (simp only [i64_w, i32_w]; rw [c9b0]) | skip)
    have H' := Aside0.mk H
    clear H
    go_wp2
    go_meet
    case rel => exact ⟨_, ((a0 == 7)), sq5, H', ⟨by have := HJ1.out; first | omega | exact Nat.le_refl _⟩, sq7⟩
   case rest =>
    clear HC8; try clear c1; try clear p2; try clear c3; try clear c3b0; try clear c3b1; try clear c4; try clear c4b0; try clear c4b1; try clear c5; try clear c5b0; try clear c5b1; try clear c6; try clear c6b0; try clear c6b1; try clear c7; try clear c9; try clear c9b0; try clear c9b1; try clear p2
    obtain ⟨kq, x10_7, rfl, HA, HJ7, ⟨mc7, rfl⟩⟩ := hcut
    cases kq with
    | zero => exact absurd HA.out (by simp [clause_parts.j1])
    | succ kj7 =>
     have H := HA.out
     clear HA
     simp only [clause_parts.j1] at H
     by_cases c10 : x10_7 = true
     ·subst c10
      replace H := (itT_ _ _).symm.trans H
      obtain rfl := Option.some.inj H
      go_wp2
      go_ret
      exact ⟨sq5, sq7⟩
     replace c10 := Bool.eq_false_iff.mpr c10
     subst c10
     replace H := (itF_ _ _).symm.trans H
     by_cases c11 : a0 = 20
     ·rw [if_pos c11] at H
      have c11b0 : (a0 == 20) = true := beq_iff_eq.mpr c11
      have c11b1 : (a0 != 20) = false := bne_eq_false_iff_eq.mpr c11
      clear c11
      obtain rfl := Option.some.inj H
      go_wp2
      go_ret
      exact ⟨sq5, sq7⟩
     rw [if_neg c11] at H
     have c11b0 : (a0 == 20) = false := beq_eq_false_iff_ne.mpr c11
     have c11b1 : (a0 != 20) = true := bne_iff_ne.mpr c11
     by_cases c12 : a0 = 21
     ·rw [if_pos c12] at H
      have c12b0 : (a0 == 21) = true := beq_iff_eq.mpr c12
      have c12b1 : (a0 != 21) = false := bne_eq_false_iff_eq.mpr c12
      clear c12
      obtain rfl := Option.some.inj H
      go_wp2
      go_ret
      exact ⟨sq5, sq7⟩
     rw [if_neg c12] at H
     have c12b0 : (a0 == 21) = false := beq_eq_false_iff_ne.mpr c12
     have c12b1 : (a0 != 21) = true := bne_iff_ne.mpr c12
     by_cases c13 : a0 = 22
     ·rw [if_pos c13] at H
      have c13b0 : (a0 == 22) = true := beq_iff_eq.mpr c13
      have c13b1 : (a0 != 22) = false := bne_eq_false_iff_eq.mpr c13
      clear c13
      obtain rfl := Option.some.inj H
      go_wp2
      go_ret
      exact ⟨sq5, sq7⟩
     rw [if_neg c13] at H
     have c13b0 : (a0 == 22) = false := beq_eq_false_iff_ne.mpr c13
     have c13b1 : (a0 != 22) = true := bne_iff_ne.mpr c13
     obtain rfl := Option.some.inj H
     go_wp2
     go_ret
     exact ⟨sq5, sq7⟩

/-! ### clause_figures: function 87: by hand -/
def clause_figures.f (a0 : ByteArray) : Option Int := if a0.size ≤ 9223372036854775807 then some (Ytpfnnamicbbobaa.HS.figs a0.data.toList : Nat) else none
theorem clause_figures.calls (a0 : ByteArray) (r : Int) (w : World) (h : clause_figures.f a0 = some r) :
  Calls Try.prog 87 #[.string a0] w fun e w' => e = .returned (.int .i64 r) ∧ Drawn0 w w' := by
 unfold clause_figures.f at h
 split at h
 ·obtain rfl := Option.some.inj h
  refine (Ytpfnnamicbbobaa.HA.figures_any a0 w (by assumption)).mono ?_
  rintro e w' ⟨rfl, rfl⟩
  exact ⟨rfl, Drawn0.refl _⟩
 cases h

/-! ### strings_Count: function 99: by hand -/
def strings_Count.f (a0 : ByteArray) (a1 : ByteArray) : Option Int :=
 match a1 with
 | ⟨⟨[c]⟩⟩ => some (Lib.countByte a0.data.toList c)
 | _ => none
theorem strings_Count.calls (a0 : ByteArray) (a1 : ByteArray) (r : Int) (w : World) (h : strings_Count.f a0 a1 = some r) :
  Calls Try.prog 99 #[.string a0, .string a1] w fun e w' => e = .returned (.int .i64 r) ∧ Drawn0 w w' := by
 unfold strings_Count.f at h
 split at h
 ·rename_i c
  obtain rfl := Option.some.inj h
  refine (Try.strings_Count_one a0 c w).mono ?_
  rintro e w' ⟨rfl, rfl⟩
  exact ⟨rfl, Drawn0.refl _⟩
 cases h

/-! ### clause_many: function 93 -/
def clause_many.f (a0 : ByteArray) : Option (Int) := (strings_Count.f a0 (⟨#[46]⟩ : ByteArray)).bind fun t157 => (some (wrap64 ((a0.size : Int) - t157)))
set_option maxHeartbeats 8000000 in
set_option maxRecDepth 100000 in
theorem clause_many.calls (a0 : ByteArray) (r : Int) (w : World) (h : clause_many.f a0 = some r) :
  Calls Try.prog 93 #[.string a0] w fun e w' => e = .returned (.int .i64 r) ∧ Drawn0 w w' := by
 have H : ((strings_Count.f a0 (⟨#[46]⟩ : ByteArray)).bind fun t157 => (some (wrap64 ((a0.size : Int) - t157)))) = some r := h
 clear h
 replace H := Option.bind_eq_some_iff.mp H
 obtain ⟨t157, A20, H⟩ := H
 replace H : (some (wrap64 ((a0.size : Int) - t157))) = some r := H
 have A2 := Aside0.mk A20
 clear A20
 obtain rfl := Option.some.inj H
 go_enter Try.func93, Try.ntmps93
 go_wp2_with (first | ((with_reducible refine gate_callee (f := 99) rfl ?_); refine goesL_ (some 6) rfl rfl Try.func99 sq2 rfl #[.string a0, .string (⟨#[46]⟩ : ByteArray)] rfl sq51 ?_; (with_reducible refine (strings_Count.calls a0 (⟨#[46]⟩ : ByteArray) t157 _ A2.out).mono ?_); rintro e w' ⟨rfl, ⟨nd, rfl⟩⟩; refine ⟨_, rfl, ?_⟩))
 go_ret
 exact ⟨sq5, sq7⟩

/-! ### stringslite_Index: function 105: by hand -/
def stringslite_Index.f (a0 : ByteArray) (a1 : ByteArray) : Option Int :=
 match a1 with
 | ⟨⟨[c]⟩⟩ => some (Lib.indexByte a0.data.toList c)
 | _ => if a0.size < 4294967281 then some (Lib.index a0.data.toList a1.data.toList) else none
theorem stringslite_Index.calls (a0 : ByteArray) (a1 : ByteArray) (r : Int) (w : World) (hG : Glob w) (h : stringslite_Index.f a0 a1 = some r) :
  Calls Try.prog 105 #[.string a0, .string a1] w fun e w' => e = .returned (.int .i64 r) ∧ Drawn0 w w' := by
 unfold stringslite_Index.f at h
 split at h
 ·rename_i c
  obtain rfl := Option.some.inj h
  refine (Try.stringslite_Index_one a0 c w).mono ?_
  rintro e w' ⟨rfl, rfl⟩
  exact ⟨rfl, Drawn0.refl _⟩
 split at h
 ·obtain rfl := Option.some.inj h
  obtain ⟨m, hm⟩ := hG
  refine (Try.stringslite_Index a0 a1 m w (by assumption) hm).mono ?_
  rintro e w' ⟨rfl, rfl⟩
  exact ⟨rfl, Drawn0.refl _⟩
 cases h

/-! ### stringslite_Cut: function 104 -/
def stringslite_Cut.f (a0 : ByteArray) (a1 : ByteArray) : Option (ByteArray × ByteArray × Bool) := (stringslite_Index.f a0 a1).bind fun t158 => (if t158 ≥ 0 then (if 0 ≤ t158 then (if t158 ≤ (a0.size : Int) then (if 0 ≤ (wrap64 (t158 + (a1.size : Int))) then (if (wrap64 (t158 + (a1.size : Int))) ≤ (a0.size : Int) then (some (a0.extract 0 (t158 : Int).toNat, a0.extract ((wrap64 (t158 + (a1.size : Int))) : Int).toNat a0.size, true)) else (none)) else (none)) else (none)) else (none)) else (some (a0, (⟨#[]⟩ : ByteArray), false)))
set_option maxHeartbeats 8000000 in
set_option maxRecDepth 100000 in
theorem stringslite_Cut.calls (a0 : ByteArray) (a1 : ByteArray) (r1 : ByteArray) (r2 : ByteArray) (r3 : Bool) (w : World) (hG : Glob w) (h : stringslite_Cut.f a0 a1 = some (r1, r2, r3)) :
  Calls Try.prog 104 #[.string a0, .string a1] w fun e w' => e = .returned (.tuple #[.string r1, .string r2, .bool r3]) ∧ Drawn0 w w' := by
 have HG := Aside0.mk hG
 clear hG
 have H : ((stringslite_Index.f a0 a1).bind fun t158 => (if t158 ≥ 0 then (if 0 ≤ t158 then (if t158 ≤ (a0.size : Int) then (if 0 ≤ (wrap64 (t158 + (a1.size : Int))) then (if (wrap64 (t158 + (a1.size : Int))) ≤ (a0.size : Int) then (some (a0.extract 0 (t158 : Int).toNat, a0.extract ((wrap64 (t158 + (a1.size : Int))) : Int).toNat a0.size, true)) else (none)) else (none)) else (none)) else (none)) else (some (a0, (⟨#[]⟩ : ByteArray), false)))) = some (r1, r2, r3) := h
 clear h
 replace H := Option.bind_eq_some_iff.mp H
 obtain ⟨t158, A30, H⟩ := H
 replace H : (if t158 ≥ 0 then (if 0 ≤ t158 then (if t158 ≤ (a0.size : Int) then (if 0 ≤ (wrap64 (t158 + (a1.size : Int))) then (if (wrap64 (t158 + (a1.size : Int))) ≤ (a0.size : Int) then (some (a0.extract 0 (t158 : Int).toNat, a0.extract ((wrap64 (t158 + (a1.size : Int))) : Int).toNat a0.size, true)) else (none)) else (none)) else (none)) else (none)) else (some (a0, (⟨#[]⟩ : ByteArray), false))) = some (r1, r2, r3) := H
 have A3 := Aside0.mk A30
 clear A30
 by_cases c4 : t158 ≥ 0
 ·rw [if_pos c4] at H
  have c4b0 : decide (0 ≤ t158) = true := decide_eq_true c4; clear c4
  by_cases c5 : 0 ≤ t158
  ·rw [if_pos c5] at H
   have c5b0 := eq_true c5
   have c5b1 : decide (0 ≤ t158) = true := decide_eq_true c5
   clear c5
   by_cases c6 : t158 ≤ (a0.size : Int)
   ·rw [if_pos c6] at H
    have c6b0 := eq_true c6
    have c6b1 : decide (t158 ≤ (a0.size : Int)) = true := decide_eq_true c6
    clear c6
    obtain ⟨ji7, hji7⟩ : ∃ j_ : Int, (wrap64 (t158 + (a1.size : Int))) = j_ := ⟨_, rfl⟩
    replace H : (if 0 ≤ (ji7) then (if (ji7) ≤ (a0.size : Int) then (some (a0.extract 0 (t158 : Int).toNat, a0.extract ((ji7) : Int).toNat a0.size, true)) else (none)) else (none)) = some (r1, r2, r3) := by first | (rw [hji7] at H; exact H) | (simp only [hji7] at H ⊢; exact H)
    (try rw [hji7] at A3)
    have hji7w : (IntKind.i64.wrap (t158 + (a1.size : Int))) = ji7 := (i64_w _).trans hji7
    by_cases c8 : 0 ≤ (ji7)
    ·rw [if_pos c8] at H
     have c8b0 := eq_true c8
     have c8b1 : decide (0 ≤ (ji7)) = true := decide_eq_true c8
     clear c8
     by_cases c9 : (ji7) ≤ (a0.size : Int)
     ·rw [if_pos c9] at H
      have c9b0 := eq_true c9
      have c9b1 : decide ((ji7) ≤ (a0.size : Int)) = true := decide_eq_true c9
      clear c9
      simp only [Option.some.injEq, Prod.mk.injEq] at H
      obtain ⟨rfl, rfl, rfl⟩ := H
      go_enter Try.func104, Try.ntmps104
      go_wp2_with (first | (go_at_call 105; (with_reducible refine (stringslite_Index.calls a0 a1 t158 _ ?side1 A3.out).mono ?_); (case side1 => (refine Glob.drawn HG.out ?_; repeat (first | exact Drawn0.refl _ | apply Drawn0.step))); rintro e w' ⟨rfl, ⟨nd, rfl⟩⟩; (try first | exact ⟨rfl, _, World.drewN_drewN _ _ _⟩ | exact ⟨rfl, _, Eq.trans (World.drewN_drewN _ _ _) (congrArg (World.drewN _) (Nat.add_assoc _ _ _))⟩)))
      repeat (go_quiet (first | (go_at_call 105; (with_reducible refine (stringslite_Index.calls a0 a1 t158 _ ?side1 A3.out).mono ?_); (case side1 => (refine Glob.drawn HG.out ?_; repeat (first | exact Drawn0.refl _ | apply Drawn0.step))); rintro e w' ⟨rfl, ⟨nd, rfl⟩⟩; (try first | exact ⟨rfl, _, World.drewN_drewN _ _ _⟩ | exact ⟨rfl, _, Eq.trans (World.drewN_drewN _ _ _) (congrArg (World.drewN _) (Nat.add_assoc _ _ _))⟩))); try go_wp2_with (first | (go_at_call 105; (with_reducible refine (stringslite_Index.calls a0 a1 t158 _ ?side1 A3.out).mono ?_); (case side1 => (refine Glob.drawn HG.out ?_; repeat (first | exact Drawn0.refl _ | apply Drawn0.step))); rintro e w' ⟨rfl, ⟨nd, rfl⟩⟩; (try first | exact ⟨rfl, _, World.drewN_drewN _ _ _⟩ | exact ⟨rfl, _, Eq.trans (World.drewN_drewN _ _ _) (congrArg (World.drewN _) (Nat.add_assoc _ _ _))⟩))))
      go_ret3
      exact ⟨by first | rfl | (simp; done) | (simp only [← hji7] <;> (first | rfl | simp)) | (simp [*]; done), sq7⟩
     rw [if_neg c9] at H
     exact absurd H (by simp)
    rw [if_neg c8] at H
    exact absurd H (by simp)
   rw [if_neg c6] at H
   exact absurd H (by simp)
  rw [if_neg c5] at H
  exact absurd H (by simp)
 rw [if_neg c4] at H
 have c4b0 : decide (0 ≤ t158) = false := decide_eq_false c4; clear c4
 simp only [Option.some.injEq, Prod.mk.injEq] at H
 obtain ⟨rfl, rfl, rfl⟩ := H
 go_enter Try.func104, Try.ntmps104
 go_wp2_with (first | (go_at_call 105; (with_reducible refine (stringslite_Index.calls a0 a1 t158 _ ?side1 A3.out).mono ?_); (case side1 => (refine Glob.drawn HG.out ?_; repeat (first | exact Drawn0.refl _ | apply Drawn0.step))); rintro e w' ⟨rfl, ⟨nd, rfl⟩⟩; (try first | exact ⟨rfl, _, World.drewN_drewN _ _ _⟩ | exact ⟨rfl, _, Eq.trans (World.drewN_drewN _ _ _) (congrArg (World.drewN _) (Nat.add_assoc _ _ _))⟩)))
 repeat (go_quiet (first | (go_at_call 105; (with_reducible refine (stringslite_Index.calls a0 a1 t158 _ ?side1 A3.out).mono ?_); (case side1 => (refine Glob.drawn HG.out ?_; repeat (first | exact Drawn0.refl _ | apply Drawn0.step))); rintro e w' ⟨rfl, ⟨nd, rfl⟩⟩; (try first | exact ⟨rfl, _, World.drewN_drewN _ _ _⟩ | exact ⟨rfl, _, Eq.trans (World.drewN_drewN _ _ _) (congrArg (World.drewN _) (Nat.add_assoc _ _ _))⟩))); try go_wp2_with (first | (go_at_call 105; (with_reducible refine (stringslite_Index.calls a0 a1 t158 _ ?side1 A3.out).mono ?_); (case side1 => (refine Glob.drawn HG.out ?_; repeat (first | exact Drawn0.refl _ | apply Drawn0.step))); rintro e w' ⟨rfl, ⟨nd, rfl⟩⟩; (try first | exact ⟨rfl, _, World.drewN_drewN _ _ _⟩ | exact ⟨rfl, _, Eq.trans (World.drewN_drewN _ _ _) (congrArg (World.drewN _) (Nat.add_assoc _ _ _))⟩))))
 go_ret3
 exact ⟨sq5, sq7⟩

/-! ### strings_Cut: function 100 -/
def strings_Cut.f (a0 : ByteArray) (a1 : ByteArray) : Option (ByteArray × ByteArray × Bool) := (stringslite_Cut.f a0 a1).bind fun bt159 => (some (bt159.1, bt159.2.1, bt159.2.2))
set_option maxHeartbeats 8000000 in
set_option maxRecDepth 100000 in
theorem strings_Cut.calls (a0 : ByteArray) (a1 : ByteArray) (r1 : ByteArray) (r2 : ByteArray) (r3 : Bool) (w : World) (hG : Glob w) (h : strings_Cut.f a0 a1 = some (r1, r2, r3)) :
  Calls Try.prog 100 #[.string a0, .string a1] w fun e w' => e = .returned (.tuple #[.string r1, .string r2, .bool r3]) ∧ Drawn0 w w' := by
 have HG := Aside0.mk hG
 clear hG
 have H : ((stringslite_Cut.f a0 a1).bind fun bt159 => (some (bt159.1, bt159.2.1, bt159.2.2))) = some (r1, r2, r3) := h
 clear h
 replace H := Option.bind_eq_some_iff.mp H
 obtain ⟨⟨t159, t160, t161⟩, A30, H⟩ := H
 replace H : (some (t159, t160, t161)) = some (r1, r2, r3) := H
 have A3 := Aside0.mk A30
 clear A30
 simp only [Option.some.injEq, Prod.mk.injEq] at H
 obtain ⟨rfl, rfl, rfl⟩ := H
 go_enter Try.func100, Try.ntmps100
 go_wp2_with (first | ((with_reducible refine gate_callee (f := 104) rfl ?_); refine goesL_ (some 9) rfl rfl Try.func104 sq2 rfl #[.string a0, .string a1] rfl sq51 ?_; (with_reducible refine (stringslite_Cut.calls a0 a1 t159 t160 t161 _ ?side1 A3.out).mono ?_); (case side1 => (refine Glob.drawn HG.out ?_; repeat (first | exact Drawn0.refl _ | apply Drawn0.step))); rintro e w' ⟨rfl, ⟨nd, rfl⟩⟩; refine ⟨_, rfl, ?_⟩))
 go_ret3
 exact ⟨sq5, sq7⟩

/-! ### clause_early: function 94 -/
def clause_early.f (a0 : ByteArray) : Option (Bool) := (strings_Cut.f a0 (⟨#[46]⟩ : ByteArray)).bind fun bt162 => (if (bt162.1.size : Int) > 1 then (if 0 < (bt162.1.size : Int) then (some ((bt bt162.1 0) == 48)) else (none)) else (some false))
set_option maxHeartbeats 8000000 in
set_option maxRecDepth 100000 in
theorem clause_early.calls (a0 : ByteArray) (r : Bool) (w : World) (hG : Glob w) (h : clause_early.f a0 = some r) :
  Calls Try.prog 94 #[.string a0] w fun e w' => e = .returned (.bool r) ∧ Drawn0 w w' := by
 have HG := Aside0.mk hG
 clear hG
 have H : ((strings_Cut.f a0 (⟨#[46]⟩ : ByteArray)).bind fun bt162 => (if (bt162.1.size : Int) > 1 then (if 0 < (bt162.1.size : Int) then (some ((bt bt162.1 0) == 48)) else (none)) else (some false))) = some r := h
 clear h
 replace H := Option.bind_eq_some_iff.mp H
 obtain ⟨⟨t162, t163, t164⟩, A20, H⟩ := H
 replace H : (if (t162.size : Int) > 1 then (if 0 < (t162.size : Int) then (some ((bt t162 0) == 48)) else (none)) else (some false)) = some r := H
 have A2 := Aside0.mk A20
 clear A20
 by_cases c3 : (t162.size : Int) > 1
 ·rw [if_pos c3] at H
  have c3b0 : decide (1 < (t162.size : Int)) = true := decide_eq_true c3
  have c3b1 : decide (1 < t162.size) = true := decide_eq_true sq0
  clear c3
  by_cases c4 : 0 < (t162.size : Int)
  ·rw [if_pos c4] at H
   have c4b0 : decide (0 < (t162.size : Int)) = true := decide_eq_true c4
   have c4b1 : decide (0 < t162.size) = true := decide_eq_true sq0
   clear c4
   obtain rfl := Option.some.inj H
   go_enter Try.func94, Try.ntmps94
   go_wp2_with (first | ((with_reducible refine gate_callee (f := 100) rfl ?_); refine goesL_ (some 8) rfl rfl Try.func100 sq2 rfl #[.string a0, .string (⟨#[46]⟩ : ByteArray)] rfl sq51 ?_; (with_reducible refine (strings_Cut.calls a0 (⟨#[46]⟩ : ByteArray) t162 t163 t164 _ ?side1 A2.out).mono ?_); (case side1 => (refine Glob.drawn HG.out ?_; repeat (first | exact Drawn0.refl _ | apply Drawn0.step))); rintro e w' ⟨rfl, ⟨nd, rfl⟩⟩; refine ⟨_, rfl, ?_⟩; have p5 : 0 ≤ (0 : Int) := sq0; have q5 : 0 < t162.size := (by have : (0 : Int) < (t162.size : Int) := of_decide_eq_true sq6; omega); have hx5 : ∀ h : 0 < t162.size, ((t162[0]'h).toNat : Int) = bt t162 0 := bt_at t162 0; clear p5; have qi5 : (0 < (t162.size : Int)) = True := eq_true (of_decide_eq_true sq6); replace q5 := eq_true q5))
   go_ret
   exact ⟨sq5, sq7⟩
  rw [if_neg c4] at H
  exact absurd H (by simp)
 rw [if_neg c3] at H
 have c3b0 : decide (1 < (t162.size : Int)) = false := decide_eq_false c3
 have c3b1 : decide (1 < t162.size) = false := decide_eq_false sq0
 clear c3
 obtain rfl := Option.some.inj H
 go_enter Try.func94, Try.ntmps94
 go_wp2_with (first | ((with_reducible refine gate_callee (f := 100) rfl ?_); refine goesL_ (some 8) rfl rfl Try.func100 sq2 rfl #[.string a0, .string (⟨#[46]⟩ : ByteArray)] rfl sq51 ?_; (with_reducible refine (strings_Cut.calls a0 (⟨#[46]⟩ : ByteArray) t162 t163 t164 _ ?side1 A2.out).mono ?_); (case side1 => (refine Glob.drawn HG.out ?_; repeat (first | exact Drawn0.refl _ | apply Drawn0.step))); rintro e w' ⟨rfl, ⟨nd, rfl⟩⟩; refine ⟨_, rfl, ?_⟩))
 go_ret
 exact ⟨sq5, sq7⟩

/-! ### clause_pennies: function 95 -/
def clause_pennies.f (a0 : ByteArray) : Option (Bool) := (strings_Cut.f a0 (⟨#[46]⟩ : ByteArray)).bind fun bt165 => (if bt165.2.2 = true then (some ((bt165.2.1.size : Int) == 2)) else (some false))
set_option maxHeartbeats 8000000 in
set_option maxRecDepth 100000 in
theorem clause_pennies.calls (a0 : ByteArray) (r : Bool) (w : World) (hG : Glob w) (h : clause_pennies.f a0 = some r) :
  Calls Try.prog 95 #[.string a0] w fun e w' => e = .returned (.bool r) ∧ Drawn0 w w' := by
 have HG := Aside0.mk hG
 clear hG
 have H : ((strings_Cut.f a0 (⟨#[46]⟩ : ByteArray)).bind fun bt165 => (if bt165.2.2 = true then (some ((bt165.2.1.size : Int) == 2)) else (some false))) = some r := h
 clear h
 replace H := Option.bind_eq_some_iff.mp H
 obtain ⟨⟨t165, t166, t167⟩, A20, H⟩ := H
 replace H : (if t167 = true then (some ((t166.size : Int) == 2)) else (some false)) = some r := H
 have A2 := Aside0.mk A20
 clear A20
 by_cases c3 : t167 = true
 ·subst c3
  replace H := (itT_ _ _).symm.trans H
  obtain rfl := Option.some.inj H
  go_enter Try.func95, Try.ntmps95
  go_wp2_with (first | ((with_reducible refine gate_callee (f := 100) rfl ?_); refine goesL_ (some 8) rfl rfl Try.func100 sq2 rfl #[.string a0, .string (⟨#[46]⟩ : ByteArray)] rfl sq51 ?_; (with_reducible refine (strings_Cut.calls a0 (⟨#[46]⟩ : ByteArray) t165 t166 true _ ?side1 A2.out).mono ?_); (case side1 => (refine Glob.drawn HG.out ?_; repeat (first | exact Drawn0.refl _ | apply Drawn0.step))); rintro e w' ⟨rfl, ⟨nd, rfl⟩⟩; refine ⟨_, rfl, ?_⟩))
  go_ret
  exact ⟨sq5, sq7⟩
 replace c3 := Bool.eq_false_iff.mpr c3
 subst c3
 replace H := (itF_ _ _).symm.trans H
 obtain rfl := Option.some.inj H
 go_enter Try.func95, Try.ntmps95
 go_wp2_with (first | ((with_reducible refine gate_callee (f := 100) rfl ?_); refine goesL_ (some 8) rfl rfl Try.func100 sq2 rfl #[.string a0, .string (⟨#[46]⟩ : ByteArray)] rfl sq51 ?_; (with_reducible refine (strings_Cut.calls a0 (⟨#[46]⟩ : ByteArray) t165 t166 false _ ?side1 A2.out).mono ?_); (case side1 => (refine Glob.drawn HG.out ?_; repeat (first | exact Drawn0.refl _ | apply Drawn0.step))); rintro e w' ⟨rfl, ⟨nd, rfl⟩⟩; refine ⟨_, rfl, ?_⟩))
 go_ret
 exact ⟨sq5, sq7⟩

/-! ### clause_amiss: function 88 -/
def clause_amiss.f (a0 : ByteArray) (a1 : Bool) : Option (Int) := (clause_many.f a0).bind fun t168 => (if t168 > 18 then (some 172) else ((clause_early.f a0).bind fun t169 => (if t169 = true then (some 2) else (if a1 = true then ((clause_pennies.f a0).bind fun t170 => (if t170 = true then (some 0) else (some 2))) else (some 0)))))
set_option maxHeartbeats 8000000 in
set_option maxRecDepth 100000 in
theorem clause_amiss.calls (a0 : ByteArray) (a1 : Bool) (r : Int) (w : World) (hG : Glob w) (h : clause_amiss.f a0 a1 = some r) :
  Calls Try.prog 88 #[.string a0, .bool a1] w fun e w' => e = .returned (.int .i64 r) ∧ Drawn0 w w' := by
 have HG := Aside0.mk hG
 clear hG
 have H : ((clause_many.f a0).bind fun t168 => (if t168 > 18 then (some 172) else ((clause_early.f a0).bind fun t169 => (if t169 = true then (some 2) else (if a1 = true then ((clause_pennies.f a0).bind fun t170 => (if t170 = true then (some 0) else (some 2))) else (some 0)))))) = some r := h
 clear h
 replace H := Option.bind_eq_some_iff.mp H
 obtain ⟨t168, A30, H⟩ := H
 replace H : (if t168 > 18 then (some 172) else ((clause_early.f a0).bind fun t169 => (if t169 = true then (some 2) else (if a1 = true then ((clause_pennies.f a0).bind fun t170 => (if t170 = true then (some 0) else (some 2))) else (some 0))))) = some r := H
 have A3 := Aside0.mk A30
 clear A30
 by_cases c4 : t168 > 18
 ·rw [if_pos c4] at H
  have c4b0 : decide (18 < t168) = true := decide_eq_true c4; clear c4
  obtain rfl := Option.some.inj H
  go_enter Try.func88, Try.ntmps88
  go_wp2_with (first | ((with_reducible refine gate_callee (f := 93) rfl ?_); refine goesL_ (some 7) rfl rfl Try.func93 sq2 rfl #[.string a0] rfl sq51 ?_; (with_reducible refine (clause_many.calls a0 t168 _ A3.out).mono ?_); rintro e w' ⟨rfl, ⟨nd, rfl⟩⟩; refine ⟨_, rfl, ?_⟩))
  go_ret
  exact ⟨sq5, sq7⟩
 rw [if_neg c4] at H
 have c4b0 : decide (18 < t168) = false := decide_eq_false c4; clear c4
 replace H := Option.bind_eq_some_iff.mp H
 obtain ⟨t169, A50, H⟩ := H
 replace H : (if t169 = true then (some 2) else (if a1 = true then ((clause_pennies.f a0).bind fun t170 => (if t170 = true then (some 0) else (some 2))) else (some 0))) = some r := H
 have A5 := Aside0.mk A50
 clear A50
 by_cases c6 : t169 = true
 ·subst c6
  replace H := (itT_ _ _).symm.trans H
  obtain rfl := Option.some.inj H
  go_enter Try.func88, Try.ntmps88
  go_wp2_with (first | ((with_reducible refine gate_callee (f := 93) rfl ?_); refine goesL_ (some 7) rfl rfl Try.func93 sq2 rfl #[.string a0] rfl sq51 ?_; (with_reducible refine (clause_many.calls a0 t168 _ A3.out).mono ?_); rintro e w' ⟨rfl, ⟨nd, rfl⟩⟩; refine ⟨_, rfl, ?_⟩) | ((with_reducible refine gate_callee (f := 94) rfl ?_); refine goesL_ (some 11) rfl rfl Try.func94 sq2 rfl #[.string a0] rfl sq51 ?_; (with_reducible refine (clause_early.calls a0 true _ ?side1 A5.out).mono ?_); (case side1 => (refine Glob.drawn HG.out ?_; repeat (first | exact Drawn0.refl _ | apply Drawn0.step))); rintro e w' ⟨rfl, ⟨nd, rfl⟩⟩; refine ⟨_, rfl, ?_⟩))
  go_ret
  exact ⟨sq5, sq7⟩
 replace c6 := Bool.eq_false_iff.mpr c6
 subst c6
 replace H := (itF_ _ _).symm.trans H
 by_cases c7 : a1 = true
 ·subst c7
  replace H := (itT_ _ _).symm.trans H
  replace H := Option.bind_eq_some_iff.mp H
  obtain ⟨t170, A80, H⟩ := H
  replace H : (if t170 = true then (some 0) else (some 2)) = some r := H
  have A8 := Aside0.mk A80
  clear A80
  by_cases c9 : t170 = true
  ·subst c9
   replace H := (itT_ _ _).symm.trans H
   obtain rfl := Option.some.inj H
   go_enter Try.func88, Try.ntmps88
   go_wp2_with (first | ((with_reducible refine gate_callee (f := 93) rfl ?_); refine goesL_ (some 7) rfl rfl Try.func93 sq2 rfl #[.string a0] rfl sq51 ?_; (with_reducible refine (clause_many.calls a0 t168 _ A3.out).mono ?_); rintro e w' ⟨rfl, ⟨nd, rfl⟩⟩; refine ⟨_, rfl, ?_⟩) | ((with_reducible refine gate_callee (f := 94) rfl ?_); refine goesL_ (some 11) rfl rfl Try.func94 sq2 rfl #[.string a0] rfl sq51 ?_; (with_reducible refine (clause_early.calls a0 false _ ?side1 A5.out).mono ?_); (case side1 => (refine Glob.drawn HG.out ?_; repeat (first | exact Drawn0.refl _ | apply Drawn0.step))); rintro e w' ⟨rfl, ⟨nd, rfl⟩⟩; refine ⟨_, rfl, ?_⟩) | (go_at_call 95; (with_reducible refine (clause_pennies.calls a0 true _ ?side1 A8.out).mono ?_); (case side1 => (refine Glob.drawn HG.out ?_; repeat (first | exact Drawn0.refl _ | apply Drawn0.step))); rintro e w' ⟨rfl, ⟨nd, rfl⟩⟩))
   go_ret
   exact ⟨sq5, sq7⟩
  replace c9 := Bool.eq_false_iff.mpr c9
  subst c9
  replace H := (itF_ _ _).symm.trans H
  obtain rfl := Option.some.inj H
  go_enter Try.func88, Try.ntmps88
  go_wp2_with (first | ((with_reducible refine gate_callee (f := 93) rfl ?_); refine goesL_ (some 7) rfl rfl Try.func93 sq2 rfl #[.string a0] rfl sq51 ?_; (with_reducible refine (clause_many.calls a0 t168 _ A3.out).mono ?_); rintro e w' ⟨rfl, ⟨nd, rfl⟩⟩; refine ⟨_, rfl, ?_⟩) | ((with_reducible refine gate_callee (f := 94) rfl ?_); refine goesL_ (some 11) rfl rfl Try.func94 sq2 rfl #[.string a0] rfl sq51 ?_; (with_reducible refine (clause_early.calls a0 false _ ?side1 A5.out).mono ?_); (case side1 => (refine Glob.drawn HG.out ?_; repeat (first | exact Drawn0.refl _ | apply Drawn0.step))); rintro e w' ⟨rfl, ⟨nd, rfl⟩⟩; refine ⟨_, rfl, ?_⟩) | (go_at_call 95; (with_reducible refine (clause_pennies.calls a0 false _ ?side1 A8.out).mono ?_); (case side1 => (refine Glob.drawn HG.out ?_; repeat (first | exact Drawn0.refl _ | apply Drawn0.step))); rintro e w' ⟨rfl, ⟨nd, rfl⟩⟩))
  go_ret
  exact ⟨sq5, sq7⟩
 replace c7 := Bool.eq_false_iff.mpr c7
 subst c7
 replace H := (itF_ _ _).symm.trans H
 obtain rfl := Option.some.inj H
 go_enter Try.func88, Try.ntmps88
 go_wp2_with (first | ((with_reducible refine gate_callee (f := 93) rfl ?_); refine goesL_ (some 7) rfl rfl Try.func93 sq2 rfl #[.string a0] rfl sq51 ?_; (with_reducible refine (clause_many.calls a0 t168 _ A3.out).mono ?_); rintro e w' ⟨rfl, ⟨nd, rfl⟩⟩; refine ⟨_, rfl, ?_⟩) | ((with_reducible refine gate_callee (f := 94) rfl ?_); refine goesL_ (some 11) rfl rfl Try.func94 sq2 rfl #[.string a0] rfl sq51 ?_; (with_reducible refine (clause_early.calls a0 false _ ?side1 A5.out).mono ?_); (case side1 => (refine Glob.drawn HG.out ?_; repeat (first | exact Drawn0.refl _ | apply Drawn0.step))); rintro e w' ⟨rfl, ⟨nd, rfl⟩⟩; refine ⟨_, rfl, ?_⟩))
 go_ret
 exact ⟨sq5, sq7⟩

end Go.Proofs.Ytpfnnamicbbobaa.PAll
