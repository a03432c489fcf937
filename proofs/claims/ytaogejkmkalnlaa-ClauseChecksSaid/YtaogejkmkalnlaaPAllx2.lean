-- Written by a program of this session (wip/tools/print2.sh): functions as plain Lean, and that the machine's calls do what they say.
import Derived.Test.YtaogejkmkalnlaaPAllx0
namespace Go.Proofs.Ytaogejkmkalnlaa.PAll
open Go.RowKit Go.Proofs.YtaogejkmkalnlaaW.PrintWords Go.Proofs.YtaogejkmkalnlaaW.PrintLast Go.Proofs.YtaogejkmkalnlaaW.PrintMore
attribute [local go_sem] max2_int min2_int max_two min_two max_three min_three max_four min_four   -- for this text's walks alone
set_option linter.unusedVariables false
set_option linter.unusedSimpArgs false

/-! ### tontinelaw17_names: function 4 -/
def tontinelaw17_names.f  : Option (Bool) := some true
set_option maxHeartbeats 8000000 in
set_option maxRecDepth 100000 in
theorem tontinelaw17_names.calls  (r : Bool) (w : World) (h : tontinelaw17_names.f  = some r) :
  Calls Try.prog 4 #[] w fun e w' => e = .returned (.bool r) ∧ Drawn0 w w' := by
 have H : (some true) = some r := h
 clear h
 obtain rfl := Option.some.inj H
 go_enter Try.func4, Try.ntmps4
 go_wp2
 go_ret
 exact ⟨sq4, sq7⟩

/-! ### tontinebook_LendFormula: function 6 -/
def tontinebook_LendFormula.f (l0 : List (S43)) : Option ((List (S43))) := if (l0.length : Int) = 0 then (some ([] : List (S43))) else ((some (([] : List (S43)) : List (S43))).bind fun y101 => (if y101.length + l0.length < 4398046511104 then ((some (y101 ++ l0 : List (S43))).bind fun y104 => (if y104.length < 4398046511104 then ((some (y104 ++ [(⟨0, 0, (⟨#[115, 112, 97, 114, 101]⟩ : ByteArray)⟩ : S43)] : List (S43))).bind fun y107 => (if 0 ≤ (l0.length : Int) then (if (l0.length : Int) ≤ (y107.length : Int) then (some (y107.take ((l0.length : Int) : Int).toNat)) else (none)) else (none))) else (none))) else (none)))
set_option maxHeartbeats 8000000 in
set_option maxRecDepth 100000 in
theorem tontinebook_LendFormula.calls (A0 : Option Addr) (c0 : Nat) (l0 : List (S43)) (r : List (S43)) (w : World) (hr0 : Kd.C k43 w A0 l0.length l0) (hc0 : l0.length ≤ c0) (h : tontinebook_LendFormula.f l0 = some r) :
  Calls Try.prog 6 #[.slice A0 l0.length c0] w fun e w' => ∃ v0_ : Value, e = .returned (v0_) ∧ Kd.R k43 43 w' w.heap.size (fun _ => True) v0_ r ∧ Below w.heap.size w w' := by
 have hu43 := Try.underlying43
 have HR0 := Aside0.mk hr0
 have HC0 := Aside0.mk hc0
 clear hr0 hc0
 have HB := Aside0.mk (Below.refl w.heap.size w)
 have H : (if (l0.length : Int) = 0 then (some ([] : List (S43))) else ((some (([] : List (S43)) : List (S43))).bind fun y101 => (if y101.length + l0.length < 4398046511104 then ((some (y101 ++ l0 : List (S43))).bind fun y104 => (if y104.length < 4398046511104 then ((some (y104 ++ [(⟨0, 0, (⟨#[115, 112, 97, 114, 101]⟩ : ByteArray)⟩ : S43)] : List (S43))).bind fun y107 => (if 0 ≤ (l0.length : Int) then (if (l0.length : Int) ≤ (y107.length : Int) then (some (y107.take ((l0.length : Int) : Int).toNat)) else (none)) else (none))) else (none))) else (none)))) = some r := h
 clear h
 by_cases c2 : (l0.length : Int) = 0
 ·rw [if_pos c2] at H
  have c2b0 : ((l0.length : Int) == 0) = true := beq_iff_eq.mpr c2
  have c2b1 : ((l0.length : Int) != 0) = false := bne_eq_false_iff_eq.mpr c2
  clear c2
  obtain rfl := Option.some.inj H
  go_enter Try.func6, Try.ntmps6
  go_wp2
  go_ret
  exact ⟨_, sq23, sq57, sq55⟩
 rw [if_neg c2] at H
 have c2b0 : ((l0.length : Int) == 0) = false := beq_eq_false_iff_ne.mpr c2
 have c2b1 : ((l0.length : Int) != 0) = true := bne_iff_ne.mpr c2
 have c2b2 : ¬ (l0 = []) := fun h_ => c2 (by rw [h_]; rfl)
 obtain ⟨y101, hy101⟩ : ∃ y_ : List (S43), y_ = (([] : List (S43))) := ⟨_, rfl⟩
 replace H : (if y101.length + l0.length < 4398046511104 then ((some (y101 ++ l0 : List (S43))).bind fun y104 => (if y104.length < 4398046511104 then ((some (y104 ++ [(⟨0, 0, (⟨#[115, 112, 97, 114, 101]⟩ : ByteArray)⟩ : S43)] : List (S43))).bind fun y107 => (if 0 ≤ (l0.length : Int) then (if (l0.length : Int) ≤ (y107.length : Int) then (some (y107.take ((l0.length : Int) : Int).toNat)) else (none)) else (none))) else (none))) else (none)) = some r := by first | (rw [hy101]; with_reducible exact H) | (have H2_ := (Option.bind_some _ _).symm.trans H; rw [hy101]; with_reducible exact H2_) | (have H2_ := (Option.bind_some _ _).symm.trans H; with_reducible exact H2_) | with_reducible exact H | (rw [hy101]; exact H) | exact H
 have Ny101 := Aside0.mk hy101
 clear hy101
 by_cases c3 : y101.length + l0.length < 4398046511104
 ·rw [if_pos c3] at H
  have LMc3 := Aside0.mk c3
  clear c3
  obtain ⟨y104, hy104⟩ : ∃ y_ : List (S43), y_ = (y101 ++ l0) := ⟨_, rfl⟩
  replace H : (if y104.length < 4398046511104 then ((some (y104 ++ [(⟨0, 0, (⟨#[115, 112, 97, 114, 101]⟩ : ByteArray)⟩ : S43)] : List (S43))).bind fun y107 => (if 0 ≤ (l0.length : Int) then (if (l0.length : Int) ≤ (y107.length : Int) then (some (y107.take ((l0.length : Int) : Int).toNat)) else (none)) else (none))) else (none)) = some r := by first | (rw [hy104]; with_reducible exact H) | (have H2_ := (Option.bind_some _ _).symm.trans H; rw [hy104]; with_reducible exact H2_) | (have H2_ := (Option.bind_some _ _).symm.trans H; with_reducible exact H2_) | with_reducible exact H | (rw [hy104]; exact H) | exact H
  have Ny104 := Aside0.mk hy104
  clear hy104
  by_cases c4 : y104.length < 4398046511104
  ·rw [if_pos c4] at H
   have LMc4 := Aside0.mk c4
   clear c4
   obtain ⟨y107, hy107⟩ : ∃ y_ : List (S43), y_ = (y104 ++ [(⟨0, 0, (⟨#[115, 112, 97, 114, 101]⟩ : ByteArray)⟩ : S43)]) := ⟨_, rfl⟩
   replace H : (if 0 ≤ (l0.length : Int) then (if (l0.length : Int) ≤ (y107.length : Int) then (some (y107.take ((l0.length : Int) : Int).toNat)) else (none)) else (none)) = some r := by first | (rw [hy107]; with_reducible exact H) | (have H2_ := (Option.bind_some _ _).symm.trans H; rw [hy107]; with_reducible exact H2_) | (have H2_ := (Option.bind_some _ _).symm.trans H; with_reducible exact H2_) | with_reducible exact H | (rw [hy107]; exact H) | exact H
   have Ny107 := Aside0.mk hy107
   clear hy107
   by_cases c5 : 0 ≤ (l0.length : Int)
   ·rw [if_pos c5] at H
    have c5b0 := eq_true c5
    have c5b1 : decide (0 ≤ (l0.length : Int)) = true := decide_eq_true c5
    clear c5
    by_cases c6 : (l0.length : Int) ≤ (y107.length : Int)
    ·rw [if_pos c6] at H
     have c6b0 := eq_true c6
     have c6b1 : decide ((l0.length : Int) ≤ (y107.length : Int)) = true := decide_eq_true c6
     clear c6
     obtain ⟨y110, hy110⟩ : ∃ y_ : List (S43), y_ = (y107.take ((l0.length : Int) : Int).toNat) := ⟨_, rfl⟩
     replace H : (some y110) = some r := by first | (rw [hy110]; with_reducible exact H) | (have H2_ := (Option.bind_some _ _).symm.trans H; rw [hy110]; with_reducible exact H2_) | (have H2_ := (Option.bind_some _ _).symm.trans H; with_reducible exact H2_) | with_reducible exact H | (rw [hy110]; exact H) | exact H
     have Ny110 := Aside0.mk hy110
     clear hy110
     obtain rfl := Option.some.inj H
     go_enter Try.func6, Try.ntmps6
     go_wp2_with (first | ((with_reducible refine gate_dst (N := 6) rfl ?_); refine Kd.R_lit k43 _ 43 ?hg (N := 6) ?hd (xs := ([] : List (S43))) (inner := []) (ok := fun _ => True) (okp := fun _ => True) ?hr ?hp (fun _ hk => hk) trivial (Below.refl _ _) (Nat.le_refl _) (by simp) ?_; (case hd => rfl); (case hg => rfl); (case hr => first | (go_simp; done) | (go_simp; rfl)); (case hp => exact (Reps.none _ _)); intro v102 w7 ho8 hb hg_ hnew_; clear hg_ hnew_; (first | rw [← Ny101.out] at ho8 | (simp only [Int.reduceToNat] at ho8; rw [← Ny101.out] at ho8)); have n0_ := Aside0.mk (Kd.R_lower ho8 (below_size sq55)); have n1_ := Aside0.mk (below_step sq55 hb); clear HB; have HO103 := n0_; have HB := n1_; clear n0_ n1_; clear hb ho8) | ((with_reducible refine gate_builtin (b := .append) (xs := #[.tmp 6, .tmp 7]) rfl ?_); at_builtin; refine Kd.R_append_rows k43 (w0 := w) w.heap.size rfl (.tmp 6) (.tmp 7) 26 43 (.agg #[(.int .i64 0), (.int .i64 0), (.string ⟨#[]⟩)]) 32 rfl Try.underlying26 info43 rfl sq0 (by omega) v102 y101 l0 _ _ _ (fun _ => True) (fun _ => False) rfl rfl ?aO ?aR (fun _ _ h => h) (fun _ h => h.elim) ?aF ?aB ?aS ?aL ?_; (case aR => repeat (first | exact (Kd.C_below HR0.out HB.out) | (with_reducible refine Kd.C_alloc ?_ _) | (with_reducible refine Kd.C_drewN ?_ _) | (with_reducible refine Kd.C_drew ?_))); (case aB => exact sq55); (case aF => exact (fun _ _ => trivial)); (case aO => exact (by (with_reducible repeat (first | apply Kd.R_alloc | apply Kd.R_drewN | apply Kd.R_drew)); exact HO103.out)); (case aS => exact (below_size sq55)); (case aL => have := LMc3.out; omega); intro v105 w9 ho hb hg hat; rw [← Ny104.out] at ho; have n0_ := Aside0.mk (hb); have n1_ := Aside0.mk (ho); clear HB; clear HO103; have HB := n0_; have HO106 := n1_; clear n0_ n1_; clear ho hb hg hat) | ((with_reducible refine gate_builtin (b := .append) (xs := #[.tmp 8, .tmp 10]) rfl ?_); at_builtin; refine Kd.R_append k43 (w0 := w) w.heap.size rfl (.tmp 8) (.tmp 10) 26 43 (.agg #[(.int .i64 0), (.int .i64 0), (.string ⟨#[]⟩)]) 32 rfl Try.underlying26 info43 rfl sq0 (by omega) v105 y104 (⟨0, 0, (⟨#[115, 112, 97, 114, 101]⟩ : ByteArray)⟩ : S43) [.int .i64 0, .int .i64 0, .string (⟨#[115, 112, 97, 114, 101]⟩ : ByteArray)] (fun _ => True) (fun _ => False) rfl rfl ?aP (fun _ hk => hk.elim) ?aF ?aO ?aB ?aS ?aL ?_; (case aP => exact k43_mkM _ _ _ (⟨0, 0, (⟨#[115, 112, 97, 114, 101]⟩ : ByteArray)⟩ : S43)); (case aB => exact sq55); (case aF => exact (fun _ _ => trivial)); (case aO => exact (by (with_reducible repeat (first | apply Kd.R_alloc | apply Kd.R_drewN | apply Kd.R_drew)); exact HO106.out)); (case aS => exact (below_size sq55)); (case aL => have := LMc4.out; omega); intro v108 w10 ho hb hg hat; rw [← Ny107.out] at ho; have n0_ := Aside0.mk (hb); have n1_ := Aside0.mk (ho); clear HB; clear HO106; have HB := n0_; have HO109 := n1_; clear n0_ n1_; clear ho hb hg hat; obtain ⟨Ao11, co11, eo11⟩ := Kd.R_slice HO109.out; subst eo11; have q12 : ((l0.length : Int) : Int) ≤ ((y107.length : Int) : Int) := of_decide_eq_true sq5; obtain ⟨i012, hi012, _, hsz12, _⟩ := info_parts info43; have hcut12 := cut_to (P := Try.prog) 26 43 .i64 Try.underlying26 hi012 Ao11 y107.length co11 (l0.length : Int) (of_decide_eq_true sq5) q12 (Kd.R_reads' HO109.out).2.1; have hr12 := Kd.R_take (m := ((l0.length : Int) : Int).toNat) HO109.out (by omega); have hy12 : y110.length = ((l0.length : Int) : Int).toNat := (by rw [Ny110.out, List.length_take]; omega); rw [← Ny110.out] at hr12; rw [← hy12] at hr12 hcut12; clear hy12 hi012 hsz12 HO109; have HO112 := Aside0.mk hr12; clear hr12; replace q12 := eq_true q12))
     go_ret
     exact ⟨_, sq23, by (with_reducible repeat (first | apply Kd.R_alloc | apply Kd.R_drewN | apply Kd.R_drew)); exact HO112.out, sq55⟩
    rw [if_neg c6] at H
    exact absurd H (by simp)
   rw [if_neg c5] at H
   exact absurd H (by simp)
  rw [if_neg c4] at H
  exact absurd H (by simp)
 rw [if_neg c3] at H
 exact absurd H (by simp)

/-! ### tontinebook_CopyProduct: function 5 -/
def tontinebook_CopyProduct.l0 : Nat → Int → ByteArray → List (S41) → ByteArray → List (S41) → Option (ByteArray × (List (S41)))
 | 0, _, _, _, _, _ => none
 | k + 1, x4, x114000, x114001, x116000, x116001 => if x4 < (x114001.length : Int) then (if 0 ≤ x4 then ((tontinebook_LendFormula.f ((rd_T41 x114001 x4).f3)).bind fun t118 => ((tontinebook_LendFormula.f ((rd_T41 x114001 x4).f4)).bind fun t121 => ((tontinebook_LendFormula.f ((rd_T41 x114001 x4).f5)).bind fun t124 => (if x116001.length < 1353245080339 then (tontinebook_CopyProduct.l0 k (wrap64 (x4 + 1)) x114000 x114001 x116000 (x116001 ++ [(⟨(rd_T41 x114001 x4).f0, (rd_T41 x114001 x4).f1, (rd_T41 x114001 x4).f2, t118, t121, t124⟩ : S41)])) else (none))))) else (none)) else (some (x116000, x116001))
def tontinebook_CopyProduct.f (k : Nat) (a0_0 : ByteArray) (l0_1 : List (S41)) : Option (ByteArray × (List (S41))) := tontinebook_CopyProduct.l0 k 0 a0_0 l0_1 a0_0 ([] : List (S41))
theorem tontinebook_CopyProduct.mono_l : ∀ k, (∀ y0 y1 y2 y3 y4, LeO (tontinebook_CopyProduct.l0 k y0 y1 y2 y3 y4) (tontinebook_CopyProduct.l0 (k + 1) y0 y1 y2 y3 y4))
 | 0 => fun _ _ _ _ _ r h => by simp [tontinebook_CopyProduct.l0] at h
 | k + 1 => by
  have ih0 := tontinebook_CopyProduct.mono_l k
  ·intro y0 y1 y2 y3 y4
   unfold tontinebook_CopyProduct.l0
   exact sq89
theorem tontinebook_CopyProduct.mono : ∀ a0 a1 k, LeO (tontinebook_CopyProduct.f k a0 a1) (tontinebook_CopyProduct.f (k + 1) a0 a1) := by
 intro a0 a1 k
 have ih0 := tontinebook_CopyProduct.mono_l k
 unfold tontinebook_CopyProduct.f
 exact sq89
def tontinebook_CopyProduct.T6 : Bool × List (List Nat × List Nat) := (true, [([], []), ([0], [0]), ([1], [1]), ([], []), ([3], [3]), ([4, 2], [4]), ([], []), ([6], [6]), ([7, 5], [7]), ([0, 1, 2, 3, 4, 6, 7], []), ([9, 2, 8, 0, 1, 2, 3, 4, 6, 7], [2, 9]), ([0, 1, 2, 3, 4, 5, 6, 7, 9, 10], []), ([11, 5, 10, 0, 1, 2, 3, 4, 5, 6, 7, 9, 10], [5, 11]), ([0, 1, 2, 3, 4, 5, 6, 7, 8, 9, 10, 11, 12], []), ([13, 8, 12, 0, 1, 2, 3, 4, 5, 6, 7, 8, 9, 10, 11, 12], [8, 13])])
def tontinebook_CopyProduct.B6 : List Nat := [0, 1, 3, 0, 8, 31, 0, 64, 255, 223, 1023, 2047, 4095, 8191, 16383]
theorem tontinebook_CopyProduct.tab6 : rtab .any (opsOf Try.f5 6) = tontinebook_CopyProduct.T6 := by kernel_rfl
theorem tontinebook_CopyProduct.bits6 : waitsOk tontinebook_CopyProduct.T6.2 tontinebook_CopyProduct.B6 = true := by kernel_rfl
set_option maxHeartbeats 8000000 in
set_option maxRecDepth 100000 in
theorem tontinebook_CopyProduct.calls (k : Nat) (a0_0 : ByteArray) (A0_1 : Option Addr) (c0_1 : Nat) (l0_1 : List (S41)) (r1 : ByteArray) (r2 : List (S41)) (w : World) (hr0_1 : Kd.C k41 w A0_1 l0_1.length l0_1) (hc0_1 : l0_1.length ≤ c0_1) (h : tontinebook_CopyProduct.f k a0_0 l0_1 = some (r1, r2)) :
  Calls Try.prog 5 #[.agg #[.string a0_0, .slice A0_1 l0_1.length c0_1]] w fun e w' => ∃ v1_ : Value, e = .returned (.agg #[.string r1, v1_]) ∧ Kd.S k41 41 w' w.heap.size (fun _ => True) v1_ r2 ∧ Below w.heap.size w w' := by
 have hu24 := Try.underlying24
 have hu41 := Try.underlying41
 have HR0_1 := Aside0.mk hr0_1
 have HC0_1 := Aside0.mk hc0_1
 clear hr0_1 hc0_1
 have HB := Aside0.mk (Below.refl w.heap.size w)
 have H : (tontinebook_CopyProduct.l0 k 0 a0_0 l0_1 a0_0 ([] : List (S41))) = some (r1, r2) := h
 clear h
 have H' := Aside0.mk H
 clear H
 go_enter Try.func5, Try.ntmps5
 go_wp2_with (first | ((with_reducible refine gate_dst (N := 1) rfl ?_); refine box_event ?hg (N := 1) ?hd (cs := #[.string a0_0, .slice A0_1 l0_1.length c0_1]) (t := 24) ?hr ?_; (case hd => rfl); (case hg => rfl); (case hr => first | (go_simp; done) | (go_simp; rfl)); intro gb113 hg w2 hbox hb; have n0_ := Aside0.mk (below_step sq55 hb); have n1_ := Aside0.mk (hbox); have n2_ := Aside0.mk ((by rw [hg]; exact (below_size sq55) : w.heap.size ≤ gb113)); have n3_ := Aside0.mk ((by rw [hg]; exact (below_size sq55) : w.heap.size ≤ gb113)); clear HB; have HB := n0_; have BK113 := n1_; have GW113 := n2_; have GE113 := n3_; clear n0_ n1_ n2_ n3_; clear hb hbox hg) | ((with_reducible refine gate_dst (N := 2) rfl ?_); refine box_event ?hg (N := 2) ?hd (cs := #[.string (⟨#[]⟩ : ByteArray), .slice none 0 0]) (t := 24) ?hr ?_; (case hd => rfl); (case hg => rfl); (case hr => first | (go_simp; done) | (go_simp; rfl)); intro gb114 hg w3 hbox hb; have n0_ := Aside0.mk (blk_below (g := gb113) (o := .cells #[.string a0_0, .slice A0_1 l0_1.length c0_1] 24 (0, 0)) sq37 hb); have n1_ := Aside0.mk (below_step sq62 hb); have n2_ := Aside0.mk (hbox); have n3_ := Aside0.mk ((by rw [hg]; exact (below_size sq62) : w.heap.size ≤ gb114)); have n4_ := Aside0.mk ((by rw [hg]; exact (below_size sq62) : w.heap.size ≤ gb114)); have n5_ := Aside0.mk ((by rw [hg]; exact Nat.ne_of_lt (blk_lt (g := gb113) (o := .cells #[.string a0_0, .slice A0_1 l0_1.length c0_1] 24 (0, 0)) sq37) : gb113 ≠ gb114)); have n6_ := Aside0.mk ((by rw [hg]; exact Nat.ne_of_gt (blk_lt (g := gb113) (o := .cells #[.string a0_0, .slice A0_1 l0_1.length c0_1] 24 (0, 0)) sq37) : gb114 ≠ gb113)); clear BK113; clear HB; have BK113 := n0_; have HB := n1_; have BK114 := n2_; have GW114 := n3_; have GE114 := n4_; have NB113_114 := n5_; have NB114_113 := n6_; clear n0_ n1_ n2_ n3_ n4_ n5_ n6_; clear hb hbox hg; have hnb4 := NB113_114.out; have hnc4 := NB114_113.out; have hcz5_0 : w3.cell? ⟨gb113, 0, none⟩ = some (.string a0_0) := (blk_cell BK113.out 0).trans rfl; have hcz5_1 : w3.cell? ⟨gb113, 1, none⟩ = some (.slice A0_1 l0_1.length c0_1) := (blk_cell BK113.out 1).trans rfl; have hfz5_0 := blk_frozen BK113.out 0; have hfz5_1 := blk_frozen BK113.out 1) | ((with_reducible refine gate_dst (N := 3) rfl ?_); refine box_event ?hg (N := 3) ?hd (cs := #[.string (⟨#[]⟩ : ByteArray), .slice none 0 0]) (t := 24) ?hr ?_; (case hd => rfl); (case hg => rfl); (case hr => first | (go_simp; done) | (go_simp; rfl)); intro gb115 hg w6 hbox hb; have n0_ := Aside0.mk (blk_below (g := gb113) (o := .cells #[.string a0_0, .slice A0_1 l0_1.length c0_1] 24 (0, 0)) sq37 hb); have n1_ := Aside0.mk (blk_below (g := gb114) (o := .cells #[.string (⟨#[]⟩ : ByteArray), .slice none 0 0] 24 (0, 0)) sq38 hb); have n2_ := Aside0.mk (below_step sq77 hb); have n3_ := Aside0.mk (hbox); have n4_ := Aside0.mk ((by rw [hg]; exact (below_size sq77) : w.heap.size ≤ gb115)); have n5_ := Aside0.mk ((by rw [hg]; exact (below_size sq77) : w.heap.size ≤ gb115)); have n6_ := Aside0.mk ((by rw [hg]; exact Nat.ne_of_lt (blk_lt (g := gb113) (o := .cells #[.string a0_0, .slice A0_1 l0_1.length c0_1] 24 (0, 0)) sq37) : gb113 ≠ gb115)); have n7_ := Aside0.mk ((by rw [hg]; exact Nat.ne_of_gt (blk_lt (g := gb113) (o := .cells #[.string a0_0, .slice A0_1 l0_1.length c0_1] 24 (0, 0)) sq37) : gb115 ≠ gb113)); have n8_ := Aside0.mk ((by rw [hg]; exact Nat.ne_of_lt (blk_lt (g := gb114) (o := .cells #[.string (⟨#[]⟩ : ByteArray), .slice none 0 0] 24 (0, 0)) sq38) : gb114 ≠ gb115)); have n9_ := Aside0.mk ((by rw [hg]; exact Nat.ne_of_gt (blk_lt (g := gb114) (o := .cells #[.string (⟨#[]⟩ : ByteArray), .slice none 0 0] 24 (0, 0)) sq38) : gb115 ≠ gb114)); clear BK113; clear BK114; clear HB; have BK113 := n0_; have BK114 := n1_; have HB := n2_; have BK115 := n3_; have GW115 := n4_; have GE115 := n5_; have NB113_115 := n6_; have NB115_113 := n7_; have NB114_115 := n8_; have NB115_114 := n9_; clear n0_ n1_ n2_ n3_ n4_ n5_ n6_ n7_ n8_ n9_; clear hb hbox hg; have hnb7 := NB115_113.out; have hnc7 := NB113_115.out; have hnb8 := NB115_114.out; have hnc8 := NB114_115.out; have hcz9_0 : w6.cell? ⟨gb115, 0, none⟩ = some (.string (⟨#[]⟩ : ByteArray)) := (blk_cell BK115.out 0).trans rfl; have hcz9_1 : w6.cell? ⟨gb115, 1, none⟩ = some (.slice none 0 0) := (blk_cell BK115.out 1).trans rfl; have hfz9_0 := blk_frozen BK115.out 0; have hfz9_1 := blk_frozen BK115.out 1))
 go_loopg [4] k (fun kq v4 w' => ∃ (x4_1 : Int) (x116001_1 : List (S41)) (u116001 : Value), v4 = .int .i64 x4_1 ∧ Aside0 (tontinebook_CopyProduct.l0 kq x4_1 a0_0 l0_1 a0_0 x116001_1 = some (r1, r2)) ∧ Aside0 (kq ≤ k) ∧ Aside0 (Kd.S k41 41 w' w.heap.size (fun _ => True) u116001 x116001_1) ∧ Aside0 (w'.heap[gb113]? = some (.cells #[.string a0_0, (.slice A0_1 l0_1.length c0_1)] 24 (0, 0))) ∧ Aside0 (w'.heap[gb114]? = some (.cells #[.string (⟨#[]⟩ : ByteArray), (.slice none 0 0)] 24 (0, 0))) ∧ Aside0 (w'.heap[gb115]? = some (.cells #[.string a0_0, u116001] 24 (0, 0))) ∧ Aside0 (Below w.heap.size w w'))
 case atStart => exact ⟨(0), (([] : List (S41))), (.slice none 0 0), sq4, H', ⟨Nat.le_refl _⟩, ⟨by first | exact Kd.S_nil _ _ _ _ _ | exact Kd.N_nil _ _ _ _ _ | exact Kd.V_nil _ _ _ _ _ | exact Kd.Q_nil _ _ _ _ _ | exact Kd.R_nil _ _ _ _ _⟩, ⟨by (with_reducible repeat (first | refine blk_drewN ?_ _ | refine blk_drew ?_ | refine blk_alloc ?_ _)); refine blk_far ?_ NB113_115.out _; (with_reducible repeat (first | refine blk_drewN ?_ _ | refine blk_drew ?_ | refine blk_alloc ?_ _)); refine blk_far ?_ NB113_115.out _; (with_reducible repeat (first | refine blk_drewN ?_ _ | refine blk_drew ?_ | refine blk_alloc ?_ _)); exact BK113.out⟩, ⟨by (with_reducible repeat (first | refine blk_drewN ?_ _ | refine blk_drew ?_ | refine blk_alloc ?_ _)); refine blk_far ?_ NB114_115.out _; (with_reducible repeat (first | refine blk_drewN ?_ _ | refine blk_drew ?_ | refine blk_alloc ?_ _)); refine blk_far ?_ NB114_115.out _; (with_reducible repeat (first | refine blk_drewN ?_ _ | refine blk_drew ?_ | refine blk_alloc ?_ _)); exact BK114.out⟩, ⟨by (with_reducible repeat (first | refine blk_drewN ?_ _ | refine blk_drew ?_ | refine blk_alloc ?_ _)); refine blk_put (cs := #[.string a0_0, .slice none 0 0]) ?_ 1 _ rfl; (with_reducible repeat (first | refine blk_drewN ?_ _ | refine blk_drew ?_ | refine blk_alloc ?_ _)); refine blk_put (cs := #[.string (⟨#[]⟩ : ByteArray), .slice none 0 0]) ?_ 0 _ rfl; (with_reducible repeat (first | refine blk_drewN ?_ _ | refine blk_drew ?_ | refine blk_alloc ?_ _)); exact BK115.out⟩, ⟨sq81⟩⟩
 case round =>
  clear H'
  try clear p2; try clear c4; try clear c5; try clear c7; try clear c8; try clear hcz5_0; try clear hcz5_1; try clear hcz9_0; try clear hcz9_1; try clear hfz5_0; try clear hfz5_1; try clear hfz9_0; try clear hfz9_1
  obtain ⟨x4_1, x116001_1, u116001, rfl, HA, HK1, HO_116001, BK113, BK114, BK115, HB⟩ := hrel
  cases gk with
  | zero => exact absurd HA.out (by simp [tontinebook_CopyProduct.l0])
  | succ k1 =>
   have H := HA.out
   clear HA
   simp only [tontinebook_CopyProduct.l0] at H
   by_cases c10 : x4_1 < (l0_1.length : Int)
   ·rw [if_pos c10] at H
    have c10b0 : decide (x4_1 < (l0_1.length : Int)) = true := decide_eq_true c10; clear c10
    by_cases c11 : 0 ≤ x4_1
    ·rw [if_pos c11] at H
     have c11b0 : decide (0 ≤ x4_1) = true := decide_eq_true c11; clear c11
     replace H := Option.bind_eq_some_iff.mp H
     obtain ⟨t118, A120, H⟩ := H
     replace H : ((tontinebook_LendFormula.f ((rd_T41 l0_1 x4_1).f4)).bind fun t121 => ((tontinebook_LendFormula.f ((rd_T41 l0_1 x4_1).f5)).bind fun t124 => (if x116001_1.length < 1353245080339 then (tontinebook_CopyProduct.l0 k1 (wrap64 (x4_1 + 1)) a0_0 l0_1 a0_0 (x116001_1 ++ [(⟨(rd_T41 l0_1 x4_1).f0, (rd_T41 l0_1 x4_1).f1, (rd_T41 l0_1 x4_1).f2, t118, t121, t124⟩ : S41)])) else (none)))) = some (r1, r2) := H
     have A12 := Aside0.mk A120
     clear A120
     replace H := Option.bind_eq_some_iff.mp H
     obtain ⟨t121, A130, H⟩ := H
     replace H : ((tontinebook_LendFormula.f ((rd_T41 l0_1 x4_1).f5)).bind fun t124 => (if x116001_1.length < 1353245080339 then (tontinebook_CopyProduct.l0 k1 (wrap64 (x4_1 + 1)) a0_0 l0_1 a0_0 (x116001_1 ++ [(⟨(rd_T41 l0_1 x4_1).f0, (rd_T41 l0_1 x4_1).f1, (rd_T41 l0_1 x4_1).f2, t118, t121, t124⟩ : S41)])) else (none))) = some (r1, r2) := H
     have A13 := Aside0.mk A130
     clear A130
     replace H := Option.bind_eq_some_iff.mp H
     obtain ⟨t124, A140, H⟩ := H
     replace H : (if x116001_1.length < 1353245080339 then (tontinebook_CopyProduct.l0 k1 (wrap64 (x4_1 + 1)) a0_0 l0_1 a0_0 (x116001_1 ++ [(⟨(rd_T41 l0_1 x4_1).f0, (rd_T41 l0_1 x4_1).f1, (rd_T41 l0_1 x4_1).f2, t118, t121, t124⟩ : S41)])) else (none)) = some (r1, r2) := H
     have A14 := Aside0.mk A140
     clear A140
     by_cases c15 : x116001_1.length < 1353245080339
     ·rw [if_pos c15] at H
      have LMc15 := Aside0.mk c15
      clear c15
      obtain ⟨y127, hy127⟩ : ∃ y_ : List (S41), y_ = (x116001_1 ++ [(⟨(rd_T41 l0_1 x4_1).f0, (rd_T41 l0_1 x4_1).f1, (rd_T41 l0_1 x4_1).f2, t118, t121, t124⟩ : S41)]) := ⟨_, rfl⟩
      replace H : (tontinebook_CopyProduct.l0 k1 (wrap64 (x4_1 + 1)) a0_0 l0_1 a0_0 y127) = some (r1, r2) := by first | (rw [hy127]; with_reducible exact H) | (have H2_ := (Option.bind_some _ _).symm.trans H; rw [hy127]; with_reducible exact H2_) | (have H2_ := (Option.bind_some _ _).symm.trans H; with_reducible exact H2_) | with_reducible exact H | (rw [hy127]; exact H) | exact H
      have Ny127 := Aside0.mk hy127
      clear hy127
      have H' := Aside0.mk H
      clear H
      have hnb16 := NB113_114.out
      have hnc16 := NB114_113.out
      have hnb17 := NB113_115.out
      have hnc17 := NB115_113.out
      have hcz18_0 : wr.cell? ⟨gb113, 0, none⟩ = some (.string a0_0) := (blk_cell BK113.out 0).trans rfl
      have hcz18_1 : wr.cell? ⟨gb113, 1, none⟩ = some (.slice A0_1 l0_1.length c0_1) := (blk_cell BK113.out 1).trans rfl
      have hfz18_0 := blk_frozen BK113.out 0
      have hfz18_1 := blk_frozen BK113.out 1
      have p116 : 0 ≤ (x4_1 : Int) := of_decide_eq_true sq5
      have q116 : x4_1 < (l0_1.length : Int) := of_decide_eq_true sq5
      obtain ⟨ad116, A116_3, c116_3, A116_4, c116_4, A116_5, c116_5, e116, hx116_0, hx116_1, hx116_2, hx116_3, hx116_4, hx116_5, hl116_3, hi116_3, hl116_4, hi116_4, hl116_5, hi116_5⟩ := at_T41 HR0_1.out x4_1 p116 q116
      cases e116
      try replace hx116_0 := (HB.out.cell (World.block_lt_of_cell? w _ hx116_0)).trans hx116_0
      try replace hx116_1 := (HB.out.cell (World.block_lt_of_cell? w _ hx116_1)).trans hx116_1
      try replace hx116_2 := (HB.out.cell (World.block_lt_of_cell? w _ hx116_2)).trans hx116_2
      try replace hx116_3 := (HB.out.cell (World.block_lt_of_cell? w _ hx116_3)).trans hx116_3
      try replace hx116_4 := (HB.out.cell (World.block_lt_of_cell? w _ hx116_4)).trans hx116_4
      try replace hx116_5 := (HB.out.cell (World.block_lt_of_cell? w _ hx116_5)).trans hx116_5
      have HR116_3 := Aside0.mk hi116_3
      have HC116_3 := Aside0.mk hl116_3
      clear hi116_3 hl116_3
      have HR116_4 := Aside0.mk hi116_4
      have HC116_4 := Aside0.mk hl116_4
      clear hi116_4 hl116_4
      have HR116_5 := Aside0.mk hi116_5
      have HC116_5 := Aside0.mk hl116_5
      clear hi116_5 hl116_5
      replace p116 := eq_true p116
      replace q116 := eq_true q116
      try go_wp2_with (first | ((with_reducible refine gate_dst (N := 5) rfl ?_); refine box_event ?hg (N := 5) ?hd (cs := #[.int .i64 0, .int .i64 0, .string (⟨#[]⟩ : ByteArray), .slice none 0 0, .slice none 0 0, .slice none 0 0]) (t := 41) ?hr ?_; (case hd => rfl); (case hg => rfl); (case hr => first | (go_simp; done) | (go_simp; rfl)); intro gb117 hg w19 hbox hb; have n0_ := Aside0.mk (Kd.S_below (Kd.S_elderB sq35 gb117 (Nat.le_of_eq hg.symm)) hb); have n1_ := Aside0.mk (blk_below (g := gb113) (o := .cells #[.string a0_0, .slice (some ad116) l0_1.length c0_1] 24 (0, 0)) sq37 hb); have n2_ := Aside0.mk (blk_below (g := gb114) (o := .cells #[.string (⟨#[]⟩ : ByteArray), .slice none 0 0] 24 (0, 0)) sq38 hb); have n3_ := Aside0.mk (blk_below (g := gb115) (o := .cells #[.string a0_0, u116001] 24 (0, 0)) sq39 hb); have n4_ := Aside0.mk (below_step sq81 hb); have n5_ := Aside0.mk (hbox); have n6_ := Aside0.mk ((by rw [hg]; exact (below_size sq81) : w.heap.size ≤ gb117)); have n7_ := Aside0.mk ((by rw [hg]; exact (below_size sq81) : w.heap.size ≤ gb117)); have n8_ := Aside0.mk ((by rw [hg]; exact Nat.ne_of_lt (blk_lt (g := gb113) (o := .cells #[.string a0_0, .slice (some ad116) l0_1.length c0_1] 24 (0, 0)) sq37) : gb113 ≠ gb117)); have n9_ := Aside0.mk ((by rw [hg]; exact Nat.ne_of_gt (blk_lt (g := gb113) (o := .cells #[.string a0_0, .slice (some ad116) l0_1.length c0_1] 24 (0, 0)) sq37) : gb117 ≠ gb113)); have n10_ := Aside0.mk ((by rw [hg]; exact Nat.ne_of_lt (blk_lt (g := gb114) (o := .cells #[.string (⟨#[]⟩ : ByteArray), .slice none 0 0] 24 (0, 0)) sq38) : gb114 ≠ gb117)); have n11_ := Aside0.mk ((by rw [hg]; exact Nat.ne_of_gt (blk_lt (g := gb114) (o := .cells #[.string (⟨#[]⟩ : ByteArray), .slice none 0 0] 24 (0, 0)) sq38) : gb117 ≠ gb114)); have n12_ := Aside0.mk ((by rw [hg]; exact Nat.ne_of_lt (blk_lt (g := gb115) (o := .cells #[.string a0_0, u116001] 24 (0, 0)) sq39) : gb115 ≠ gb117)); have n13_ := Aside0.mk ((by rw [hg]; exact Nat.ne_of_gt (blk_lt (g := gb115) (o := .cells #[.string a0_0, u116001] 24 (0, 0)) sq39) : gb117 ≠ gb115)); clear HO_116001; clear BK113; clear BK114; clear BK115; clear HB; have HO_116001 := n0_; have BK113 := n1_; have BK114 := n2_; have BK115 := n3_; have HB := n4_; have BK117 := n5_; have GW117 := n6_; have GE117 := n7_; have NB113_117 := n8_; have NB117_113 := n9_; have NB114_117 := n10_; have NB117_114 := n11_; have NB115_117 := n12_; have NB117_115 := n13_; clear n0_ n1_ n2_ n3_ n4_ n5_ n6_ n7_ n8_ n9_ n10_ n11_ n12_ n13_; clear hb hbox hg; have hnb20 := NB117_113.out; have hnc20 := NB113_117.out; have hnb21 := NB117_114.out; have hnc21 := NB114_117.out; have hnb22 := NB117_115.out; have hnc22 := NB115_117.out; have hcz23_0 : w19.cell? ⟨gb117, 0, none⟩ = some (.int .i64 0) := (blk_cell BK117.out 0).trans rfl; have hcz23_1 : w19.cell? ⟨gb117, 1, none⟩ = some (.int .i64 0) := (blk_cell BK117.out 1).trans rfl; have hcz23_2 : w19.cell? ⟨gb117, 2, none⟩ = some (.string (⟨#[]⟩ : ByteArray)) := (blk_cell BK117.out 2).trans rfl; have hcz23_3 : w19.cell? ⟨gb117, 3, none⟩ = some (.slice none 0 0) := (blk_cell BK117.out 3).trans rfl; have hcz23_4 : w19.cell? ⟨gb117, 4, none⟩ = some (.slice none 0 0) := (blk_cell BK117.out 4).trans rfl; have hcz23_5 : w19.cell? ⟨gb117, 5, none⟩ = some (.slice none 0 0) := (blk_cell BK117.out 5).trans rfl; have hfz23_0 := blk_frozen BK117.out 0; have hfz23_1 := blk_frozen BK117.out 1; have hfz23_2 := blk_frozen BK117.out 2; have hfz23_3 := blk_frozen BK117.out 3; have hfz23_4 := blk_frozen BK117.out 4; have hfz23_5 := blk_frozen BK117.out 5))
      have n0_ : Aside0 (Kd.S k41 41 ((((((w19.setCell ⟨gb117, 0, none⟩ (.int .i64 ((rd_T41 l0_1 x4_1).f0))).setCell ⟨gb117, 1, none⟩ (.int .i64 ((rd_T41 l0_1 x4_1).f1))).setCell ⟨gb117, 2, none⟩ (.string ((rd_T41 l0_1 x4_1).f2))).setCell ⟨gb117, 3, none⟩ (.slice A116_3 ((rd_T41 l0_1 x4_1).f3).length c116_3)).setCell ⟨gb117, 4, none⟩ (.slice A116_4 ((rd_T41 l0_1 x4_1).f4).length c116_4)).setCell ⟨gb117, 5, none⟩ (.slice A116_5 ((rd_T41 l0_1 x4_1).f5).length c116_5)) w.heap.size (fun k_ => k_ ≠ gb117) u116001 x116001_1) := ⟨by (with_reducible repeat (first | apply Kd.S_alloc | apply Kd.S_drewN | apply Kd.S_drew)); exact Kd.S_mono (Kd.S_far (p := ⟨gb117, 5, none⟩) (Kd.S_far (p := ⟨gb117, 4, none⟩) (Kd.S_far (p := ⟨gb117, 3, none⟩) (Kd.S_far (p := ⟨gb117, 2, none⟩) (Kd.S_far (p := ⟨gb117, 1, none⟩) (Kd.S_far (p := ⟨gb117, 0, none⟩) (Kd.S_mono HO_116001.out (fun k_ hk => (⟨hk, hk.2⟩ : _ ∧ k_ ≠ gb117))) (fun _ hk => hk.2) (.int .i64 ((rd_T41 l0_1 x4_1).f0))) (fun _ hk => hk.2) (.int .i64 ((rd_T41 l0_1 x4_1).f1))) (fun _ hk => hk.2) (.string ((rd_T41 l0_1 x4_1).f2))) (fun _ hk => hk.2) (.slice A116_3 ((rd_T41 l0_1 x4_1).f3).length c116_3)) (fun _ hk => hk.2) (.slice A116_4 ((rd_T41 l0_1 x4_1).f4).length c116_4)) (fun _ hk => hk.2) (.slice A116_5 ((rd_T41 l0_1 x4_1).f5).length c116_5)) (fun _ hk => hk.1.2)⟩
      have n1_ : Aside0 (((((((w19.setCell ⟨gb117, 0, none⟩ (.int .i64 ((rd_T41 l0_1 x4_1).f0))).setCell ⟨gb117, 1, none⟩ (.int .i64 ((rd_T41 l0_1 x4_1).f1))).setCell ⟨gb117, 2, none⟩ (.string ((rd_T41 l0_1 x4_1).f2))).setCell ⟨gb117, 3, none⟩ (.slice A116_3 ((rd_T41 l0_1 x4_1).f3).length c116_3)).setCell ⟨gb117, 4, none⟩ (.slice A116_4 ((rd_T41 l0_1 x4_1).f4).length c116_4)).setCell ⟨gb117, 5, none⟩ (.slice A116_5 ((rd_T41 l0_1 x4_1).f5).length c116_5)).heap[gb113]? = some (.cells #[.string a0_0, .slice (some ad116) l0_1.length c0_1] 24 (0, 0))) := ⟨by (with_reducible repeat (first | refine blk_drewN ?_ _ | refine blk_drew ?_ | refine blk_alloc ?_ _)); refine blk_far ?_ NB113_117.out _; (with_reducible repeat (first | refine blk_drewN ?_ _ | refine blk_drew ?_ | refine blk_alloc ?_ _)); refine blk_far ?_ NB113_117.out _; (with_reducible repeat (first | refine blk_drewN ?_ _ | refine blk_drew ?_ | refine blk_alloc ?_ _)); refine blk_far ?_ NB113_117.out _; (with_reducible repeat (first | refine blk_drewN ?_ _ | refine blk_drew ?_ | refine blk_alloc ?_ _)); refine blk_far ?_ NB113_117.out _; (with_reducible repeat (first | refine blk_drewN ?_ _ | refine blk_drew ?_ | refine blk_alloc ?_ _)); refine blk_far ?_ NB113_117.out _; (with_reducible repeat (first | refine blk_drewN ?_ _ | refine blk_drew ?_ | refine blk_alloc ?_ _)); refine blk_far ?_ NB113_117.out _; (with_reducible repeat (first | refine blk_drewN ?_ _ | refine blk_drew ?_ | refine blk_alloc ?_ _)); exact BK113.out⟩
      have n2_ : Aside0 (((((((w19.setCell ⟨gb117, 0, none⟩ (.int .i64 ((rd_T41 l0_1 x4_1).f0))).setCell ⟨gb117, 1, none⟩ (.int .i64 ((rd_T41 l0_1 x4_1).f1))).setCell ⟨gb117, 2, none⟩ (.string ((rd_T41 l0_1 x4_1).f2))).setCell ⟨gb117, 3, none⟩ (.slice A116_3 ((rd_T41 l0_1 x4_1).f3).length c116_3)).setCell ⟨gb117, 4, none⟩ (.slice A116_4 ((rd_T41 l0_1 x4_1).f4).length c116_4)).setCell ⟨gb117, 5, none⟩ (.slice A116_5 ((rd_T41 l0_1 x4_1).f5).length c116_5)).heap[gb114]? = some (.cells #[.string (⟨#[]⟩ : ByteArray), .slice none 0 0] 24 (0, 0))) := ⟨by (with_reducible repeat (first | refine blk_drewN ?_ _ | refine blk_drew ?_ | refine blk_alloc ?_ _)); refine blk_far ?_ NB114_117.out _; (with_reducible repeat (first | refine blk_drewN ?_ _ | refine blk_drew ?_ | refine blk_alloc ?_ _)); refine blk_far ?_ NB114_117.out _; (with_reducible repeat (first | refine blk_drewN ?_ _ | refine blk_drew ?_ | refine blk_alloc ?_ _)); refine blk_far ?_ NB114_117.out _; (with_reducible repeat (first | refine blk_drewN ?_ _ | refine blk_drew ?_ | refine blk_alloc ?_ _)); refine blk_far ?_ NB114_117.out _; (with_reducible repeat (first | refine blk_drewN ?_ _ | refine blk_drew ?_ | refine blk_alloc ?_ _)); refine blk_far ?_ NB114_117.out _; (with_reducible repeat (first | refine blk_drewN ?_ _ | refine blk_drew ?_ | refine blk_alloc ?_ _)); refine blk_far ?_ NB114_117.out _; (with_reducible repeat (first | refine blk_drewN ?_ _ | refine blk_drew ?_ | refine blk_alloc ?_ _)); exact BK114.out⟩
      have n3_ : Aside0 (((((((w19.setCell ⟨gb117, 0, none⟩ (.int .i64 ((rd_T41 l0_1 x4_1).f0))).setCell ⟨gb117, 1, none⟩ (.int .i64 ((rd_T41 l0_1 x4_1).f1))).setCell ⟨gb117, 2, none⟩ (.string ((rd_T41 l0_1 x4_1).f2))).setCell ⟨gb117, 3, none⟩ (.slice A116_3 ((rd_T41 l0_1 x4_1).f3).length c116_3)).setCell ⟨gb117, 4, none⟩ (.slice A116_4 ((rd_T41 l0_1 x4_1).f4).length c116_4)).setCell ⟨gb117, 5, none⟩ (.slice A116_5 ((rd_T41 l0_1 x4_1).f5).length c116_5)).heap[gb115]? = some (.cells #[.string a0_0, u116001] 24 (0, 0))) := ⟨by (with_reducible repeat (first | refine blk_drewN ?_ _ | refine blk_drew ?_ | refine blk_alloc ?_ _)); refine blk_far ?_ NB115_117.out _; (with_reducible repeat (first | refine blk_drewN ?_ _ | refine blk_drew ?_ | refine blk_alloc ?_ _)); refine blk_far ?_ NB115_117.out _; (with_reducible repeat (first | refine blk_drewN ?_ _ | refine blk_drew ?_ | refine blk_alloc ?_ _)); refine blk_far ?_ NB115_117.out _; (with_reducible repeat (first | refine blk_drewN ?_ _ | refine blk_drew ?_ | refine blk_alloc ?_ _)); refine blk_far ?_ NB115_117.out _; (with_reducible repeat (first | refine blk_drewN ?_ _ | refine blk_drew ?_ | refine blk_alloc ?_ _)); refine blk_far ?_ NB115_117.out _; (with_reducible repeat (first | refine blk_drewN ?_ _ | refine blk_drew ?_ | refine blk_alloc ?_ _)); refine blk_far ?_ NB115_117.out _; (with_reducible repeat (first | refine blk_drewN ?_ _ | refine blk_drew ?_ | refine blk_alloc ?_ _)); exact BK115.out⟩
      have n4_ : Aside0 (((((((w19.setCell ⟨gb117, 0, none⟩ (.int .i64 ((rd_T41 l0_1 x4_1).f0))).setCell ⟨gb117, 1, none⟩ (.int .i64 ((rd_T41 l0_1 x4_1).f1))).setCell ⟨gb117, 2, none⟩ (.string ((rd_T41 l0_1 x4_1).f2))).setCell ⟨gb117, 3, none⟩ (.slice A116_3 ((rd_T41 l0_1 x4_1).f3).length c116_3)).setCell ⟨gb117, 4, none⟩ (.slice A116_4 ((rd_T41 l0_1 x4_1).f4).length c116_4)).setCell ⟨gb117, 5, none⟩ (.slice A116_5 ((rd_T41 l0_1 x4_1).f5).length c116_5)).heap[gb117]? = some (.cells #[.int .i64 ((rd_T41 l0_1 x4_1).f0), .int .i64 ((rd_T41 l0_1 x4_1).f1), .string ((rd_T41 l0_1 x4_1).f2), .slice A116_3 ((rd_T41 l0_1 x4_1).f3).length c116_3, .slice A116_4 ((rd_T41 l0_1 x4_1).f4).length c116_4, .slice A116_5 ((rd_T41 l0_1 x4_1).f5).length c116_5] 41 (0, 0))) := ⟨by (with_reducible repeat (first | refine blk_drewN ?_ _ | refine blk_drew ?_ | refine blk_alloc ?_ _)); refine blk_put (cs := #[.int .i64 ((rd_T41 l0_1 x4_1).f0), .int .i64 ((rd_T41 l0_1 x4_1).f1), .string ((rd_T41 l0_1 x4_1).f2), .slice A116_3 ((rd_T41 l0_1 x4_1).f3).length c116_3, .slice A116_4 ((rd_T41 l0_1 x4_1).f4).length c116_4, .slice none 0 0]) ?_ 5 _ rfl; (with_reducible repeat (first | refine blk_drewN ?_ _ | refine blk_drew ?_ | refine blk_alloc ?_ _)); refine blk_put (cs := #[.int .i64 ((rd_T41 l0_1 x4_1).f0), .int .i64 ((rd_T41 l0_1 x4_1).f1), .string ((rd_T41 l0_1 x4_1).f2), .slice A116_3 ((rd_T41 l0_1 x4_1).f3).length c116_3, .slice none 0 0, .slice none 0 0]) ?_ 4 _ rfl; (with_reducible repeat (first | refine blk_drewN ?_ _ | refine blk_drew ?_ | refine blk_alloc ?_ _)); refine blk_put (cs := #[.int .i64 ((rd_T41 l0_1 x4_1).f0), .int .i64 ((rd_T41 l0_1 x4_1).f1), .string ((rd_T41 l0_1 x4_1).f2), .slice none 0 0, .slice none 0 0, .slice none 0 0]) ?_ 3 _ rfl; (with_reducible repeat (first | refine blk_drewN ?_ _ | refine blk_drew ?_ | refine blk_alloc ?_ _)); refine blk_put (cs := #[.int .i64 ((rd_T41 l0_1 x4_1).f0), .int .i64 ((rd_T41 l0_1 x4_1).f1), .string (⟨#[]⟩ : ByteArray), .slice none 0 0, .slice none 0 0, .slice none 0 0]) ?_ 2 _ rfl; (with_reducible repeat (first | refine blk_drewN ?_ _ | refine blk_drew ?_ | refine blk_alloc ?_ _)); refine blk_put (cs := #[.int .i64 ((rd_T41 l0_1 x4_1).f0), .int .i64 0, .string (⟨#[]⟩ : ByteArray), .slice none 0 0, .slice none 0 0, .slice none 0 0]) ?_ 1 _ rfl; (with_reducible repeat (first | refine blk_drewN ?_ _ | refine blk_drew ?_ | refine blk_alloc ?_ _)); refine blk_put (cs := #[.int .i64 0, .int .i64 0, .string (⟨#[]⟩ : ByteArray), .slice none 0 0, .slice none 0 0, .slice none 0 0]) ?_ 0 _ rfl; (with_reducible repeat (first | refine blk_drewN ?_ _ | refine blk_drew ?_ | refine blk_alloc ?_ _)); exact BK117.out⟩
      have n5_ : Aside0 (Below w.heap.size w ((((((w19.setCell ⟨gb117, 0, none⟩ (.int .i64 ((rd_T41 l0_1 x4_1).f0))).setCell ⟨gb117, 1, none⟩ (.int .i64 ((rd_T41 l0_1 x4_1).f1))).setCell ⟨gb117, 2, none⟩ (.string ((rd_T41 l0_1 x4_1).f2))).setCell ⟨gb117, 3, none⟩ (.slice A116_3 ((rd_T41 l0_1 x4_1).f3).length c116_3)).setCell ⟨gb117, 4, none⟩ (.slice A116_4 ((rd_T41 l0_1 x4_1).f4).length c116_4)).setCell ⟨gb117, 5, none⟩ (.slice A116_5 ((rd_T41 l0_1 x4_1).f5).length c116_5))) := ⟨sq84⟩
      (try clear HO_116001)
      (try clear BK113)
      (try clear BK114)
      (try clear BK115)
      (try clear BK117)
      (try clear HB)
      generalize ((((((w19.setCell ⟨gb117, 0, none⟩ (.int .i64 ((rd_T41 l0_1 x4_1).f0))).setCell ⟨gb117, 1, none⟩ (.int .i64 ((rd_T41 l0_1 x4_1).f1))).setCell ⟨gb117, 2, none⟩ (.string ((rd_T41 l0_1 x4_1).f2))).setCell ⟨gb117, 3, none⟩ (.slice A116_3 ((rd_T41 l0_1 x4_1).f3).length c116_3)).setCell ⟨gb117, 4, none⟩ (.slice A116_4 ((rd_T41 l0_1 x4_1).f4).length c116_4)).setCell ⟨gb117, 5, none⟩ (.slice A116_5 ((rd_T41 l0_1 x4_1).f5).length c116_5)) = w24 at n0_ n1_ n2_ n3_ n4_ n5_ ⊢
      have HO_116001 := n0_
      have BK113 := n1_
      have BK114 := n2_
      have BK115 := n3_
      have BK117 := n4_
      have HB := n5_
      clear n0_ n1_ n2_ n3_ n4_ n5_
      have n0_ := Aside0.mk (Kd.S_drew HO_116001.out)
      have n1_ := Aside0.mk (blk_drew BK113.out)
      have n2_ := Aside0.mk (blk_drew BK114.out)
      have n3_ := Aside0.mk (blk_drew BK115.out)
      have n4_ := Aside0.mk (blk_drew BK117.out)
      have n5_ := Aside0.mk (below_drew1 HB.out)
      clear HO_116001; clear BK113; clear BK114; clear BK115; clear BK117; clear HB
      have HO_116001 := n0_
      have BK113 := n1_
      have BK114 := n2_
      have BK115 := n3_
      have BK117 := n4_
      have HB := n5_
      clear n0_ n1_ n2_ n3_ n4_ n5_
      refine start_ (n := 15) (S := fun w' => w'.cell? ⟨gb117, 0, none⟩ = some (.int .i64 ((rd_T41 l0_1 x4_1).f0)) ∧ w'.cell? ⟨gb117, 1, none⟩ = some (.int .i64 ((rd_T41 l0_1 x4_1).f1)) ∧ w'.cell? ⟨gb117, 2, none⟩ = some (.string ((rd_T41 l0_1 x4_1).f2)) ∧ w'.cell? ⟨gb117, 3, none⟩ = some (.slice A116_3 ((rd_T41 l0_1 x4_1).f3).length c116_3) ∧ w'.cell? ⟨gb117, 4, none⟩ = some (.slice A116_4 ((rd_T41 l0_1 x4_1).f4).length c116_4) ∧ w'.cell? ⟨gb117, 5, none⟩ = some (.slice A116_5 ((rd_T41 l0_1 x4_1).f5).length c116_5)) (ds := [10, 12, 14]) #[false, false, false, false, false, false, false, false, false, false, false, false, false, false, false] sq1 rfl rfl ⟨(blk_cell BK117.out 0).trans rfl, (blk_cell BK117.out 1).trans rfl, (blk_cell BK117.out 2).trans rfl, (blk_cell BK117.out 3).trans rfl, (blk_cell BK117.out 4).trans rfl, (blk_cell BK117.out 5).trans rfl⟩ (fun hHeld => ?_); refine with_tabW tontinebook_CopyProduct.tab6 tontinebook_CopyProduct.bits6 (fun HT_ HW_ => ?_)
      generalize w24.drew = w25 at HO_116001 BK113 BK114 BK115 BK117 HB hHeld ⊢
      refine pure_ (i := 0) (N := some 21) (v := ?_) (a' := ?_) #[true, false, false, false, false, false, false, false, false, false, false, false, false, false, false] rfl rfl (any_of HT_.out sq1) (fun _ _ _ h => h) (Or.inl ⟨by rfl, ?_⟩) ?_ ?_
      rotate_left
      ·intro w'
       go_simp
       with_reducible rfl
      rotate_left
      ·simp only [Act.put, List.setIfInBounds_toArray, List.set_cons_zero, List.set_cons_succ, i64_w, i32_w]
       rfl
      refine pure_ (i := 3) (N := some 24) (v := ?_) (a' := ?_) #[true, false, false, true, false, false, false, false, false, false, false, false, false, false, false] rfl rfl (any_of HT_.out sq1) (fun _ _ _ h => h) (Or.inl ⟨by rfl, ?_⟩) ?_ ?_
      rotate_left
      ·intro w'
       go_simp
       with_reducible rfl
      rotate_left
      ·simp only [Act.put, List.setIfInBounds_toArray, List.set_cons_zero, List.set_cons_succ, i64_w, i32_w]
       rfl
      refine pure_ (i := 6) (N := some 27) (v := ?_) (a' := ?_) #[true, false, false, true, false, false, true, false, false, false, false, false, false, false, false] rfl rfl (any_of HT_.out sq1) (fun _ _ _ h => h) (Or.inl ⟨by rfl, ?_⟩) ?_ ?_
      rotate_left
      ·intro w'
       go_simp
       with_reducible rfl
      rotate_left
      ·simp only [Act.put, List.setIfInBounds_toArray, List.set_cons_zero, List.set_cons_succ, i64_w, i32_w]
       rfl
      refine take_ (i := 1) (N := some 22) (v := ?_) (a' := ?_) #[true, true, false, true, false, false, true, false, false, false, false, false, false, false, false] rfl rfl (take_ofW HT_.out HW_.out sq1) (fun _ _ _ h => h) (Or.inl ⟨by rfl, ?_⟩) hHeld ?_ ?_
      rotate_left
      ·rintro w' ⟨s0, s1, s2, s3, s4, s5⟩
       go_simp
       with_reducible rfl
      rotate_left
      ·simp only [Act.put, List.setIfInBounds_toArray, List.set_cons_zero, List.set_cons_succ, i64_w, i32_w]
       rfl
      refine take_ (i := 4) (N := some 25) (v := ?_) (a' := ?_) #[true, true, false, true, true, false, true, false, false, false, false, false, false, false, false] rfl rfl (take_ofW HT_.out HW_.out sq1) (fun _ _ _ h => h) (Or.inl ⟨by rfl, ?_⟩) hHeld ?_ ?_
      rotate_left
      ·rintro w' ⟨s0, s1, s2, s3, s4, s5⟩
       go_simp
       with_reducible rfl
      rotate_left
      ·simp only [Act.put, List.setIfInBounds_toArray, List.set_cons_zero, List.set_cons_succ, i64_w, i32_w]
       rfl
      refine take_ (i := 7) (N := some 28) (v := ?_) (a' := ?_) #[true, true, false, true, true, false, true, true, false, false, false, false, false, false, false] rfl rfl (take_ofW HT_.out HW_.out sq1) (fun _ _ _ h => h) (Or.inl ⟨by rfl, ?_⟩) hHeld ?_ ?_
      rotate_left
      ·rintro w' ⟨s0, s1, s2, s3, s4, s5⟩
       go_simp
       with_reducible rfl
      rotate_left
      ·simp only [Act.put, List.setIfInBounds_toArray, List.set_cons_zero, List.set_cons_succ, i64_w, i32_w]
       rfl
      refine one_ (i := 2) (N := some 23) #[true, true, true, true, true, false, true, true, false, false, false, false, false, false, false] rfl rfl (one_of HT_.out sq1) sq0 (fun K hK => ?_)
      refine goes_ Try.func6 sq1 rfl #[.slice A116_3 ((rd_T41 l0_1 x4_1).f3).length c116_3] (by rfl) rfl rfl sq56 ?_
      with_reducible refine (tontinebook_LendFormula.calls _ _ ((rd_T41 l0_1 x4_1).f3) t118 _ ?side1 ?side2 A12.out).mono ?_
      (case side1 => repeat (first | exact (Kd.C_below HR116_3.out HB.out) | (with_reducible refine Kd.C_alloc ?_ _) | (with_reducible refine Kd.C_drewN ?_ _) | (with_reducible refine Kd.C_drew ?_)))
      (case side2 => exact HC116_3.out)
      rintro e w26 ⟨v119, rfl, ho0, hb⟩
      refine ⟨_, rfl, ?_⟩
      have n0_ := Aside0.mk (Kd.S_elder' sq35 (Kd.R_base ho0) hb)
      have n1_ := Aside0.mk (Kd.R_lower ho0 (below_size sq84))
      have n2_ := Aside0.mk (blk_below (g := gb113) (o := .cells #[.string a0_0, .slice (some ad116) l0_1.length c0_1] 24 (0, 0)) sq37 hb)
      have n3_ := Aside0.mk (blk_below (g := gb114) (o := .cells #[.string (⟨#[]⟩ : ByteArray), .slice none 0 0] 24 (0, 0)) sq38 hb)
      have n4_ := Aside0.mk (blk_below (g := gb115) (o := .cells #[.string a0_0, u116001] 24 (0, 0)) sq39 hb)
      have n5_ := Aside0.mk (blk_below (g := gb117) (o := .cells #[.int .i64 ((rd_T41 l0_1 x4_1).f0), .int .i64 ((rd_T41 l0_1 x4_1).f1), .string ((rd_T41 l0_1 x4_1).f2), .slice A116_3 ((rd_T41 l0_1 x4_1).f3).length c116_3, .slice A116_4 ((rd_T41 l0_1 x4_1).f4).length c116_4, .slice A116_5 ((rd_T41 l0_1 x4_1).f5).length c116_5] 41 (0, 0)) sq40 hb)
      have n6_ := Aside0.mk (below_step sq84 hb)
      clear HO_116001; clear BK113; clear BK114; clear BK115; clear BK117; clear HB
      have HO_116001 := n0_
      have HO120 := n1_
      have BK113 := n2_
      have BK114 := n3_
      have BK115 := n4_
      have BK117 := n5_
      have HB := n6_
      clear n0_ n1_ n2_ n3_ n4_ n5_ n6_
      (try clear hb)
      (try clear hb2)
      (try clear hk)
      (try clear hi)
      (try clear ho0)
      refine hK.out _ _ ⟨(blk_cell BK117.out 0).trans rfl, (blk_cell BK117.out 1).trans rfl, (blk_cell BK117.out 2).trans rfl, (blk_cell BK117.out 3).trans rfl, (blk_cell BK117.out 4).trans rfl, (blk_cell BK117.out 5).trans rfl⟩ (fun hHeld => ?_)
      clear hK K
      refine norm_ (a' := ?_) ?_ ?_
      rotate_left
      ·show Act.put _ (some 23) _ = _
       simp only [Act.put, List.setIfInBounds_toArray, List.set_cons_zero, List.set_cons_succ, i64_w, i32_w]
       rfl
      refine pure_ (i := 9) (N := some 30) (v := ?_) (a' := ?_) #[true, true, true, true, true, false, true, true, false, true, false, false, false, false, false] rfl rfl (any_of HT_.out sq1) (fun _ _ _ h => h) (Or.inl ⟨by rfl, ?_⟩) ?_ ?_
      rotate_left
      ·intro w'
       go_simp
       with_reducible rfl
      rotate_left
      ·simp only [Act.put, List.setIfInBounds_toArray, List.set_cons_zero, List.set_cons_succ, i64_w, i32_w]
       rfl
      refine one_ (i := 5) (N := some 26) #[true, true, true, true, true, true, true, true, false, true, false, false, false, false, false] rfl rfl (one_of HT_.out sq1) sq0 (fun K hK => ?_)
      refine goes_ Try.func6 sq1 rfl #[.slice A116_4 ((rd_T41 l0_1 x4_1).f4).length c116_4] (by rfl) rfl rfl sq56 ?_
      with_reducible refine (tontinebook_LendFormula.calls _ _ ((rd_T41 l0_1 x4_1).f4) t121 _ ?side1 ?side2 A13.out).mono ?_
      (case side1 => repeat (first | exact (Kd.C_below HR116_4.out HB.out) | (with_reducible refine Kd.C_alloc ?_ _) | (with_reducible refine Kd.C_drewN ?_ _) | (with_reducible refine Kd.C_drew ?_)))
      (case side2 => exact HC116_4.out)
      rintro e w27 ⟨v122, rfl, ho0, hb⟩
      refine ⟨_, rfl, ?_⟩
      have n0_ := Aside0.mk (Kd.S_elder' sq35 (Kd.R_base ho0) hb)
      have n1_ := Aside0.mk (Kd.R_elder' sq27 (Kd.R_base ho0) hb)
      have n2_ := Aside0.mk (Kd.R_lower (Kd.R_new' ho0 (Kd.R_lt sq27)) (below_size sq84))
      have n3_ := Aside0.mk (blk_below (g := gb113) (o := .cells #[.string a0_0, .slice (some ad116) l0_1.length c0_1] 24 (0, 0)) sq37 hb)
      have n4_ := Aside0.mk (blk_below (g := gb114) (o := .cells #[.string (⟨#[]⟩ : ByteArray), .slice none 0 0] 24 (0, 0)) sq38 hb)
      have n5_ := Aside0.mk (blk_below (g := gb115) (o := .cells #[.string a0_0, u116001] 24 (0, 0)) sq39 hb)
      have n6_ := Aside0.mk (blk_below (g := gb117) (o := .cells #[.int .i64 ((rd_T41 l0_1 x4_1).f0), .int .i64 ((rd_T41 l0_1 x4_1).f1), .string ((rd_T41 l0_1 x4_1).f2), .slice A116_3 ((rd_T41 l0_1 x4_1).f3).length c116_3, .slice A116_4 ((rd_T41 l0_1 x4_1).f4).length c116_4, .slice A116_5 ((rd_T41 l0_1 x4_1).f5).length c116_5] 41 (0, 0)) sq40 hb)
      have n7_ := Aside0.mk (below_step sq84 hb)
      clear HO_116001; clear HO120; clear BK113; clear BK114; clear BK115; clear BK117; clear HB
      have HO_116001 := n0_
      have HO120 := n1_
      have HO123 := n2_
      have BK113 := n3_
      have BK114 := n4_
      have BK115 := n5_
      have BK117 := n6_
      have HB := n7_
      clear n0_ n1_ n2_ n3_ n4_ n5_ n6_ n7_
      (try clear hb)
      (try clear hb2)
      (try clear hk)
      (try clear hi)
      (try clear ho0)
      refine hK.out _ _ ⟨(blk_cell BK117.out 0).trans rfl, (blk_cell BK117.out 1).trans rfl, (blk_cell BK117.out 2).trans rfl, (blk_cell BK117.out 3).trans rfl, (blk_cell BK117.out 4).trans rfl, (blk_cell BK117.out 5).trans rfl⟩ (fun hHeld => ?_)
      clear hK K
      refine norm_ (a' := ?_) ?_ ?_
      rotate_left
      ·show Act.put _ (some 26) _ = _
       simp only [Act.put, List.setIfInBounds_toArray, List.set_cons_zero, List.set_cons_succ, i64_w, i32_w]
       rfl
      refine one_ (i := 8) (N := some 29) #[true, true, true, true, true, true, true, true, true, true, false, false, false, false, false] rfl rfl (one_of HT_.out sq1) sq0 (fun K hK => ?_)
      refine goes_ Try.func6 sq1 rfl #[.slice A116_5 ((rd_T41 l0_1 x4_1).f5).length c116_5] (by rfl) rfl rfl sq56 ?_
      with_reducible refine (tontinebook_LendFormula.calls _ _ ((rd_T41 l0_1 x4_1).f5) t124 _ ?side1 ?side2 A14.out).mono ?_
      (case side1 => repeat (first | exact (Kd.C_below HR116_5.out HB.out) | (with_reducible refine Kd.C_alloc ?_ _) | (with_reducible refine Kd.C_drewN ?_ _) | (with_reducible refine Kd.C_drew ?_)))
      (case side2 => exact HC116_5.out)
      rintro e w28 ⟨v125, rfl, ho0, hb⟩
      refine ⟨_, rfl, ?_⟩
      have n0_ := Aside0.mk (Kd.S_elder' sq35 (Kd.R_base ho0) hb)
      have n1_ := Aside0.mk (Kd.R_elder' sq27 (Kd.R_base ho0) hb)
      have n2_ := Aside0.mk (Kd.R_elder' (by (with_reducible repeat (first | apply Kd.R_alloc | apply Kd.R_drewN | apply Kd.R_drew)); exact HO123.out) (Kd.R_base ho0) hb)
      have n3_ := Aside0.mk (Kd.R_lower (Kd.R_new' (Kd.R_new' ho0 (Kd.R_lt sq27)) (Kd.R_lt (by (with_reducible repeat (first | apply Kd.R_alloc | apply Kd.R_drewN | apply Kd.R_drew)); exact HO123.out))) (below_size sq84))
      have n4_ := Aside0.mk (blk_below (g := gb113) (o := .cells #[.string a0_0, .slice (some ad116) l0_1.length c0_1] 24 (0, 0)) sq37 hb)
      have n5_ := Aside0.mk (blk_below (g := gb114) (o := .cells #[.string (⟨#[]⟩ : ByteArray), .slice none 0 0] 24 (0, 0)) sq38 hb)
      have n6_ := Aside0.mk (blk_below (g := gb115) (o := .cells #[.string a0_0, u116001] 24 (0, 0)) sq39 hb)
      have n7_ := Aside0.mk (blk_below (g := gb117) (o := .cells #[.int .i64 ((rd_T41 l0_1 x4_1).f0), .int .i64 ((rd_T41 l0_1 x4_1).f1), .string ((rd_T41 l0_1 x4_1).f2), .slice A116_3 ((rd_T41 l0_1 x4_1).f3).length c116_3, .slice A116_4 ((rd_T41 l0_1 x4_1).f4).length c116_4, .slice A116_5 ((rd_T41 l0_1 x4_1).f5).length c116_5] 41 (0, 0)) sq40 hb)
      have n8_ := Aside0.mk (below_step sq84 hb)
      clear HO_116001; clear HO120; clear HO123; clear BK113; clear BK114; clear BK115; clear BK117; clear HB
      have HO_116001 := n0_
      have HO120 := n1_
      have HO123 := n2_
      have HO126 := n3_
      have BK113 := n4_
      have BK114 := n5_
      have BK115 := n6_
      have BK117 := n7_
      have HB := n8_
      clear n0_ n1_ n2_ n3_ n4_ n5_ n6_ n7_ n8_
      (try clear hb)
      (try clear hb2)
      (try clear hk)
      (try clear hi)
      (try clear ho0)
      obtain ⟨Ao29, co29, eo29⟩ := Kd.R_slice HO120.out
      (first | subst eo29 | (injection eo29 with f1_ f2_ f3_; have f4_ := f1_.symm; have f5_ := f3_.symm; clear f1_ f2_ f3_; subst f4_; subst f5_))
      obtain ⟨Ao31, co31, eo31⟩ := Kd.R_slice HO123.out
      (first | subst eo31 | (injection eo31 with f1_ f2_ f3_; have f4_ := f1_.symm; have f5_ := f3_.symm; clear f1_ f2_ f3_; subst f4_; subst f5_))
      obtain ⟨Ao33, co33, eo33⟩ := Kd.R_slice HO126.out
      (first | subst eo33 | (injection eo33 with f1_ f2_ f3_; have f4_ := f1_.symm; have f5_ := f3_.symm; clear f1_ f2_ f3_; subst f4_; subst f5_))
      refine hK.out _ _ ⟨(blk_cell BK117.out 0).trans rfl, (blk_cell BK117.out 1).trans rfl, (blk_cell BK117.out 2).trans rfl, (blk_cell BK117.out 3).trans rfl, (blk_cell BK117.out 4).trans rfl, (blk_cell BK117.out 5).trans rfl⟩ (fun hHeld => ?_)
      clear hK K
      refine norm_ (a' := ?_) ?_ ?_
      rotate_left
      ·show Act.put _ (some 29) _ = _
       simp only [Act.put, List.setIfInBounds_toArray, List.set_cons_zero, List.set_cons_succ, i64_w, i32_w]
       rfl
      refine last_ (i := 10) (N := none) #[true, true, true, true, true, true, true, true, true, true, true, false, false, false, false] rfl rfl (one_of HT_.out sq1) sq0 (fun K hK => ?_)
      have hs30 : w28.cell? ⟨gb117, 3, none⟩ = some (.slice A116_3 ((rd_T41 l0_1 x4_1).f3).length c116_3) := (blk_cell BK117.out 3).trans rfl
      have hfs30 := blk_frozen BK117.out 3
      have hns30_0 := NB113_117.out
      have hns30_1 := NB114_117.out
      have hns30_2 := NB115_117.out
      have hms30_0 := NB117_113.out
      have hms30_1 := NB117_114.out
      have hms30_2 := NB117_115.out
      refine skip_ (w1 := ?_) (by rfl) rfl ?_ ?_
      rotate_left
      ·go_simp
       rfl
      refine hK.out _ _ ?_
      clear hK K
      refine pure_ (i := 11) (N := some 31) (v := ?_) (a' := ?_) #[true, true, true, true, true, true, true, true, true, true, true, true, false, false, false] rfl rfl (any_of HT_.out sq1) (fun _ _ _ h => h) (Or.inl ⟨by rfl, ?_⟩) ?_ ?_
      rotate_left
      ·intro w'
       go_simp
       with_reducible rfl
      rotate_left
      ·simp only [Act.put, List.setIfInBounds_toArray, List.set_cons_zero, List.set_cons_succ, i64_w, i32_w]
       rfl
      refine last_ (i := 12) (N := none) #[true, true, true, true, true, true, true, true, true, true, true, true, true, false, false] rfl rfl (one_of HT_.out sq1) sq0 (fun K hK => ?_)
      have hs32 : w28.cell? ⟨gb117, 4, none⟩ = some (.slice A116_4 ((rd_T41 l0_1 x4_1).f4).length c116_4) := (blk_cell BK117.out 4).trans rfl
      have hfs32 := blk_frozen BK117.out 4
      have hns32_0 := NB113_117.out
      have hns32_1 := NB114_117.out
      have hns32_2 := NB115_117.out
      have hms32_0 := NB117_113.out
      have hms32_1 := NB117_114.out
      have hms32_2 := NB117_115.out
      refine skip_ (w1 := ?_) (by rfl) rfl ?_ ?_
      rotate_left
      ·go_simp
       rfl
      refine hK.out _ _ ?_
      clear hK K
      refine pure_ (i := 13) (N := some 32) (v := ?_) (a' := ?_) #[true, true, true, true, true, true, true, true, true, true, true, true, true, true, false] rfl rfl (any_of HT_.out sq1) (fun _ _ _ h => h) (Or.inl ⟨by rfl, ?_⟩) ?_ ?_
      rotate_left
      ·intro w'
       go_simp
       with_reducible rfl
      rotate_left
      ·simp only [Act.put, List.setIfInBounds_toArray, List.set_cons_zero, List.set_cons_succ, i64_w, i32_w]
       rfl
      refine last_ (i := 14) (N := none) #[true, true, true, true, true, true, true, true, true, true, true, true, true, true, true] rfl rfl (one_of HT_.out sq1) sq0 (fun K hK => ?_)
      have hs34 : w28.cell? ⟨gb117, 5, none⟩ = some (.slice A116_5 ((rd_T41 l0_1 x4_1).f5).length c116_5) := (blk_cell BK117.out 5).trans rfl
      have hfs34 := blk_frozen BK117.out 5
      have hns34_0 := NB113_117.out
      have hns34_1 := NB114_117.out
      have hns34_2 := NB115_117.out
      have hms34_0 := NB117_113.out
      have hms34_1 := NB117_114.out
      have hms34_2 := NB117_115.out
      refine skip_ (w1 := ?_) (by rfl) rfl ?_ ?_
      rotate_left
      ·go_simp
       rfl
      refine hK.out _ _ ?_
      clear hK K
      refine done_ (done_of HT_.out sq1) ?_
      have n0_ : Aside0 (Kd.S k41 41 (((w28.setCell ⟨gb117, 3, none⟩ (.slice Ao29 t118.length co29)).setCell ⟨gb117, 4, none⟩ (.slice Ao31 t121.length co31)).setCell ⟨gb117, 5, none⟩ (.slice Ao33 t124.length co33)) w.heap.size (fun k_ => some k_ ≠ (.slice Ao29 t118.length co29 : Value).ownBlock ∧ some k_ ≠ (.slice Ao31 t121.length co31 : Value).ownBlock ∧ some k_ ≠ (.slice Ao33 t124.length co33 : Value).ownBlock ∧ k_ ≠ gb117) u116001 x116001_1) := ⟨by (with_reducible repeat (first | apply Kd.S_alloc | apply Kd.S_drewN | apply Kd.S_drew)); exact Kd.S_mono (Kd.S_far (p := ⟨gb117, 5, none⟩) (Kd.S_far (p := ⟨gb117, 4, none⟩) (Kd.S_far (p := ⟨gb117, 3, none⟩) (Kd.S_mono HO_116001.out (fun k_ hk => (⟨hk, hk.1.1.1⟩ : _ ∧ k_ ≠ gb117))) (fun _ hk => hk.2) (.slice Ao29 t118.length co29)) (fun _ hk => hk.2) (.slice Ao31 t121.length co31)) (fun _ hk => hk.2) (.slice Ao33 t124.length co33)) (fun _ hk => ⟨hk.1.1.1.2, ⟨hk.1.1.2, ⟨hk.1.2, hk.1.1.1.1⟩⟩⟩)⟩
      have n1_ : Aside0 (Kd.R k43 43 (((w28.setCell ⟨gb117, 3, none⟩ (.slice Ao29 t118.length co29)).setCell ⟨gb117, 4, none⟩ (.slice Ao31 t121.length co31)).setCell ⟨gb117, 5, none⟩ (.slice Ao33 t124.length co33)) w.heap.size (fun k_ => some k_ ≠ (.slice Ao31 t121.length co31 : Value).ownBlock ∧ some k_ ≠ (.slice Ao33 t124.length co33 : Value).ownBlock) (.slice Ao29 t118.length co29) t118) := ⟨by (with_reducible repeat (first | apply Kd.R_alloc | apply Kd.R_drewN | apply Kd.R_drew)); exact Kd.R_mono (Kd.R_far (p := ⟨gb117, 5, none⟩) (Kd.R_far (p := ⟨gb117, 4, none⟩) (Kd.R_far (p := ⟨gb117, 3, none⟩) (Kd.R_types HO120.out BK117.out sq0) (fun _ hk => hk.2) (.slice Ao29 t118.length co29)) (fun _ hk => hk.2) (.slice Ao31 t121.length co31)) (fun _ hk => hk.2) (.slice Ao33 t124.length co33)) (fun _ hk => ⟨hk.1.1.2, hk.1.2⟩)⟩
      have n2_ : Aside0 (Kd.R k43 43 (((w28.setCell ⟨gb117, 3, none⟩ (.slice Ao29 t118.length co29)).setCell ⟨gb117, 4, none⟩ (.slice Ao31 t121.length co31)).setCell ⟨gb117, 5, none⟩ (.slice Ao33 t124.length co33)) w.heap.size (fun k_ => some k_ ≠ (.slice Ao29 t118.length co29 : Value).ownBlock ∧ some k_ ≠ (.slice Ao33 t124.length co33 : Value).ownBlock) (.slice Ao31 t121.length co31) t121) := ⟨by (with_reducible repeat (first | apply Kd.R_alloc | apply Kd.R_drewN | apply Kd.R_drew)); exact Kd.R_mono (Kd.R_far (p := ⟨gb117, 5, none⟩) (Kd.R_far (p := ⟨gb117, 4, none⟩) (Kd.R_far (p := ⟨gb117, 3, none⟩) (Kd.R_types HO123.out BK117.out sq0) (fun _ hk => hk.2) (.slice Ao29 t118.length co29)) (fun _ hk => hk.2) (.slice Ao31 t121.length co31)) (fun _ hk => hk.2) (.slice Ao33 t124.length co33)) (fun _ hk => ⟨hk.1.1.2, hk.1.2⟩)⟩
      have n3_ : Aside0 (Kd.R k43 43 (((w28.setCell ⟨gb117, 3, none⟩ (.slice Ao29 t118.length co29)).setCell ⟨gb117, 4, none⟩ (.slice Ao31 t121.length co31)).setCell ⟨gb117, 5, none⟩ (.slice Ao33 t124.length co33)) w.heap.size (fun k_ => some k_ ≠ (.slice Ao29 t118.length co29 : Value).ownBlock ∧ some k_ ≠ (.slice Ao31 t121.length co31 : Value).ownBlock) (.slice Ao33 t124.length co33) t124) := ⟨by (with_reducible repeat (first | apply Kd.R_alloc | apply Kd.R_drewN | apply Kd.R_drew)); exact Kd.R_mono (Kd.R_far (p := ⟨gb117, 5, none⟩) (Kd.R_far (p := ⟨gb117, 4, none⟩) (Kd.R_far (p := ⟨gb117, 3, none⟩) (Kd.R_types HO126.out BK117.out sq0) (fun _ hk => hk.2) (.slice Ao29 t118.length co29)) (fun _ hk => hk.2) (.slice Ao31 t121.length co31)) (fun _ hk => hk.2) (.slice Ao33 t124.length co33)) (fun _ hk => ⟨hk.1.1.2, hk.1.2⟩)⟩
      have n4_ : Aside0 ((((w28.setCell ⟨gb117, 3, none⟩ (.slice Ao29 t118.length co29)).setCell ⟨gb117, 4, none⟩ (.slice Ao31 t121.length co31)).setCell ⟨gb117, 5, none⟩ (.slice Ao33 t124.length co33)).heap[gb113]? = some (.cells #[.string a0_0, .slice (some ad116) l0_1.length c0_1] 24 (0, 0))) := ⟨by (with_reducible repeat (first | refine blk_drewN ?_ _ | refine blk_drew ?_ | refine blk_alloc ?_ _)); refine blk_far ?_ NB113_117.out _; (with_reducible repeat (first | refine blk_drewN ?_ _ | refine blk_drew ?_ | refine blk_alloc ?_ _)); refine blk_far ?_ NB113_117.out _; (with_reducible repeat (first | refine blk_drewN ?_ _ | refine blk_drew ?_ | refine blk_alloc ?_ _)); refine blk_far ?_ NB113_117.out _; (with_reducible repeat (first | refine blk_drewN ?_ _ | refine blk_drew ?_ | refine blk_alloc ?_ _)); exact BK113.out⟩
      have n5_ : Aside0 ((((w28.setCell ⟨gb117, 3, none⟩ (.slice Ao29 t118.length co29)).setCell ⟨gb117, 4, none⟩ (.slice Ao31 t121.length co31)).setCell ⟨gb117, 5, none⟩ (.slice Ao33 t124.length co33)).heap[gb114]? = some (.cells #[.string (⟨#[]⟩ : ByteArray), .slice none 0 0] 24 (0, 0))) := ⟨by (with_reducible repeat (first | refine blk_drewN ?_ _ | refine blk_drew ?_ | refine blk_alloc ?_ _)); refine blk_far ?_ NB114_117.out _; (with_reducible repeat (first | refine blk_drewN ?_ _ | refine blk_drew ?_ | refine blk_alloc ?_ _)); refine blk_far ?_ NB114_117.out _; (with_reducible repeat (first | refine blk_drewN ?_ _ | refine blk_drew ?_ | refine blk_alloc ?_ _)); refine blk_far ?_ NB114_117.out _; (with_reducible repeat (first | refine blk_drewN ?_ _ | refine blk_drew ?_ | refine blk_alloc ?_ _)); exact BK114.out⟩
      have n6_ : Aside0 ((((w28.setCell ⟨gb117, 3, none⟩ (.slice Ao29 t118.length co29)).setCell ⟨gb117, 4, none⟩ (.slice Ao31 t121.length co31)).setCell ⟨gb117, 5, none⟩ (.slice Ao33 t124.length co33)).heap[gb115]? = some (.cells #[.string a0_0, u116001] 24 (0, 0))) := ⟨by (with_reducible repeat (first | refine blk_drewN ?_ _ | refine blk_drew ?_ | refine blk_alloc ?_ _)); refine blk_far ?_ NB115_117.out _; (with_reducible repeat (first | refine blk_drewN ?_ _ | refine blk_drew ?_ | refine blk_alloc ?_ _)); refine blk_far ?_ NB115_117.out _; (with_reducible repeat (first | refine blk_drewN ?_ _ | refine blk_drew ?_ | refine blk_alloc ?_ _)); refine blk_far ?_ NB115_117.out _; (with_reducible repeat (first | refine blk_drewN ?_ _ | refine blk_drew ?_ | refine blk_alloc ?_ _)); exact BK115.out⟩
      have n7_ : Aside0 ((((w28.setCell ⟨gb117, 3, none⟩ (.slice Ao29 t118.length co29)).setCell ⟨gb117, 4, none⟩ (.slice Ao31 t121.length co31)).setCell ⟨gb117, 5, none⟩ (.slice Ao33 t124.length co33)).heap[gb117]? = some (.cells #[.int .i64 ((rd_T41 l0_1 x4_1).f0), .int .i64 ((rd_T41 l0_1 x4_1).f1), .string ((rd_T41 l0_1 x4_1).f2), .slice Ao29 t118.length co29, .slice Ao31 t121.length co31, .slice Ao33 t124.length co33] 41 (0, 0))) := ⟨by (with_reducible repeat (first | refine blk_drewN ?_ _ | refine blk_drew ?_ | refine blk_alloc ?_ _)); refine blk_put (cs := #[.int .i64 ((rd_T41 l0_1 x4_1).f0), .int .i64 ((rd_T41 l0_1 x4_1).f1), .string ((rd_T41 l0_1 x4_1).f2), .slice Ao29 t118.length co29, .slice Ao31 t121.length co31, .slice A116_5 ((rd_T41 l0_1 x4_1).f5).length c116_5]) ?_ 5 _ rfl; (with_reducible repeat (first | refine blk_drewN ?_ _ | refine blk_drew ?_ | refine blk_alloc ?_ _)); refine blk_put (cs := #[.int .i64 ((rd_T41 l0_1 x4_1).f0), .int .i64 ((rd_T41 l0_1 x4_1).f1), .string ((rd_T41 l0_1 x4_1).f2), .slice Ao29 t118.length co29, .slice A116_4 ((rd_T41 l0_1 x4_1).f4).length c116_4, .slice A116_5 ((rd_T41 l0_1 x4_1).f5).length c116_5]) ?_ 4 _ rfl; (with_reducible repeat (first | refine blk_drewN ?_ _ | refine blk_drew ?_ | refine blk_alloc ?_ _)); refine blk_put (cs := #[.int .i64 ((rd_T41 l0_1 x4_1).f0), .int .i64 ((rd_T41 l0_1 x4_1).f1), .string ((rd_T41 l0_1 x4_1).f2), .slice A116_3 ((rd_T41 l0_1 x4_1).f3).length c116_3, .slice A116_4 ((rd_T41 l0_1 x4_1).f4).length c116_4, .slice A116_5 ((rd_T41 l0_1 x4_1).f5).length c116_5]) ?_ 3 _ rfl; (with_reducible repeat (first | refine blk_drewN ?_ _ | refine blk_drew ?_ | refine blk_alloc ?_ _)); exact BK117.out⟩
      have n8_ : Aside0 (Below w.heap.size w (((w28.setCell ⟨gb117, 3, none⟩ (.slice Ao29 t118.length co29)).setCell ⟨gb117, 4, none⟩ (.slice Ao31 t121.length co31)).setCell ⟨gb117, 5, none⟩ (.slice Ao33 t124.length co33))) := ⟨sq84⟩
      (try clear HO_116001)
      (try clear HO120)
      (try clear HO123)
      (try clear HO126)
      (try clear BK113)
      (try clear BK114)
      (try clear BK115)
      (try clear BK117)
      (try clear HB)
      generalize (((w28.setCell ⟨gb117, 3, none⟩ (.slice Ao29 t118.length co29)).setCell ⟨gb117, 4, none⟩ (.slice Ao31 t121.length co31)).setCell ⟨gb117, 5, none⟩ (.slice Ao33 t124.length co33)) = w35 at n0_ n1_ n2_ n3_ n4_ n5_ n6_ n7_ n8_ ⊢
      have HO_116001 := n0_
      have HO120 := n1_
      have HO123 := n2_
      have HO126 := n3_
      have BK113 := n4_
      have BK114 := n5_
      have BK115 := n6_
      have BK117 := n7_
      have HB := n8_
      clear n0_ n1_ n2_ n3_ n4_ n5_ n6_ n7_ n8_
      have hnb36 := NB115_114.out
      have hnc36 := NB114_115.out
      have hcz37_0 : w35.cell? ⟨gb115, 0, none⟩ = some (.string a0_0) := (blk_cell BK115.out 0).trans rfl
      have hcz37_1 : w35.cell? ⟨gb115, 1, none⟩ = some (u116001) := (blk_cell BK115.out 1).trans rfl
      have hfz37_0 := blk_frozen BK115.out 0
      have hfz37_1 := blk_frozen BK115.out 1
      have hcz38_0 : w35.cell? ⟨gb117, 0, none⟩ = some (.int .i64 ((rd_T41 l0_1 x4_1).f0)) := (blk_cell BK117.out 0).trans rfl
      have hcz38_1 : w35.cell? ⟨gb117, 1, none⟩ = some (.int .i64 ((rd_T41 l0_1 x4_1).f1)) := (blk_cell BK117.out 1).trans rfl
      have hcz38_2 : w35.cell? ⟨gb117, 2, none⟩ = some (.string ((rd_T41 l0_1 x4_1).f2)) := (blk_cell BK117.out 2).trans rfl
      have hcz38_3 : w35.cell? ⟨gb117, 3, none⟩ = some (.slice Ao29 t118.length co29) := (blk_cell BK117.out 3).trans rfl
      have hcz38_4 : w35.cell? ⟨gb117, 4, none⟩ = some (.slice Ao31 t121.length co31) := (blk_cell BK117.out 4).trans rfl
      have hcz38_5 : w35.cell? ⟨gb117, 5, none⟩ = some (.slice Ao33 t124.length co33) := (blk_cell BK117.out 5).trans rfl
      have hfz38_0 := blk_frozen BK117.out 0
      have hfz38_1 := blk_frozen BK117.out 1
      have hfz38_2 := blk_frozen BK117.out 2
      have hfz38_3 := blk_frozen BK117.out 3
      have hfz38_4 := blk_frozen BK117.out 4
      have hfz38_5 := blk_frozen BK117.out 5
      try go_wp2_with (first | ((with_reducible refine gate_builtin (b := .append) (xs := #[.tmp 34, .tmp 36]) rfl ?_); at_builtin; refine Kd.S_append k41 (w0 := w) w.heap.size rfl (.tmp 34) (.tmp 36) 22 41 (.agg #[(.int .i64 0), (.int .i64 0), (.string ⟨#[]⟩), (.slice none 0 0), (.slice none 0 0), (.slice none 0 0)]) 104 rfl Try.underlying22 info41 rfl sq0 (by omega) u116001 x116001_1 (⟨(rd_T41 l0_1 x4_1).f0, (rd_T41 l0_1 x4_1).f1, (rd_T41 l0_1 x4_1).f2, t118, t121, t124⟩ : S41) [.int .i64 ((rd_T41 l0_1 x4_1).f0), .int .i64 ((rd_T41 l0_1 x4_1).f1), .string ((rd_T41 l0_1 x4_1).f2), .slice Ao29 t118.length co29, .slice Ao31 t121.length co31, .slice Ao33 t124.length co33] (fun k_ => k_ ≠ gb117) (fun k_ => some k_ = (.slice Ao29 t118.length co29 : Value).ownBlock ∨ some k_ = (.slice Ao31 t121.length co31 : Value).ownBlock ∨ some k_ = (.slice Ao33 t124.length co33 : Value).ownBlock) rfl rfl ?aP (fun k_ hk_ => hk_.elim (fun h_ => ((Kd.R_mono (ok' := fun k_ => ((fun k_ => k_ ≠ gb117)) k_ ∧ some k_ ≠ (u116001 : Value).ownBlock) (Kd.R_types (Kd.R_apart' (HO120.out) (Kd.S_typed HO_116001.out) sq0) BK117.out sq0) (fun k_ hk => ⟨hk.2, hk.1.2⟩))).1 k_ h_.symm) (fun h_ => h_.elim (fun h_ => ((Kd.R_mono (ok' := fun k_ => ((fun k_ => k_ ≠ gb117)) k_ ∧ some k_ ≠ (u116001 : Value).ownBlock) (Kd.R_types (Kd.R_apart' (HO123.out) (Kd.S_typed HO_116001.out) sq0) BK117.out sq0) (fun k_ hk => ⟨hk.2, hk.1.2⟩))).1 k_ h_.symm) (fun h_ => ((Kd.R_mono (ok' := fun k_ => ((fun k_ => k_ ≠ gb117)) k_ ∧ some k_ ≠ (u116001 : Value).ownBlock) (Kd.R_types (Kd.R_apart' (HO126.out) (Kd.S_typed HO_116001.out) sq0) BK117.out sq0) (fun k_ hk => ⟨hk.2, hk.1.2⟩))).1 k_ h_.symm))) ?aF ?aO ?aB ?aS ?aL ?_; (case aP => exact k41_mkM _ _ _ (⟨(rd_T41 l0_1 x4_1).f0, (rd_T41 l0_1 x4_1).f1, (rd_T41 l0_1 x4_1).f2, t118, t121, t124⟩ : S41) (Kd.R_mono (Kd.R_tight rfl (Kd.R_mono (ok' := fun k_ => ((fun k_ => k_ ≠ gb117)) k_ ∧ some k_ ≠ (u116001 : Value).ownBlock) (Kd.R_types (Kd.R_apart' (HO120.out) (Kd.S_typed HO_116001.out) sq0) BK117.out sq0) (fun k_ hk => ⟨hk.2, hk.1.2⟩))) (fun _ h_ => Or.inl h_)) (Kd.R_mono (Kd.R_tight rfl (Kd.R_mono (ok' := fun k_ => ((fun k_ => k_ ≠ gb117)) k_ ∧ some k_ ≠ (u116001 : Value).ownBlock) (Kd.R_types (Kd.R_apart' (HO123.out) (Kd.S_typed HO_116001.out) sq0) BK117.out sq0) (fun k_ hk => ⟨hk.2, hk.1.2⟩))) (fun _ h_ => Or.inr (Or.inl h_))) (Kd.R_mono (Kd.R_tight rfl (Kd.R_mono (ok' := fun k_ => ((fun k_ => k_ ≠ gb117)) k_ ∧ some k_ ≠ (u116001 : Value).ownBlock) (Kd.R_types (Kd.R_apart' (HO126.out) (Kd.S_typed HO_116001.out) sq0) BK117.out sq0) (fun k_ hk => ⟨hk.2, hk.1.2⟩))) (fun _ h_ => Or.inr (Or.inr (h_))))); (case aB => exact sq84); (case aF => exact (fun k_ hk => Kd.freshB (g := gb117) (o := .cells #[.int .i64 ((rd_T41 l0_1 x4_1).f0), .int .i64 ((rd_T41 l0_1 x4_1).f1), .string ((rd_T41 l0_1 x4_1).f2), .slice Ao29 t118.length co29, .slice Ao31 t121.length co31, .slice Ao33 t124.length co33] 41 (0, 0)) sq40 k_ hk)); (case aO => exact (by (with_reducible repeat (first | apply Kd.S_alloc | apply Kd.S_drewN | apply Kd.S_drew)); exact Kd.S_mono HO_116001.out (fun k_ hk => ⟨hk.2.2.2, fun e_ => e_.elim (fun h_ => hk.1 h_) (fun h_ => h_.elim (fun h_ => hk.2.1 h_) (fun h_ => hk.2.2.1 h_))⟩))); (case aS => exact (below_size sq84)); (case aL => have := LMc15.out; omega); intro v128 w39 ho hb hg hat; rw [← Ny127.out] at ho; have n0_ := Aside0.mk (blk_grown (g := gb113) (o := .cells #[.string a0_0, .slice (some ad116) l0_1.length c0_1] 24 (0, 0)) sq37 hg (Kd.S_ne HO_116001.out BK113.out sq0)); have n1_ := Aside0.mk (blk_grown (g := gb114) (o := .cells #[.string (⟨#[]⟩ : ByteArray), .slice none 0 0] 24 (0, 0)) sq38 hg (Kd.S_ne HO_116001.out BK114.out sq0)); have n2_ := Aside0.mk (blk_grown (g := gb115) (o := .cells #[.string a0_0, u116001] 24 (0, 0)) sq39 hg (Kd.S_ne HO_116001.out BK115.out sq0)); have n3_ := Aside0.mk (blk_grown (g := gb117) (o := .cells #[.int .i64 ((rd_T41 l0_1 x4_1).f0), .int .i64 ((rd_T41 l0_1 x4_1).f1), .string ((rd_T41 l0_1 x4_1).f2), .slice Ao29 t118.length co29, .slice Ao31 t121.length co31, .slice Ao33 t124.length co33] 41 (0, 0)) sq40 hg (Kd.S_away HO_116001.out (fun _ hk => hk.2.2.2))); have n4_ := Aside0.mk (hb); have n5_ := Aside0.mk (ho); clear BK113; clear BK114; clear BK115; clear BK117; clear HB; clear HO_116001; clear HO120; clear HO123; clear HO126; have BK113 := n0_; have BK114 := n1_; have BK115 := n2_; have BK117 := n3_; have HB := n4_; have HO129 := n5_; clear n0_ n1_ n2_ n3_ n4_ n5_; clear ho hb hg hat; obtain ⟨Ao40, co40, eo40⟩ := Kd.S_slice HO129.out; subst eo40; have hcz41_0 : w39.cell? ⟨gb115, 0, none⟩ = some (.string a0_0) := (blk_cell BK115.out 0).trans rfl; have hcz41_1 : w39.cell? ⟨gb115, 1, none⟩ = some (u116001) := (blk_cell BK115.out 1).trans rfl; have hfz41_0 := blk_frozen BK115.out 0; have hfz41_1 := blk_frozen BK115.out 1))
      go_roundg k1
      case measure => have := HK1.out; omega
      case rel => exact ⟨(wrap64 (x4_1 + 1)), (y127), (.slice Ao40 y127.length co40), sq4, H', ⟨by have := HK1.out; omega⟩, ⟨by (with_reducible repeat (first | apply Kd.S_alloc | apply Kd.S_drewN | apply Kd.S_drew)); exact Kd.S_mono (Kd.S_far (p := ⟨gb115, 1, none⟩) (Kd.S_types HO129.out BK115.out sq0) (fun _ hk => hk.2) (.slice Ao40 y127.length co40)) (fun _ hk => trivial)⟩, ⟨by (with_reducible repeat (first | refine blk_drewN ?_ _ | refine blk_drew ?_ | refine blk_alloc ?_ _)); refine blk_far ?_ NB113_115.out _; (with_reducible repeat (first | refine blk_drewN ?_ _ | refine blk_drew ?_ | refine blk_alloc ?_ _)); exact BK113.out⟩, ⟨by (with_reducible repeat (first | refine blk_drewN ?_ _ | refine blk_drew ?_ | refine blk_alloc ?_ _)); refine blk_far ?_ NB114_115.out _; (with_reducible repeat (first | refine blk_drewN ?_ _ | refine blk_drew ?_ | refine blk_alloc ?_ _)); exact BK114.out⟩, ⟨by (with_reducible repeat (first | refine blk_drewN ?_ _ | refine blk_drew ?_ | refine blk_alloc ?_ _)); refine blk_put (cs := #[.string a0_0, u116001]) ?_ 1 _ rfl; (with_reducible repeat (first | refine blk_drewN ?_ _ | refine blk_drew ?_ | refine blk_alloc ?_ _)); exact BK115.out⟩, ⟨sq84⟩⟩
     rw [if_neg c15] at H
     exact absurd H (by simp)
    rw [if_neg c11] at H
    exact absurd H (by simp)
   rw [if_neg c10] at H
   have c10b0 : decide (x4_1 < (l0_1.length : Int)) = false := decide_eq_false c10
   try (have c10e0 := c10b0; rw [hl116_3] at c10e0)
   try (have c10e0 := c10b0; rw [hl116_4] at c10e0)
   try (have c10e0 := c10b0; rw [hl116_5] at c10e0)
   clear c10
   simp only [Option.some.injEq, Prod.mk.injEq] at H
   obtain ⟨rfl, rfl⟩ := H
   have hnb42 := NB113_114.out
   have hnc42 := NB114_113.out
   have hnb43 := NB113_115.out
   have hnc43 := NB115_113.out
   have hcz44_0 : wr.cell? ⟨gb113, 0, none⟩ = some (.string a0_0) := (blk_cell BK113.out 0).trans rfl
   have hcz44_1 : wr.cell? ⟨gb113, 1, none⟩ = some (.slice A0_1 l0_1.length c0_1) := (blk_cell BK113.out 1).trans rfl
   have hfz44_0 := blk_frozen BK113.out 0
   have hfz44_1 := blk_frozen BK113.out 1
   have hnb45 := NB115_114.out
   have hnc45 := NB114_115.out
   have hcz46_0 : wr.cell? ⟨gb115, 0, none⟩ = some (.string a0_0) := (blk_cell BK115.out 0).trans rfl
   have hcz46_1 : wr.cell? ⟨gb115, 1, none⟩ = some (u116001) := (blk_cell BK115.out 1).trans rfl
   have hfz46_0 := blk_frozen BK115.out 0
   have hfz46_1 := blk_frozen BK115.out 1
   have hcz47_0 : wr.cell? ⟨gb114, 0, none⟩ = some (.string (⟨#[]⟩ : ByteArray)) := (blk_cell BK114.out 0).trans rfl
   have hcz47_1 : wr.cell? ⟨gb114, 1, none⟩ = some (.slice none 0 0) := (blk_cell BK114.out 1).trans rfl
   have hfz47_0 := blk_frozen BK114.out 0
   have hfz47_1 := blk_frozen BK114.out 1
   obtain ⟨Ao48, co48, eo48⟩ := Kd.S_slice HO_116001.out
   subst eo48
   go_wp2
   refine bodyPost_ret (results_cell_row rfl _ _ gb114 24 #[.string a0_0, .slice Ao48 x116001_1.length co48] (0, 0) _ rfl (by (with_reducible repeat (first | refine blk_drewN ?_ _ | refine blk_drew ?_ | refine blk_alloc ?_ _)); refine blk_put (cs := #[.string a0_0, .slice none 0 0]) ?_ 1 _ rfl; (with_reducible repeat (first | refine blk_drewN ?_ _ | refine blk_drew ?_ | refine blk_alloc ?_ _)); refine blk_put (cs := #[.string (⟨#[]⟩ : ByteArray), .slice none 0 0]) ?_ 0 _ rfl; (with_reducible repeat (first | refine blk_drewN ?_ _ | refine blk_drew ?_ | refine blk_alloc ?_ _)); exact BK114.out) Try.underlying24 rfl (by kernel_rfl)) rfl ?_
   exact ⟨_, sq23, by (with_reducible repeat (first | apply Kd.S_alloc | apply Kd.S_drewN | apply Kd.S_drew)); exact Kd.S_mono (Kd.S_far (p := ⟨gb114, 1, none⟩) (Kd.S_far (p := ⟨gb114, 0, none⟩) (Kd.S_types HO_116001.out BK114.out sq0) (fun _ hk => hk.2) (.string a0_0)) (fun _ hk => hk.2) (.slice Ao48 x116001_1.length co48)) (fun _ hk => trivial), sq81⟩

/-! ### clause_named: function 15: by hand -/
def clause_named.f (a0 : ByteArray) : Option Bool := if a0.size ≤ 9223372036854775807 then some (Ytaogejkmkalnlaa.HS.named a0.data.toList) else none
theorem clause_named.calls (a0 : ByteArray) (r : Bool) (w : World) (h : clause_named.f a0 = some r) :
  Calls Try.prog 15 #[.string a0] w fun e w' => e = .returned (.bool r) ∧ Drawn0 w w' := by
 unfold clause_named.f at h
 split at h
 ·obtain rfl := Option.some.inj h
  refine (Ytaogejkmkalnlaa.HA.named_any a0 w (by assumption)).mono ?_
  rintro e w' ⟨rfl, rfl⟩
  exact ⟨rfl, Drawn0.refl _⟩
 cases h

/-! ### clause_isKept: function 34: by hand -/
def clause_isKept.f (a0 : ByteArray) : Option Bool := if a0.size ≤ 24 then some (Lib.contains Ytaogejkmkalnlaa.HB.keptText (32 :: (a0.data.toList ++ [32]))) else none
theorem clause_isKept.calls (a0 : ByteArray) (r : Bool) (w : World) (hG : Glob w) (h : clause_isKept.f a0 = some r) :
  Calls Try.prog 34 #[.string a0] w fun e w' => e = .returned (.bool r) ∧ Drawn0 w w' := by
 unfold clause_isKept.f at h
 split at h
 ·obtain rfl := Option.some.inj h
  obtain ⟨m, hm⟩ := hG
  refine (Ytaogejkmkalnlaa.HB.isKept_any a0 w m (by assumption) hm).mono ?_
  rintro e w' ⟨rfl, rfl⟩
  exact ⟨rfl, Drawn0.refl _⟩
 cases h

/-! ### clause_word: function 29 -/
def clause_word.f (a0 : ByteArray) : Option (Bool) := (clause_named.f a0).bind fun t130 => (if t130 = true then ((clause_isKept.f a0).bind fun t131 => (some (!t131))) else (some false))
set_option maxHeartbeats 8000000 in
set_option maxRecDepth 100000 in
theorem clause_word.calls (a0 : ByteArray) (r : Bool) (w : World) (hG : Glob w) (h : clause_word.f a0 = some r) :
  Calls Try.prog 29 #[.string a0] w fun e w' => e = .returned (.bool r) ∧ Drawn0 w w' := by
 have HG := Aside0.mk hG
 clear hG
 have H : ((clause_named.f a0).bind fun t130 => (if t130 = true then ((clause_isKept.f a0).bind fun t131 => (some (!t131))) else (some false))) = some r := h
 clear h
 replace H := Option.bind_eq_some_iff.mp H
 obtain ⟨t130, A20, H⟩ := H
 replace H : (if t130 = true then ((clause_isKept.f a0).bind fun t131 => (some (!t131))) else (some false)) = some r := H
 have A2 := Aside0.mk A20
 clear A20
 by_cases c3 : t130 = true
 ·subst c3
  replace H := (itT_ _ _).symm.trans H
  replace H := Option.bind_eq_some_iff.mp H
  obtain ⟨t131, A40, H⟩ := H
  replace H : (some (!t131)) = some r := H
  have A4 := Aside0.mk A40
  clear A40
  obtain rfl := Option.some.inj H
  go_enter Try.func29, Try.ntmps29
  go_wp2_with (first | ((with_reducible refine gate_callee (f := 15) rfl ?_); refine goesL_ (some 4) rfl rfl Try.func15 sq1 rfl #[.string a0] rfl sq56 ?_; (with_reducible refine (clause_named.calls a0 true _ A2.out).mono ?_); rintro e w' ⟨rfl, ⟨nd, rfl⟩⟩; refine ⟨_, rfl, ?_⟩) | (go_at_call 34; (with_reducible refine (clause_isKept.calls a0 t131 _ ?side1 A4.out).mono ?_); (case side1 => (refine Glob.drawn HG.out ?_; repeat (first | exact Drawn0.refl _ | apply Drawn0.step))); rintro e w' ⟨rfl, ⟨nd, rfl⟩⟩))
  go_ret
  exact ⟨sq4, sq7⟩
 replace c3 := Bool.eq_false_iff.mpr c3
 subst c3
 replace H := (itF_ _ _).symm.trans H
 obtain rfl := Option.some.inj H
 go_enter Try.func29, Try.ntmps29
 go_wp2_with (first | ((with_reducible refine gate_callee (f := 15) rfl ?_); refine goesL_ (some 4) rfl rfl Try.func15 sq1 rfl #[.string a0] rfl sq56 ?_; (with_reducible refine (clause_named.calls a0 false _ A2.out).mono ?_); rintro e w' ⟨rfl, ⟨nd, rfl⟩⟩; refine ⟨_, rfl, ?_⟩))
 go_ret
 exact ⟨sq4, sq7⟩

end Go.Proofs.Ytaogejkmkalnlaa.PAll
