-- Written by a program of this session (wip/tools/print2.sh): functions as plain Lean, and that the machine's calls do what they say.
import Derived.Test.YtaogejkmkalnlaaPAllx0
import Derived.Test.YtaogejkmkalnlaaPAllx2
import Derived.Test.YtaogejkmkalnlaaPAllx6
import Derived.Test.YtaogejkmkalnlaaPAllx12
import Derived.Test.YtaogejkmkalnlaaPAllx13
import Derived.Test.YtaogejkmkalnlaaPAllx14
import Derived.Test.YtaogejkmkalnlaaPAllx15
namespace Go.Proofs.Ytaogejkmkalnlaa.PAll
open Go.RowKit Go.Proofs.YtaogejkmkalnlaaW.PrintWords Go.Proofs.YtaogejkmkalnlaaW.PrintLast Go.Proofs.YtaogejkmkalnlaaW.PrintMore
attribute [local go_sem] max2_int min2_int max_two min_two max_three min_three max_four min_four   -- for this text's walks alone
set_option linter.unusedVariables false
set_option linter.unusedSimpArgs false

/-! ### tontinelaw17_ClauseChecks: function 3 -/
mutual
def tontinelaw17_ClauseChecks.j0 : Nat → List (S43) → Int → List (S43) → Bool → ByteArray → List (S41) → ByteArray → List (S41) → Option (Bool)
 | 0, _, _, _, _, _, _, _, _ => none
 | k + 1, x1, x2, x8, x29, x296000, x296001, x305000, x305001 => if x29 = true then (some false) else ((clause_Parts.f k x8 x2).bind fun t309 => ((tontineref17_Parts.f k x1 x2).bind fun t312 => (if (t309.length : Int) = (t312.length : Int) then (tontinelaw17_ClauseChecks.l0 k x1 x8 t309 t312 0 x296000 x296001 x305000 x305001) else (some false))))
def tontinelaw17_ClauseChecks.l0 : Nat → List (S43) → List (S43) → List Int → List Int → Int → ByteArray → List (S41) → ByteArray → List (S41) → Option (Bool)
 | 0, _, _, _, _, _, _, _, _, _ => none
 | k + 1, x1, x8, x9, x10, x11, x296000, x296001, x305000, x305001 => if x11 < (x9.length : Int) then (if 0 ≤ x11 then (if x11 < (x10.length : Int) then (if (rd x9 x11) = (rd x10 x11) then (tontinelaw17_ClauseChecks.l0 k x1 x8 x9 x10 (wrap64 (x11 + 1)) x296000 x296001 x305000 x305001) else (some false)) else (none)) else (none)) else ((tontinebook_SameProduct.f k x305000 x305001 x296000 x296001).bind fun t317 => (if t317 = true then ((tontinebook_SameFormula.f k x8 x1).bind fun t318 => (some t318)) else (some false)))
end
def tontinelaw17_ClauseChecks.f (k : Nat) (a0_0 : ByteArray) (l0_1 : List (S41)) (l1 : List (S43)) (a2 : Int) : Option (Bool) := (tontinelaw17_names.f).bind fun t296 => (if t296 = true then ((tontinebook_CopyProduct.f k a0_0 l0_1).bind fun bt297 => ((tontinebook_LendFormula.f l1).bind fun t301 => ((clause_Check.f k bt297.1 bt297.2).bind fun t305 => ((tontineref17_Check.f k a0_0 l0_1).bind fun t306 => (if t305 = t306 then ((clause_CheckFormula.f k t301).bind fun t307 => ((tontineref17_CheckFormula.f k l1).bind fun t308 => (tontinelaw17_ClauseChecks.j0 k l1 a2 t301 (t307 != t308) a0_0 l0_1 bt297.1 bt297.2))) else (tontinelaw17_ClauseChecks.j0 k l1 a2 t301 true a0_0 l0_1 bt297.1 bt297.2)))))) else (some false))
theorem tontinelaw17_ClauseChecks.mono_l : ∀ k, (∀ y0 y1 y2 y3 y4 y5 y6 y7, LeO (tontinelaw17_ClauseChecks.j0 k y0 y1 y2 y3 y4 y5 y6 y7) (tontinelaw17_ClauseChecks.j0 (k + 1) y0 y1 y2 y3 y4 y5 y6 y7)) ∧ (∀ y0 y1 y2 y3 y4 y5 y6 y7 y8, LeO (tontinelaw17_ClauseChecks.l0 k y0 y1 y2 y3 y4 y5 y6 y7 y8) (tontinelaw17_ClauseChecks.l0 (k + 1) y0 y1 y2 y3 y4 y5 y6 y7 y8))
 | 0 => ⟨fun _ _ _ _ _ _ _ _ r h => by simp [tontinelaw17_ClauseChecks.j0] at h, fun _ _ _ _ _ _ _ _ _ r h => by simp [tontinelaw17_ClauseChecks.l0] at h⟩
 | k + 1 => by
  obtain ⟨ih0, ih1⟩ := tontinelaw17_ClauseChecks.mono_l k
  refine ⟨?_, ?_⟩
  ·intro y0 y1 y2 y3 y4 y5 y6 y7
   unfold tontinelaw17_ClauseChecks.j0
   exact sq140
  intro y0 y1 y2 y3 y4 y5 y6 y7 y8
  unfold tontinelaw17_ClauseChecks.l0
  exact sq140
theorem tontinelaw17_ClauseChecks.mono : ∀ a0 a1 a2 a3 k, LeO (tontinelaw17_ClauseChecks.f k a0 a1 a2 a3) (tontinelaw17_ClauseChecks.f (k + 1) a0 a1 a2 a3) := by
 intro a0 a1 a2 a3 k
 obtain ⟨ih0, ih1⟩ := tontinelaw17_ClauseChecks.mono_l k
 unfold tontinelaw17_ClauseChecks.f
 exact sq140
def tontinelaw17_ClauseChecks.T4 : Bool × List (List Nat × List Nat) := (true, [([], []), ([0], [0]), ([], []), ([2, 1], [2]), ([1, 3], [1, 3]), ([4, 3], [4]), ([5], [5]), ([6, 5, 5], [5, 6]), ([5], [5]), ([8, 7, 5], [5, 8]), ([7, 9, 5], [5, 7, 9]), ([5, 10], [5, 10])])
def tontinelaw17_ClauseChecks.B4 : List Nat := [0, 1, 0, 7, 15, 31, 63, 127, 63, 511, 1023, 2047]
theorem tontinelaw17_ClauseChecks.tab4 : rtab .any (opsOf Try.f3 4) = tontinelaw17_ClauseChecks.T4 := by kernel_rfl
theorem tontinelaw17_ClauseChecks.bits4 : waitsOk tontinelaw17_ClauseChecks.T4.2 tontinelaw17_ClauseChecks.B4 = true := by kernel_rfl
def tontinelaw17_ClauseChecks.T12 : Bool × List (List Nat × List Nat) := (true, [([], []), ([], []), ([0, 1], [0, 1]), ([2], [2]), ([], []), ([], []), ([4, 5], [4, 5]), ([6], [6]), ([3, 7], [3, 7])])
def tontinelaw17_ClauseChecks.B12 : List Nat := [0, 0, 3, 7, 0, 0, 48, 112, 255]
theorem tontinelaw17_ClauseChecks.tab12 : rtab .any (opsOf Try.f3 12) = tontinelaw17_ClauseChecks.T12 := by kernel_rfl
theorem tontinelaw17_ClauseChecks.bits12 : waitsOk tontinelaw17_ClauseChecks.T12.2 tontinelaw17_ClauseChecks.B12 = true := by kernel_rfl
set_option maxHeartbeats 8000000 in
set_option maxRecDepth 100000 in
theorem tontinelaw17_ClauseChecks.calls (k : Nat) (a0_0 : ByteArray) (A0_1 : Option Addr) (c0_1 : Nat) (l0_1 : List (S41)) (A1 : Option Addr) (c1 : Nat) (l1 : List (S43)) (a2 : Int) (r : Bool) (w : World) (hG : Glob w) (hr0_1 : Kd.C k41 w A0_1 l0_1.length l0_1) (hc0_1 : l0_1.length ≤ c0_1) (hr1 : Kd.C k43 w A1 l1.length l1) (hc1 : l1.length ≤ c1) (h : tontinelaw17_ClauseChecks.f k a0_0 l0_1 l1 a2 = some r) :
  Calls Try.prog 3 #[.agg #[.string a0_0, .slice A0_1 l0_1.length c0_1], .slice A1 l1.length c1, .int .i64 a2] w fun e w' => e = .returned (.bool r) ∧ Below w.heap.size w w' := by
 have hu24 := Try.underlying24
 have HR0_1 := Aside0.mk hr0_1
 have HC0_1 := Aside0.mk hc0_1
 clear hr0_1 hc0_1
 have HR1 := Aside0.mk hr1
 have HC1 := Aside0.mk hc1
 clear hr1 hc1
 have HB := Aside0.mk (Below.refl w.heap.size w)
 have HG := Aside0.mk hG
 clear hG
 have H : ((tontinelaw17_names.f).bind fun t296 => (if t296 = true then ((tontinebook_CopyProduct.f k a0_0 l0_1).bind fun bt297 => ((tontinebook_LendFormula.f l1).bind fun t301 => ((clause_Check.f k bt297.1 bt297.2).bind fun t305 => ((tontineref17_Check.f k a0_0 l0_1).bind fun t306 => (if t305 = t306 then ((clause_CheckFormula.f k t301).bind fun t307 => ((tontineref17_CheckFormula.f k l1).bind fun t308 => (tontinelaw17_ClauseChecks.j0 k l1 a2 t301 (t307 != t308) a0_0 l0_1 bt297.1 bt297.2))) else (tontinelaw17_ClauseChecks.j0 k l1 a2 t301 true a0_0 l0_1 bt297.1 bt297.2)))))) else (some false))) = some r := h
 clear h
 replace H := Option.bind_eq_some_iff.mp H
 obtain ⟨t296, A40, H⟩ := H
 replace H : (if t296 = true then ((tontinebook_CopyProduct.f k a0_0 l0_1).bind fun bt297 => ((tontinebook_LendFormula.f l1).bind fun t301 => ((clause_Check.f k bt297.1 bt297.2).bind fun t305 => ((tontineref17_Check.f k a0_0 l0_1).bind fun t306 => (if t305 = t306 then ((clause_CheckFormula.f k t301).bind fun t307 => ((tontineref17_CheckFormula.f k l1).bind fun t308 => (tontinelaw17_ClauseChecks.j0 k l1 a2 t301 (t307 != t308) a0_0 l0_1 bt297.1 bt297.2))) else (tontinelaw17_ClauseChecks.j0 k l1 a2 t301 true a0_0 l0_1 bt297.1 bt297.2)))))) else (some false)) = some r := H
 have A4 := Aside0.mk A40
 clear A40
 by_cases c5 : t296 = true
 ·subst c5
  replace H := (itT_ _ _).symm.trans H
  replace H := Option.bind_eq_some_iff.mp H
  obtain ⟨⟨t297, t298⟩, A60, H⟩ := H
  replace H : ((tontinebook_LendFormula.f l1).bind fun t301 => ((clause_Check.f k t297 t298).bind fun t305 => ((tontineref17_Check.f k a0_0 l0_1).bind fun t306 => (if t305 = t306 then ((clause_CheckFormula.f k t301).bind fun t307 => ((tontineref17_CheckFormula.f k l1).bind fun t308 => (tontinelaw17_ClauseChecks.j0 k l1 a2 t301 (t307 != t308) a0_0 l0_1 t297 t298))) else (tontinelaw17_ClauseChecks.j0 k l1 a2 t301 true a0_0 l0_1 t297 t298))))) = some r := H
  have A6 := Aside0.mk A60
  clear A60
  replace H := Option.bind_eq_some_iff.mp H
  obtain ⟨t301, A70, H⟩ := H
  replace H : ((clause_Check.f k t297 t298).bind fun t305 => ((tontineref17_Check.f k a0_0 l0_1).bind fun t306 => (if t305 = t306 then ((clause_CheckFormula.f k t301).bind fun t307 => ((tontineref17_CheckFormula.f k l1).bind fun t308 => (tontinelaw17_ClauseChecks.j0 k l1 a2 t301 (t307 != t308) a0_0 l0_1 t297 t298))) else (tontinelaw17_ClauseChecks.j0 k l1 a2 t301 true a0_0 l0_1 t297 t298)))) = some r := H
  have A7 := Aside0.mk A70
  clear A70
  have HC8 := Aside0.mk H
  clear H
  go_enter Try.func3, Try.ntmps3
  go_upto_region 4 with (first | ((with_reducible refine gate_dst (N := 3) rfl ?_); refine box_event ?hg (N := 3) ?hd (cs := #[.string a0_0, .slice A0_1 l0_1.length c0_1]) (t := 24) ?hr ?_; (case hd => rfl); (case hg => rfl); (case hr => first | (go_simp; done) | (go_simp; rfl)); intro gb295 hg w9 hbox hb; have n0_ := Aside0.mk (below_step sq55 hb); have n1_ := Aside0.mk (hbox); have n2_ := Aside0.mk ((by rw [hg]; exact (below_size sq55) : w.heap.size ≤ gb295)); have n3_ := Aside0.mk ((by rw [hg]; exact (below_size sq55) : w.heap.size ≤ gb295)); clear HB; have HB := n0_; have BK295 := n1_; have GW295 := n2_; have GE295 := n3_; clear n0_ n1_ n2_ n3_; clear hb hbox hg) | ((with_reducible refine gate_callee (f := 4) rfl ?_); refine goesL_ (some 12) rfl rfl Try.func4 sq1 rfl #[] rfl sq56 ?_; (with_reducible refine (tontinelaw17_names.calls  true _ A4.out).mono ?_); rintro e w' ⟨rfl, ⟨nd, rfl⟩⟩; refine ⟨_, rfl, ?_⟩; (try (rw [drewN_self w9]; generalize hq_ : World.drewN w9 _ = w9; have n0_ : Aside0 (w9.heap[gb295]? = some (.cells #[.string a0_0, .slice A0_1 l0_1.length c0_1] 24 (0, 0))) := ⟨by rw [← hq_]; exact sq53⟩; have n1_ : Aside0 (Below w.heap.size w w9) := ⟨by rw [← hq_]; exact sq74⟩; clear BK295 HB hq_; have BK295 := n0_; have HB := n1_; clear n0_ n1_)); have hcz10_0 : w9.cell? ⟨gb295, 0, none⟩ = some (.string a0_0) := (blk_cell BK295.out 0).trans rfl; have hcz10_1 : w9.cell? ⟨gb295, 1, none⟩ = some (.slice A0_1 l0_1.length c0_1) := (blk_cell BK295.out 1).trans rfl; have hfz10_0 := blk_frozen BK295.out 0; have hfz10_1 := blk_frozen BK295.out 1) | ((with_reducible refine gate_callee (f := 5) rfl ?_); refine goesL_ (some 15) rfl rfl Try.func5 sq1 rfl #[.agg #[.string a0_0, .slice A0_1 l0_1.length c0_1]] rfl sq56 ?_; (with_reducible refine (tontinebook_CopyProduct.calls k a0_0 _ _ l0_1 t297 t298 _ ?side1 ?side2 A6.out).mono ?_); (case side1 => repeat (first | exact (Kd.C_below HR0_1.out HB.out) | (with_reducible refine Kd.C_alloc ?_ _) | (with_reducible refine Kd.C_drewN ?_ _) | (with_reducible refine Kd.C_drew ?_))); (case side2 => exact HC0_1.out); rintro e w11 ⟨v299, rfl, ho0, hb⟩; refine ⟨_, rfl, ?_⟩; have n0_ := Aside0.mk (Kd.S_lower ho0 (below_size sq74)); have n1_ := Aside0.mk (blk_below (g := gb295) (o := .cells #[.string a0_0, .slice A0_1 l0_1.length c0_1] 24 (0, 0)) sq53 hb); have n2_ := Aside0.mk (below_step sq74 hb); clear BK295; clear HB; have HO300 := n0_; have BK295 := n1_; have HB := n2_; clear n0_ n1_ n2_; (try clear hb); (try clear hb2); (try clear hk); (try clear hi); (try clear ho0)) | ((with_reducible refine gate_callee (f := 6) rfl ?_); refine goesL_ (some 17) rfl rfl Try.func6 sq1 rfl #[.slice A1 l1.length c1] rfl sq56 ?_; (with_reducible refine (tontinebook_LendFormula.calls _ _ l1 t301 _ ?side1 ?side2 A7.out).mono ?_); (case side1 => repeat (first | exact (Kd.C_below HR1.out HB.out) | (with_reducible refine Kd.C_alloc ?_ _) | (with_reducible refine Kd.C_drewN ?_ _) | (with_reducible refine Kd.C_drew ?_))); (case side2 => exact HC1.out); rintro e w12 ⟨v302, rfl, ho0, hb⟩; refine ⟨_, rfl, ?_⟩; have n0_ := Aside0.mk (Kd.S_elder' sq29 (Kd.R_base ho0) hb); have n1_ := Aside0.mk (Kd.R_lower ho0 (below_size sq74)); have n2_ := Aside0.mk (blk_below (g := gb295) (o := .cells #[.string a0_0, .slice A0_1 l0_1.length c0_1] 24 (0, 0)) sq53 hb); have n3_ := Aside0.mk (below_step sq74 hb); clear HO300; clear BK295; clear HB; have HO300 := n0_; have HO303 := n1_; have BK295 := n2_; have HB := n3_; clear n0_ n1_ n2_ n3_; (try clear hb); (try clear hb2); (try clear hk); (try clear hi); (try clear ho0)) | ((with_reducible refine gate_dst (N := 7) rfl ?_); refine box_event ?hg (N := 7) ?hd (cs := #[.string (⟨#[]⟩ : ByteArray), .slice none 0 0]) (t := 24) ?hr ?_; (case hd => rfl); (case hg => rfl); (case hr => first | (go_simp; done) | (go_simp; rfl)); intro gb304 hg w13 hbox hb; have n0_ := Aside0.mk (Kd.S_below sq29 hb); have n1_ := Aside0.mk (Kd.R_below sq30 hb); have n2_ := Aside0.mk (blk_below (g := gb295) (o := .cells #[.string a0_0, .slice A0_1 l0_1.length c0_1] 24 (0, 0)) sq53 hb); have n3_ := Aside0.mk (below_step sq74 hb); have n4_ := Aside0.mk (hbox); have n5_ := Aside0.mk ((by rw [hg]; exact (below_size sq74) : w.heap.size ≤ gb304)); have n6_ := Aside0.mk ((by rw [hg]; exact (below_size sq74) : w.heap.size ≤ gb304)); have n7_ := Aside0.mk ((by rw [hg]; exact Nat.ne_of_lt (blk_lt (g := gb295) (o := .cells #[.string a0_0, .slice A0_1 l0_1.length c0_1] 24 (0, 0)) sq53) : gb295 ≠ gb304)); have n8_ := Aside0.mk ((by rw [hg]; exact Nat.ne_of_gt (blk_lt (g := gb295) (o := .cells #[.string a0_0, .slice A0_1 l0_1.length c0_1] 24 (0, 0)) sq53) : gb304 ≠ gb295)); clear HO300; clear HO303; clear BK295; clear HB; have HO300 := n0_; have HO303 := n1_; have BK295 := n2_; have HB := n3_; have BK304 := n4_; have GW304 := n5_; have GE304 := n6_; have NB295_304 := n7_; have NB304_295 := n8_; clear n0_ n1_ n2_ n3_ n4_ n5_ n6_ n7_ n8_; clear hb hbox hg; have hnb14 := NB304_295.out; have hnc14 := NB295_304.out; have hcz15_0 : w13.cell? ⟨gb304, 0, none⟩ = some (.string (⟨#[]⟩ : ByteArray)) := (blk_cell BK304.out 0).trans rfl; have hcz15_1 : w13.cell? ⟨gb304, 1, none⟩ = some (.slice none 0 0) := (blk_cell BK304.out 1).trans rfl; have hfz15_0 := blk_frozen BK304.out 0; have hfz15_1 := blk_frozen BK304.out 1; obtain ⟨Ao16, co16, eo16⟩ := Kd.S_slice HO300.out; subst eo16))
  (try simp only [Act.put, List.setIfInBounds_toArray, List.set_cons_zero, List.set_cons_succ])
  go_cut [29] (fun v29 wc => ∃ (kq : Nat) (x29_7 : Bool), v29 = .bool x29_7 ∧ Aside0 (tontinelaw17_ClauseChecks.j0 kq l1 a2 t301 x29_7 a0_0 l0_1 t297 t298 = some r) ∧ Aside0 (kq ≤ k) ∧ Aside0 (Kd.R k43 43 wc w.heap.size (fun _ => True) v302 t301) ∧ Aside0 (Kd.S k41 41 wc w.heap.size (fun k_ => some k_ ≠ (v302 : Value).ownBlock) (.slice Ao16 t298.length co16) t298) ∧ Aside0 (wc.heap[gb295]? = some (.cells #[.string a0_0, (.slice A0_1 l0_1.length c0_1)] 24 (0, 0))) ∧ Aside0 (wc.heap[gb304]? = some (.cells #[.string t297, (.slice Ao16 t298.length co16)] 24 (0, 0))) ∧ Aside0 (Below w.heap.size w wc))
  case first =>
   have H := HC8.out
   clear HC8
   replace H := Option.bind_eq_some_iff.mp H
   obtain ⟨t305, A170, H⟩ := H
   replace H : ((tontineref17_Check.f k a0_0 l0_1).bind fun t306 => (if t305 = t306 then ((clause_CheckFormula.f k t301).bind fun t307 => ((tontineref17_CheckFormula.f k l1).bind fun t308 => (tontinelaw17_ClauseChecks.j0 k l1 a2 t301 (t307 != t308) a0_0 l0_1 t297 t298))) else (tontinelaw17_ClauseChecks.j0 k l1 a2 t301 true a0_0 l0_1 t297 t298))) = some r := H
   have A17 := Aside0.mk A170
   clear A170
   replace H := Option.bind_eq_some_iff.mp H
   obtain ⟨t306, A180, H⟩ := H
   replace H : (if t305 = t306 then ((clause_CheckFormula.f k t301).bind fun t307 => ((tontineref17_CheckFormula.f k l1).bind fun t308 => (tontinelaw17_ClauseChecks.j0 k l1 a2 t301 (t307 != t308) a0_0 l0_1 t297 t298))) else (tontinelaw17_ClauseChecks.j0 k l1 a2 t301 true a0_0 l0_1 t297 t298)) = some r := H
   have A18 := Aside0.mk A180
   clear A180
   by_cases c19 : t305 = t306
   ·rw [if_pos c19] at H
    have c19b0 : (t305 == t306) = true := beq_iff_eq.mpr c19
    have c19b1 : (t305 != t306) = false := bne_eq_false_iff_eq.mpr c19
    clear c19
    (first | rw [c19b0] | (simp only [i64_w, i32_w]; rw [c19b0]) | skip)
    replace H := Option.bind_eq_some_iff.mp H
    obtain ⟨t307, A200, H⟩ := H
    replace H : ((tontineref17_CheckFormula.f k l1).bind fun t308 => (tontinelaw17_ClauseChecks.j0 k l1 a2 t301 (t307 != t308) a0_0 l0_1 t297 t298)) = some r := H
    have A20 := Aside0.mk A200
    clear A200
    replace H := Option.bind_eq_some_iff.mp H
    obtain ⟨t308, A210, H⟩ := H
    replace H : (tontinelaw17_ClauseChecks.j0 k l1 a2 t301 (t307 != t308) a0_0 l0_1 t297 t298) = some r := H
    have A21 := Aside0.mk A210
    clear A210
    have H' := Aside0.mk H
    clear H
    try go_wp2
    have n0_ : Aside0 (Kd.S k41 41 ((w13.setCell ⟨gb304, 0, none⟩ (.string t297)).setCell ⟨gb304, 1, none⟩ (.slice Ao16 t298.length co16)) w.heap.size (fun k_ => some k_ ≠ (v302 : Value).ownBlock) (.slice Ao16 t298.length co16) t298) := ⟨sq90⟩
    have n1_ : Aside0 (Kd.R k43 43 ((w13.setCell ⟨gb304, 0, none⟩ (.string t297)).setCell ⟨gb304, 1, none⟩ (.slice Ao16 t298.length co16)) w.heap.size (fun _ => True) v302 t301) := ⟨sq91⟩
    have n2_ : Aside0 (((w13.setCell ⟨gb304, 0, none⟩ (.string t297)).setCell ⟨gb304, 1, none⟩ (.slice Ao16 t298.length co16)).heap[gb295]? = some (.cells #[.string a0_0, .slice A0_1 l0_1.length c0_1] 24 (0, 0))) := ⟨sq94⟩
    have n3_ : Aside0 (((w13.setCell ⟨gb304, 0, none⟩ (.string t297)).setCell ⟨gb304, 1, none⟩ (.slice Ao16 t298.length co16)).heap[gb304]? = some (.cells #[.string t297, .slice Ao16 t298.length co16] 24 (0, 0))) := ⟨sq102⟩
    have n4_ : Aside0 (Below w.heap.size w ((w13.setCell ⟨gb304, 0, none⟩ (.string t297)).setCell ⟨gb304, 1, none⟩ (.slice Ao16 t298.length co16))) := ⟨sq79⟩
    (try clear HO300)
    (try clear HO303)
    (try clear BK295)
    (try clear BK304)
    (try clear HB)
    generalize ((w13.setCell ⟨gb304, 0, none⟩ (.string t297)).setCell ⟨gb304, 1, none⟩ (.slice Ao16 t298.length co16)) = w22 at n0_ n1_ n2_ n3_ n4_ ⊢
    have HO300 := n0_
    have HO303 := n1_
    have BK295 := n2_
    have BK304 := n3_
    have HB := n4_
    clear n0_ n1_ n2_ n3_ n4_
    have n0_ := Aside0.mk (Kd.S_drew HO300.out)
    have n1_ := Aside0.mk (Kd.R_drew HO303.out)
    have n2_ := Aside0.mk (blk_drew BK295.out)
    have n3_ := Aside0.mk (blk_drew BK304.out)
    have n4_ := Aside0.mk (below_drew1 HB.out)
    clear HO300; clear HO303; clear BK295; clear BK304; clear HB
    have HO300 := n0_
    have HO303 := n1_
    have BK295 := n2_
    have BK304 := n3_
    have HB := n4_
    clear n0_ n1_ n2_ n3_ n4_
    refine start_ (n := 12) (S := fun w' => w'.cell? ⟨gb304, 0, none⟩ = some (.string t297) ∧ w'.cell? ⟨gb304, 1, none⟩ = some (.slice Ao16 t298.length co16) ∧ w'.cell? ⟨gb295, 0, none⟩ = some (.string a0_0) ∧ w'.cell? ⟨gb295, 1, none⟩ = some (.slice A0_1 l0_1.length c0_1)) (ds := []) #[false, false, false, false, false, false, false, false, false, false, false, false] sq1 rfl rfl ⟨(blk_cell BK304.out 0).trans rfl, (blk_cell BK304.out 1).trans rfl, (blk_cell BK295.out 0).trans rfl, (blk_cell BK295.out 1).trans rfl⟩ (fun hHeld => ?_); refine with_tabW tontinelaw17_ClauseChecks.tab4 tontinelaw17_ClauseChecks.bits4 (fun HT_ HW_ => ?_)
    generalize w22.drew = w23 at HO300 HO303 BK295 BK304 HB hHeld ⊢
    refine take_ (i := 0) (N := some 18) (v := ?_) (a' := ?_) #[true, false, false, false, false, false, false, false, false, false, false, false] rfl rfl (take_ofW HT_.out HW_.out sq1) (fun _ _ _ h => h) (Or.inl ⟨by rfl, ?_⟩) hHeld ?_ ?_
    rotate_left
    ·rintro w' ⟨s0, s1, s2, s3⟩
     go_simp
     with_reducible rfl
    rotate_left
    ·simp only [Act.put, List.setIfInBounds_toArray, List.set_cons_zero, List.set_cons_succ, i64_w, i32_w]
     rfl
    refine take_ (i := 2) (N := some 20) (v := ?_) (a' := ?_) #[true, false, true, false, false, false, false, false, false, false, false, false] rfl rfl (take_ofW HT_.out HW_.out sq1) (fun _ _ _ h => h) (Or.inl ⟨by rfl, ?_⟩) hHeld ?_ ?_
    rotate_left
    ·rintro w' ⟨s0, s1, s2, s3⟩
     go_simp
     with_reducible rfl
    rotate_left
    ·simp only [Act.put, List.setIfInBounds_toArray, List.set_cons_zero, List.set_cons_succ, i64_w, i32_w]
     rfl
    refine one_ (i := 1) (N := some 19) #[true, true, true, false, false, false, false, false, false, false, false, false] rfl rfl (one_of HT_.out sq1) sq0 (fun K hK => ?_)
    refine goes_ Try.func7 sq1 rfl #[.agg #[.string t297, .slice Ao16 t298.length co16]] (by rfl) rfl rfl sq56 ?_
    with_reducible refine (clause_Check.calls k t297 _ _ t298 t305 _ ?side3 ?side1 ?side2 A17.out).mono ?_
    (case side1 => repeat (first | exact (Kd.S_reads' HO300.out).2.2 | (with_reducible refine Kd.C_alloc ?_ _) | (with_reducible refine Kd.C_drewN ?_ _) | (with_reducible refine Kd.C_drew ?_)))
    (case side2 => exact (Kd.S_reads' HO300.out).2.1)
    (case side3 => exact Glob.below HG.out sq79)
    rintro e w24 ⟨rfl, hb⟩
    refine ⟨_, rfl, ?_⟩
    have n0_ := Aside0.mk (Kd.S_below sq29 hb)
    have n1_ := Aside0.mk (Kd.R_below sq30 hb)
    have n2_ := Aside0.mk (blk_below (g := gb295) (o := .cells #[.string a0_0, .slice A0_1 l0_1.length c0_1] 24 (0, 0)) sq53 hb)
    have n3_ := Aside0.mk (blk_below (g := gb304) (o := .cells #[.string t297, .slice Ao16 t298.length co16] 24 (0, 0)) sq54 hb)
    have n4_ := Aside0.mk (below_step sq79 hb)
    clear HO300; clear HO303; clear BK295; clear BK304; clear HB
    have HO300 := n0_
    have HO303 := n1_
    have BK295 := n2_
    have BK304 := n3_
    have HB := n4_
    clear n0_ n1_ n2_ n3_ n4_
    (try clear hb)
    (try clear hb2)
    (try clear hk)
    (try clear hi)
    refine hK.out _ _ ⟨(blk_cell BK304.out 0).trans rfl, (blk_cell BK304.out 1).trans rfl, (blk_cell BK295.out 0).trans rfl, (blk_cell BK295.out 1).trans rfl⟩ (fun hHeld => ?_)
    clear hK K
    refine norm_ (a' := ?_) ?_ ?_
    rotate_left
    ·show Act.put _ (some 19) _ = _
     simp only [Act.put, List.setIfInBounds_toArray, List.set_cons_zero, List.set_cons_succ, i64_w, i32_w]
     rfl
    refine one_ (i := 3) (N := some 21) #[true, true, true, true, false, false, false, false, false, false, false, false] rfl rfl (one_of HT_.out sq1) sq0 (fun K hK => ?_)
    refine goes_ Try.func8 sq1 rfl #[.agg #[.string a0_0, .slice A0_1 l0_1.length c0_1]] (by rfl) rfl rfl sq56 ?_
    with_reducible refine (tontineref17_Check.calls k a0_0 _ _ l0_1 t306 _ ?side1 ?side2 A18.out).mono ?_
    (case side1 => repeat (first | exact (Kd.C_below HR0_1.out HB.out) | (with_reducible refine Kd.C_alloc ?_ _) | (with_reducible refine Kd.C_drewN ?_ _) | (with_reducible refine Kd.C_drew ?_)))
    (case side2 => exact HC0_1.out)
    rintro e w25 ⟨rfl, hb⟩
    refine ⟨_, rfl, ?_⟩
    have n0_ := Aside0.mk (Kd.S_below sq29 hb)
    have n1_ := Aside0.mk (Kd.R_below sq30 hb)
    have n2_ := Aside0.mk (blk_below (g := gb295) (o := .cells #[.string a0_0, .slice A0_1 l0_1.length c0_1] 24 (0, 0)) sq53 hb)
    have n3_ := Aside0.mk (blk_below (g := gb304) (o := .cells #[.string t297, .slice Ao16 t298.length co16] 24 (0, 0)) sq54 hb)
    have n4_ := Aside0.mk (below_step sq79 hb)
    clear HO300; clear HO303; clear BK295; clear BK304; clear HB
    have HO300 := n0_
    have HO303 := n1_
    have BK295 := n2_
    have BK304 := n3_
    have HB := n4_
    clear n0_ n1_ n2_ n3_ n4_
    (try clear hb)
    (try clear hb2)
    (try clear hk)
    (try clear hi)
    obtain ⟨Ao26, co26, eo26⟩ := Kd.R_slice HO303.out
    (first | subst eo26 | (injection eo26 with f1_ f2_ f3_; have f4_ := f1_.symm; have f5_ := f3_.symm; clear f1_ f2_ f3_; subst f4_; subst f5_))
    refine hK.out _ _ ⟨(blk_cell BK304.out 0).trans rfl, (blk_cell BK304.out 1).trans rfl, (blk_cell BK295.out 0).trans rfl, (blk_cell BK295.out 1).trans rfl⟩ (fun hHeld => ?_)
    clear hK K
    refine norm_ (a' := ?_) ?_ ?_
    rotate_left
    ·show Act.put _ (some 21) _ = _
     simp only [Act.put, List.setIfInBounds_toArray, List.set_cons_zero, List.set_cons_succ, i64_w, i32_w]
     rfl
    refine pure_ (i := 4) (N := some 22) (v := ?_) (a' := ?_) #[true, true, true, true, true, false, false, false, false, false, false, false] rfl rfl (any_of HT_.out sq1) (fun _ _ _ h => h) (Or.inl ⟨by rfl, ?_⟩) ?_ ?_
    rotate_left
    ·intro w'
     go_simp
     with_reducible rfl
    rotate_left
    ·simp only [Act.put, List.setIfInBounds_toArray, List.set_cons_zero, List.set_cons_succ, i64_w, i32_w]
     rfl
    refine pure_ (i := 5) (N := some 23) (v := ?_) (a' := ?_) #[true, true, true, true, true, true, false, false, false, false, false, false] rfl rfl (any_of HT_.out sq1) (fun _ _ _ h => h) (Or.inl ⟨by rfl, ?_⟩) ?_ ?_
    rotate_left
    ·intro w'
     go_simp
     with_reducible rfl
    rotate_left
    ·simp only [Act.put, List.setIfInBounds_toArray, List.set_cons_zero, List.set_cons_succ, i64_w, i32_w]
     rfl
    refine pure_ (i := 6) (N := some 24) (v := ?_) (a' := ?_) #[true, true, true, true, true, true, true, false, false, false, false, false] rfl rfl (any_of HT_.out sq1) (fun _ _ _ h => h) (Or.inl ⟨by rfl, ?_⟩) ?_ ?_
    rotate_left
    ·intro w'
     go_simp
     with_reducible rfl
    rotate_left
    ·simp only [Act.put, List.setIfInBounds_toArray, List.set_cons_zero, List.set_cons_succ, i64_w, i32_w]
     rfl
    refine pure_ (i := 8) (N := some 26) (v := ?_) (a' := ?_) #[true, true, true, true, true, true, true, false, true, false, false, false] rfl rfl (any_of HT_.out sq1) (fun _ _ _ h => h) (Or.inl ⟨by rfl, ?_⟩) ?_ ?_
    rotate_left
    ·intro w'
     go_simp
     with_reducible rfl
    rotate_left
    ·simp only [Act.put, List.setIfInBounds_toArray, List.set_cons_zero, List.set_cons_succ, i64_w, i32_w]
     rfl
    refine one_ (i := 7) (N := some 25) #[true, true, true, true, true, true, true, true, true, false, false, false] rfl rfl (one_of HT_.out sq1) sq0 (fun K hK => ?_)
    refine goes_ Try.func9 sq1 rfl #[.slice Ao26 t301.length co26] (by rfl) rfl rfl sq56 ?_
    with_reducible refine (clause_CheckFormula.calls k (fun k_ => some k_ = (.slice Ao26 t301.length co26 : Value).ownBlock) _ _ t301 t307 _ ?side2 ?side1 A20.out).mono ?_
    (case side1 => exact Kd.R_V (Kd.R_tight rfl (Kd.R_types (Kd.R_types (Kd.R_apart' (HO303.out) (Kd.S_typed HO300.out) sq0) BK295.out sq0) BK304.out sq0)))
    (case side2 => exact Glob.below HG.out sq79)
    rintro e w27 ⟨rfl, hb⟩
    refine ⟨_, rfl, ?_⟩
    have n0_ := Aside0.mk (Kd.S_below sq29 hb)
    have n1_ := Aside0.mk (Kd.R_below sq30 hb)
    have n2_ := Aside0.mk (blk_below (g := gb295) (o := .cells #[.string a0_0, .slice A0_1 l0_1.length c0_1] 24 (0, 0)) sq53 hb)
    have n3_ := Aside0.mk (blk_below (g := gb304) (o := .cells #[.string t297, .slice Ao16 t298.length co16] 24 (0, 0)) sq54 hb)
    have n4_ := Aside0.mk (below_step sq79 hb)
    clear HO300; clear HO303; clear BK295; clear BK304; clear HB
    have HO300 := n0_
    have HO303 := n1_
    have BK295 := n2_
    have BK304 := n3_
    have HB := n4_
    clear n0_ n1_ n2_ n3_ n4_
    (try clear hb)
    (try clear hb2)
    (try clear hk)
    (try clear hi)
    refine hK.out _ _ ⟨(blk_cell BK304.out 0).trans rfl, (blk_cell BK304.out 1).trans rfl, (blk_cell BK295.out 0).trans rfl, (blk_cell BK295.out 1).trans rfl⟩ (fun hHeld => ?_)
    clear hK K
    refine norm_ (a' := ?_) ?_ ?_
    rotate_left
    ·show Act.put _ (some 25) _ = _
     simp only [Act.put, List.setIfInBounds_toArray, List.set_cons_zero, List.set_cons_succ, i64_w, i32_w]
     rfl
    refine one_ (i := 9) (N := some 27) #[true, true, true, true, true, true, true, true, true, true, false, false] rfl rfl (one_of HT_.out sq1) sq0 (fun K hK => ?_)
    refine goes_ Try.func10 sq1 rfl #[.slice A1 l1.length c1] (by rfl) rfl rfl sq56 ?_
    with_reducible refine (tontineref17_CheckFormula.calls k _ _ l1 t308 _ ?side1 ?side2 A21.out).mono ?_
    (case side1 => repeat (first | exact (Kd.C_below HR1.out HB.out) | (with_reducible refine Kd.C_alloc ?_ _) | (with_reducible refine Kd.C_drewN ?_ _) | (with_reducible refine Kd.C_drew ?_)))
    (case side2 => exact HC1.out)
    rintro e w28 ⟨rfl, hb⟩
    refine ⟨_, rfl, ?_⟩
    have n0_ := Aside0.mk (Kd.S_below sq29 hb)
    have n1_ := Aside0.mk (Kd.R_below sq30 hb)
    have n2_ := Aside0.mk (blk_below (g := gb295) (o := .cells #[.string a0_0, .slice A0_1 l0_1.length c0_1] 24 (0, 0)) sq53 hb)
    have n3_ := Aside0.mk (blk_below (g := gb304) (o := .cells #[.string t297, .slice Ao16 t298.length co16] 24 (0, 0)) sq54 hb)
    have n4_ := Aside0.mk (below_step sq79 hb)
    clear HO300; clear HO303; clear BK295; clear BK304; clear HB
    have HO300 := n0_
    have HO303 := n1_
    have BK295 := n2_
    have BK304 := n3_
    have HB := n4_
    clear n0_ n1_ n2_ n3_ n4_
    (try clear hb)
    (try clear hb2)
    (try clear hk)
    (try clear hi)
    refine hK.out _ _ ⟨(blk_cell BK304.out 0).trans rfl, (blk_cell BK304.out 1).trans rfl, (blk_cell BK295.out 0).trans rfl, (blk_cell BK295.out 1).trans rfl⟩ (fun hHeld => ?_)
    clear hK K
    refine norm_ (a' := ?_) ?_ ?_
    rotate_left
    ·show Act.put _ (some 27) _ = _
     simp only [Act.put, List.setIfInBounds_toArray, List.set_cons_zero, List.set_cons_succ, i64_w, i32_w]
     rfl
    refine pure_ (i := 10) (N := some 28) (v := ?_) (a' := ?_) #[true, true, true, true, true, true, true, true, true, true, true, false] rfl rfl (any_of HT_.out sq1) (fun _ _ _ h => h) (Or.inl ⟨by rfl, ?_⟩) ?_ ?_
    rotate_left
    ·intro w'
     go_simp
     with_reducible rfl
    rotate_left
    ·simp only [Act.put, List.setIfInBounds_toArray, List.set_cons_zero, List.set_cons_succ, i64_w, i32_w]
     rfl
    refine pure_ (i := 11) (N := some 29) (v := ?_) (a' := ?_) #[true, true, true, true, true, true, true, true, true, true, true, true] rfl rfl (any_of HT_.out sq1) (fun _ _ _ h => h) (Or.inl ⟨by rfl, ?_⟩) ?_ ?_
    rotate_left
    ·intro w'
     go_simp
     with_reducible rfl
    rotate_left
    ·simp only [Act.put, List.setIfInBounds_toArray, List.set_cons_zero, List.set_cons_succ, i64_w, i32_w]
     rfl
    refine done_ (done_of HT_.out sq1) ?_
    try go_wp2
    go_meet
    case rel => exact ⟨_, ((t307 != t308)), sq4, H', ⟨sq2⟩, ⟨sq30⟩, ⟨sq29⟩, ⟨sq53⟩, ⟨sq54⟩, ⟨sq79⟩⟩
   rw [if_neg c19] at H
   have c19b0 : (t305 == t306) = false := beq_eq_false_iff_ne.mpr c19
   have c19b1 : (t305 != t306) = true := bne_iff_ne.mpr c19
   (first | rw [c19b0] | (simp only [i64_w, i32_w]; rw [c19b0]) | skip)
   have H' := Aside0.mk H
   clear H
   try go_wp2
   have n0_ : Aside0 (Kd.S k41 41 ((w13.setCell ⟨gb304, 0, none⟩ (.string t297)).setCell ⟨gb304, 1, none⟩ (.slice Ao16 t298.length co16)) w.heap.size (fun k_ => some k_ ≠ (v302 : Value).ownBlock) (.slice Ao16 t298.length co16) t298) := ⟨sq90⟩
   have n1_ : Aside0 (Kd.R k43 43 ((w13.setCell ⟨gb304, 0, none⟩ (.string t297)).setCell ⟨gb304, 1, none⟩ (.slice Ao16 t298.length co16)) w.heap.size (fun _ => True) v302 t301) := ⟨sq91⟩
   have n2_ : Aside0 (((w13.setCell ⟨gb304, 0, none⟩ (.string t297)).setCell ⟨gb304, 1, none⟩ (.slice Ao16 t298.length co16)).heap[gb295]? = some (.cells #[.string a0_0, .slice A0_1 l0_1.length c0_1] 24 (0, 0))) := ⟨sq94⟩
   have n3_ : Aside0 (((w13.setCell ⟨gb304, 0, none⟩ (.string t297)).setCell ⟨gb304, 1, none⟩ (.slice Ao16 t298.length co16)).heap[gb304]? = some (.cells #[.string t297, .slice Ao16 t298.length co16] 24 (0, 0))) := ⟨sq102⟩
   have n4_ : Aside0 (Below w.heap.size w ((w13.setCell ⟨gb304, 0, none⟩ (.string t297)).setCell ⟨gb304, 1, none⟩ (.slice Ao16 t298.length co16))) := ⟨sq79⟩
   (try clear HO300)
   (try clear HO303)
   (try clear BK295)
   (try clear BK304)
   (try clear HB)
   generalize ((w13.setCell ⟨gb304, 0, none⟩ (.string t297)).setCell ⟨gb304, 1, none⟩ (.slice Ao16 t298.length co16)) = w29 at n0_ n1_ n2_ n3_ n4_ ⊢
   have HO300 := n0_
   have HO303 := n1_
   have BK295 := n2_
   have BK304 := n3_
   have HB := n4_
   clear n0_ n1_ n2_ n3_ n4_
   have n0_ := Aside0.mk (Kd.S_drew HO300.out)
   have n1_ := Aside0.mk (Kd.R_drew HO303.out)
   have n2_ := Aside0.mk (blk_drew BK295.out)
   have n3_ := Aside0.mk (blk_drew BK304.out)
   have n4_ := Aside0.mk (below_drew1 HB.out)
   clear HO300; clear HO303; clear BK295; clear BK304; clear HB
   have HO300 := n0_
   have HO303 := n1_
   have BK295 := n2_
   have BK304 := n3_
   have HB := n4_
   clear n0_ n1_ n2_ n3_ n4_
   refine start_ (n := 12) (S := fun w' => w'.cell? ⟨gb304, 0, none⟩ = some (.string t297) ∧ w'.cell? ⟨gb304, 1, none⟩ = some (.slice Ao16 t298.length co16) ∧ w'.cell? ⟨gb295, 0, none⟩ = some (.string a0_0) ∧ w'.cell? ⟨gb295, 1, none⟩ = some (.slice A0_1 l0_1.length c0_1)) (ds := []) #[false, false, false, false, false, false, false, false, false, false, false, false] sq1 rfl rfl ⟨(blk_cell BK304.out 0).trans rfl, (blk_cell BK304.out 1).trans rfl, (blk_cell BK295.out 0).trans rfl, (blk_cell BK295.out 1).trans rfl⟩ (fun hHeld => ?_); refine with_tabW tontinelaw17_ClauseChecks.tab4 tontinelaw17_ClauseChecks.bits4 (fun HT_ HW_ => ?_)
   generalize w29.drew = w30 at HO300 HO303 BK295 BK304 HB hHeld ⊢
   refine take_ (i := 0) (N := some 18) (v := ?_) (a' := ?_) #[true, false, false, false, false, false, false, false, false, false, false, false] rfl rfl (take_ofW HT_.out HW_.out sq1) (fun _ _ _ h => h) (Or.inl ⟨by rfl, ?_⟩) hHeld ?_ ?_
   rotate_left
   ·rintro w' ⟨s0, s1, s2, s3⟩
    go_simp
    with_reducible rfl
   rotate_left
   ·simp only [Act.put, List.setIfInBounds_toArray, List.set_cons_zero, List.set_cons_succ, i64_w, i32_w]
    rfl
   refine take_ (i := 2) (N := some 20) (v := ?_) (a' := ?_) #[true, false, true, false, false, false, false, false, false, false, false, false] rfl rfl (take_ofW HT_.out HW_.out sq1) (fun _ _ _ h => h) (Or.inl ⟨by rfl, ?_⟩) hHeld ?_ ?_
   rotate_left
   ·rintro w' ⟨s0, s1, s2, s3⟩
    go_simp
    with_reducible rfl
   rotate_left
   ·simp only [Act.put, List.setIfInBounds_toArray, List.set_cons_zero, List.set_cons_succ, i64_w, i32_w]
    rfl
   refine one_ (i := 1) (N := some 19) #[true, true, true, false, false, false, false, false, false, false, false, false] rfl rfl (one_of HT_.out sq1) sq0 (fun K hK => ?_)
   refine goes_ Try.func7 sq1 rfl #[.agg #[.string t297, .slice Ao16 t298.length co16]] (by rfl) rfl rfl sq56 ?_
   with_reducible refine (clause_Check.calls k t297 _ _ t298 t305 _ ?side3 ?side1 ?side2 A17.out).mono ?_
   (case side1 => repeat (first | exact (Kd.S_reads' HO300.out).2.2 | (with_reducible refine Kd.C_alloc ?_ _) | (with_reducible refine Kd.C_drewN ?_ _) | (with_reducible refine Kd.C_drew ?_)))
   (case side2 => exact (Kd.S_reads' HO300.out).2.1)
   (case side3 => exact Glob.below HG.out sq79)
   rintro e w31 ⟨rfl, hb⟩
   refine ⟨_, rfl, ?_⟩
   have n0_ := Aside0.mk (Kd.S_below sq29 hb)
   have n1_ := Aside0.mk (Kd.R_below sq30 hb)
   have n2_ := Aside0.mk (blk_below (g := gb295) (o := .cells #[.string a0_0, .slice A0_1 l0_1.length c0_1] 24 (0, 0)) sq53 hb)
   have n3_ := Aside0.mk (blk_below (g := gb304) (o := .cells #[.string t297, .slice Ao16 t298.length co16] 24 (0, 0)) sq54 hb)
   have n4_ := Aside0.mk (below_step sq79 hb)
   clear HO300; clear HO303; clear BK295; clear BK304; clear HB
   have HO300 := n0_
   have HO303 := n1_
   have BK295 := n2_
   have BK304 := n3_
   have HB := n4_
   clear n0_ n1_ n2_ n3_ n4_
   (try clear hb)
   (try clear hb2)
   (try clear hk)
   (try clear hi)
   refine hK.out _ _ ⟨(blk_cell BK304.out 0).trans rfl, (blk_cell BK304.out 1).trans rfl, (blk_cell BK295.out 0).trans rfl, (blk_cell BK295.out 1).trans rfl⟩ (fun hHeld => ?_)
   clear hK K
   refine norm_ (a' := ?_) ?_ ?_
   rotate_left
   ·show Act.put _ (some 19) _ = _
    simp only [Act.put, List.setIfInBounds_toArray, List.set_cons_zero, List.set_cons_succ, i64_w, i32_w]
    rfl
   refine one_ (i := 3) (N := some 21) #[true, true, true, true, false, false, false, false, false, false, false, false] rfl rfl (one_of HT_.out sq1) sq0 (fun K hK => ?_)
   refine goes_ Try.func8 sq1 rfl #[.agg #[.string a0_0, .slice A0_1 l0_1.length c0_1]] (by rfl) rfl rfl sq56 ?_
   with_reducible refine (tontineref17_Check.calls k a0_0 _ _ l0_1 t306 _ ?side1 ?side2 A18.out).mono ?_
   (case side1 => repeat (first | exact (Kd.C_below HR0_1.out HB.out) | (with_reducible refine Kd.C_alloc ?_ _) | (with_reducible refine Kd.C_drewN ?_ _) | (with_reducible refine Kd.C_drew ?_)))
   (case side2 => exact HC0_1.out)
   rintro e w32 ⟨rfl, hb⟩
   refine ⟨_, rfl, ?_⟩
   have n0_ := Aside0.mk (Kd.S_below sq29 hb)
   have n1_ := Aside0.mk (Kd.R_below sq30 hb)
   have n2_ := Aside0.mk (blk_below (g := gb295) (o := .cells #[.string a0_0, .slice A0_1 l0_1.length c0_1] 24 (0, 0)) sq53 hb)
   have n3_ := Aside0.mk (blk_below (g := gb304) (o := .cells #[.string t297, .slice Ao16 t298.length co16] 24 (0, 0)) sq54 hb)
   have n4_ := Aside0.mk (below_step sq79 hb)
   clear HO300; clear HO303; clear BK295; clear BK304; clear HB
   have HO300 := n0_
   have HO303 := n1_
   have BK295 := n2_
   have BK304 := n3_
   have HB := n4_
   clear n0_ n1_ n2_ n3_ n4_
   (try clear hb)
   (try clear hb2)
   (try clear hk)
   (try clear hi)
   refine hK.out _ _ ⟨(blk_cell BK304.out 0).trans rfl, (blk_cell BK304.out 1).trans rfl, (blk_cell BK295.out 0).trans rfl, (blk_cell BK295.out 1).trans rfl⟩ (fun hHeld => ?_)
   clear hK K
   refine norm_ (a' := ?_) ?_ ?_
   rotate_left
   ·show Act.put _ (some 21) _ = _
    simp only [Act.put, List.setIfInBounds_toArray, List.set_cons_zero, List.set_cons_succ, i64_w, i32_w]
    rfl
   refine pure_ (i := 4) (N := some 22) (v := ?_) (a' := ?_) #[true, true, true, true, true, false, false, false, false, false, false, false] rfl rfl (any_of HT_.out sq1) (fun _ _ _ h => h) (Or.inl ⟨by rfl, ?_⟩) ?_ ?_
   rotate_left
   ·intro w'
    go_simp
    with_reducible rfl
   rotate_left
   ·simp only [Act.put, List.setIfInBounds_toArray, List.set_cons_zero, List.set_cons_succ, i64_w, i32_w]
    rfl
   refine pure_ (i := 5) (N := some 23) (v := ?_) (a' := ?_) #[true, true, true, true, true, true, false, false, false, false, false, false] rfl rfl (any_of HT_.out sq1) (fun _ _ _ h => h) (Or.inl ⟨by rfl, ?_⟩) ?_ ?_
   rotate_left
   ·intro w'
    go_simp
    with_reducible rfl
   rotate_left
   ·simp only [Act.put, List.setIfInBounds_toArray, List.set_cons_zero, List.set_cons_succ, i64_w, i32_w]
    rfl
   refine pure_ (i := 6) (N := some 24) (v := undef) (a' := ?_) #[true, true, true, true, true, true, true, false, false, false, false, false] rfl rfl (any_of HT_.out sq1) (fun _ _ _ h => h) (Or.inr ⟨by rfl, rfl⟩) ?_ ?_
   rotate_left
   ·simp only [Act.put, List.setIfInBounds_toArray, List.set_cons_zero, List.set_cons_succ, i64_w, i32_w]
    rfl
   refine pure_ (i := 7) (N := some 25) (v := undef) (a' := ?_) #[true, true, true, true, true, true, true, true, false, false, false, false] rfl rfl (any_of HT_.out sq1) (fun _ _ _ h => h) (Or.inr ⟨by rfl, rfl⟩) ?_ ?_
   rotate_left
   ·simp only [Act.put, List.setIfInBounds_toArray, List.set_cons_zero, List.set_cons_succ, i64_w, i32_w]
    rfl
   refine pure_ (i := 8) (N := some 26) (v := undef) (a' := ?_) #[true, true, true, true, true, true, true, true, true, false, false, false] rfl rfl (any_of HT_.out sq1) (fun _ _ _ h => h) (Or.inr ⟨by rfl, rfl⟩) ?_ ?_
   rotate_left
   ·simp only [Act.put, List.setIfInBounds_toArray, List.set_cons_zero, List.set_cons_succ, i64_w, i32_w]
    rfl
   refine pure_ (i := 9) (N := some 27) (v := undef) (a' := ?_) #[true, true, true, true, true, true, true, true, true, true, false, false] rfl rfl (any_of HT_.out sq1) (fun _ _ _ h => h) (Or.inr ⟨by rfl, rfl⟩) ?_ ?_
   rotate_left
   ·simp only [Act.put, List.setIfInBounds_toArray, List.set_cons_zero, List.set_cons_succ, i64_w, i32_w]
    rfl
   refine pure_ (i := 10) (N := some 28) (v := undef) (a' := ?_) #[true, true, true, true, true, true, true, true, true, true, true, false] rfl rfl (any_of HT_.out sq1) (fun _ _ _ h => h) (Or.inr ⟨by rfl, rfl⟩) ?_ ?_
   rotate_left
   ·simp only [Act.put, List.setIfInBounds_toArray, List.set_cons_zero, List.set_cons_succ, i64_w, i32_w]
    rfl
   refine pure_ (i := 11) (N := some 29) (v := ?_) (a' := ?_) #[true, true, true, true, true, true, true, true, true, true, true, true] rfl rfl (any_of HT_.out sq1) (fun _ _ _ h => h) (Or.inl ⟨by rfl, ?_⟩) ?_ ?_
   rotate_left
   ·intro w'
    go_simp
    with_reducible rfl
   rotate_left
   ·simp only [Act.put, List.setIfInBounds_toArray, List.set_cons_zero, List.set_cons_succ, i64_w, i32_w]
    rfl
   refine done_ (done_of HT_.out sq1) ?_
   try go_wp2
   go_meet
   case rel => exact ⟨_, (true), sq4, H', ⟨sq2⟩, ⟨sq30⟩, ⟨sq29⟩, ⟨sq53⟩, ⟨sq54⟩, ⟨sq79⟩⟩
  case rest =>
   clear HC8; try clear c1; try clear p2; try clear c3; try clear c4; try clear c5; try clear c6; try clear c7; try clear c8; try clear c9; try clear c10; try clear c14; try clear c19; try clear c19b0; try clear c19b1; try clear hcz10_0; try clear hcz10_1; try clear hcz15_0; try clear hcz15_1; try clear hfz10_0; try clear hfz10_1; try clear hfz15_0; try clear hfz15_1
   obtain ⟨kq, x29_7, rfl, HA, HJ7, HO_8, HO_305001, BK295, BK304, HB⟩ := hcut
   cases kq with
   | zero => exact absurd HA.out (by simp [tontinelaw17_ClauseChecks.j0])
   | succ kj7 =>
    have H := HA.out
    clear HA
    simp only [tontinelaw17_ClauseChecks.j0] at H
    by_cases c33 : x29_7 = true
    ·subst c33
     replace H := (itT_ _ _).symm.trans H
     obtain rfl := Option.some.inj H
     go_wp2
     go_ret
     exact ⟨sq23, sq79⟩
    replace c33 := Bool.eq_false_iff.mpr c33
    subst c33
    replace H := (itF_ _ _).symm.trans H
    replace H := Option.bind_eq_some_iff.mp H
    obtain ⟨t309, A340, H⟩ := H
    replace H : ((tontineref17_Parts.f kj7 l1 a2).bind fun t312 => (if (t309.length : Int) = (t312.length : Int) then (tontinelaw17_ClauseChecks.l0 kj7 l1 t301 t309 t312 0 a0_0 l0_1 t297 t298) else (some false))) = some r := H
    have A34 := Aside0.mk A340
    clear A340
    replace H := Option.bind_eq_some_iff.mp H
    obtain ⟨t312, A350, H⟩ := H
    replace H : (if (t309.length : Int) = (t312.length : Int) then (tontinelaw17_ClauseChecks.l0 kj7 l1 t301 t309 t312 0 a0_0 l0_1 t297 t298) else (some false)) = some r := H
    have A35 := Aside0.mk A350
    clear A350
    by_cases c36 : (t309.length : Int) = (t312.length : Int)
    ·rw [if_pos c36] at H
     have c36b0 : ((t309.length : Int) == (t312.length : Int)) = true := beq_iff_eq.mpr c36
     have c36b1 : ((t309.length : Int) != (t312.length : Int)) = false := bne_eq_false_iff_eq.mpr c36
     have c36b2 : (t309.length == t312.length) = true := by first | simpa using c36 | (simp at c36 ⊢; omega)
     clear c36
     have H' := Aside0.mk H
     clear H
     obtain ⟨Ao37, co37, eo37⟩ := Kd.R_slice HO_8.out
     subst eo37
     go_wp2_with (first | ((with_reducible refine gate_callee (f := 11) rfl ?_); refine goesL_ (some 32) rfl rfl Try.func11 sq1 rfl #[.slice Ao37 t301.length co37, .int .i64 a2] rfl sq56 ?_; (with_reducible refine (clause_Parts.calls kj7 _ _ t301 a2 t309 _ ?side3 ?side1 ?side2 A34.out).mono ?_); (case side1 => repeat (first | exact (Kd.R_reads' HO_8.out).2.2 | (with_reducible refine Kd.C_alloc ?_ _) | (with_reducible refine Kd.C_drewN ?_ _) | (with_reducible refine Kd.C_drew ?_))); (case side2 => exact (Kd.R_reads' HO_8.out).2.1); (case side3 => exact Glob.below HG.out sq79); rintro e w38 ⟨v310, rfl, ho0, hb⟩; refine ⟨_, rfl, ?_⟩; have n0_ := Aside0.mk (Kd.R_below sq26 hb); have n1_ := Aside0.mk (Kd.S_below sq36 hb); have n2_ := Aside0.mk (Kd.R_lower ho0 (below_size sq79)); have n3_ := Aside0.mk (blk_below (g := gb295) (o := .cells #[.string a0_0, .slice A0_1 l0_1.length c0_1] 24 (0, 0)) sq53 hb); have n4_ := Aside0.mk (blk_below (g := gb304) (o := .cells #[.string t297, .slice Ao16 t298.length co16] 24 (0, 0)) sq54 hb); have n5_ := Aside0.mk (below_step sq79 hb); clear HO_8; clear HO_305001; clear BK295; clear BK304; clear HB; have HO_8 := n0_; have HO_305001 := n1_; have HO311 := n2_; have BK295 := n3_; have BK304 := n4_; have HB := n5_; clear n0_ n1_ n2_ n3_ n4_ n5_; (try clear hb); (try clear hb2); (try clear hk); (try clear hi); (try clear ho0)) | ((with_reducible refine gate_callee (f := 12) rfl ?_); refine goesL_ (some 35) rfl rfl Try.func12 sq1 rfl #[.slice A1 l1.length c1, .int .i64 a2] rfl sq56 ?_; (with_reducible refine (tontineref17_Parts.calls kj7 _ _ l1 a2 t312 _ ?side1 ?side2 A35.out).mono ?_); (case side1 => repeat (first | exact (Kd.C_below HR1.out HB.out) | (with_reducible refine Kd.C_alloc ?_ _) | (with_reducible refine Kd.C_drewN ?_ _) | (with_reducible refine Kd.C_drew ?_))); (case side2 => exact HC1.out); rintro e w39 ⟨v313, rfl, ho0, hb⟩; refine ⟨_, rfl, ?_⟩; have n0_ := Aside0.mk (Kd.R_below sq26 hb); have n1_ := Aside0.mk (Kd.S_below sq36 hb); have n2_ := Aside0.mk (Kd.R_elder' sq31 (Kd.R_base ho0) hb); have n3_ := Aside0.mk (Kd.R_lower (Kd.R_new' ho0 (Kd.R_lt sq31)) (below_size sq79)); have n4_ := Aside0.mk (blk_below (g := gb295) (o := .cells #[.string a0_0, .slice A0_1 l0_1.length c0_1] 24 (0, 0)) sq53 hb); have n5_ := Aside0.mk (blk_below (g := gb304) (o := .cells #[.string t297, .slice Ao16 t298.length co16] 24 (0, 0)) sq54 hb); have n6_ := Aside0.mk (below_step sq79 hb); clear HO_8; clear HO_305001; clear HO311; clear BK295; clear BK304; clear HB; have HO_8 := n0_; have HO_305001 := n1_; have HO311 := n2_; have HO314 := n3_; have BK295 := n4_; have BK304 := n5_; have HB := n6_; clear n0_ n1_ n2_ n3_ n4_ n5_ n6_; (try clear hb); (try clear hb2); (try clear hk); (try clear hi); (try clear ho0); obtain ⟨Ao40, co40, eo40⟩ := Kd.R_slice HO311.out; subst eo40; obtain ⟨Ao41, co41, eo41⟩ := Kd.R_slice HO314.out; subst eo41))
     go_loopg [11] kj7 (fun kq v11 w' => ∃ (x11_2 : Int), v11 = .int .i64 x11_2 ∧ Aside0 (tontinelaw17_ClauseChecks.l0 kq l1 t301 t309 t312 x11_2 a0_0 l0_1 t297 t298 = some r) ∧ Aside0 (kq ≤ kj7) ∧ Aside0 (Kd.R k43 43 w' w.heap.size (fun _ => True) (.slice Ao37 t301.length co37) t301) ∧ Aside0 (Kd.R (Kd.int .i64) 3 w' w.heap.size (fun k_ => some k_ ≠ ((.slice Ao41 t312.length co41) : Value).ownBlock) (.slice Ao40 t309.length co40) t309) ∧ Aside0 (Kd.R (Kd.int .i64) 3 w' w.heap.size (fun k_ => some k_ ≠ ((.slice Ao40 t309.length co40) : Value).ownBlock) (.slice Ao41 t312.length co41) t312) ∧ Aside0 (Kd.S k41 41 w' w.heap.size (fun k_ => some k_ ≠ ((.slice Ao37 t301.length co37) : Value).ownBlock) (.slice Ao16 t298.length co16) t298) ∧ Aside0 (w'.heap[gb295]? = some (.cells #[.string a0_0, (.slice A0_1 l0_1.length c0_1)] 24 (0, 0))) ∧ Aside0 (w'.heap[gb304]? = some (.cells #[.string t297, (.slice Ao16 t298.length co16)] 24 (0, 0))) ∧ Aside0 (Below w.heap.size w w'))
     case atStart => exact ⟨(0), sq4, H', ⟨Nat.le_refl _⟩, ⟨sq26⟩, ⟨by (with_reducible repeat (first | apply Kd.R_alloc | apply Kd.R_drewN | apply Kd.R_drew)); exact Kd.R_mono HO311.out (fun _ hk => hk.2)⟩, ⟨by (with_reducible repeat (first | apply Kd.R_alloc | apply Kd.R_drewN | apply Kd.R_drew)); exact Kd.R_mono HO314.out (fun _ hk => hk.2)⟩, ⟨sq36⟩, ⟨sq53⟩, ⟨sq54⟩, ⟨sq79⟩⟩
     case round =>
      clear H'
      try clear c1; try clear p2; try clear c3; try clear c4; try clear c5; try clear c6; try clear c7; try clear c8; try clear c9; try clear c10; try clear c11; try clear c12; try clear c14; try clear c19; try clear c19b0; try clear c19b1; try clear c33; try clear c36; try clear c36b0; try clear c36b1; try clear c36b2; try clear hcz10_0; try clear hcz10_1; try clear hcz15_0; try clear hcz15_1; try clear hfz10_0; try clear hfz10_1; try clear hfz15_0; try clear hfz15_1; try clear p2
      obtain ⟨x11_2, rfl, HA, HK2, HO_8, HO_9, HO_10, HO_305001, BK295, BK304, HB⟩ := hrel
      cases gk with
      | zero => exact absurd HA.out (by simp [tontinelaw17_ClauseChecks.l0])
      | succ k2 =>
       have H := HA.out
       clear HA
       simp only [tontinelaw17_ClauseChecks.l0] at H
       by_cases c42 : x11_2 < (t309.length : Int)
       ·rw [if_pos c42] at H
        have c42b0 : decide (x11_2 < (t309.length : Int)) = true := decide_eq_true c42; clear c42
        by_cases c43 : 0 ≤ x11_2
        ·rw [if_pos c43] at H
         have c43b0 : decide (0 ≤ x11_2) = true := decide_eq_true c43; clear c43
         by_cases c44 : x11_2 < (t312.length : Int)
         ·rw [if_pos c44] at H
          have c44b0 : decide (x11_2 < (t312.length : Int)) = true := decide_eq_true c44; clear c44
          by_cases c45 : (rd t309 x11_2) = (rd t312 x11_2)
          ·rw [if_pos c45] at H
           have c45b0 : ((rd t309 x11_2) == (rd t312 x11_2)) = true := beq_iff_eq.mpr c45
           have c45b1 : ((rd t309 x11_2) != (rd t312 x11_2)) = false := bne_eq_false_iff_eq.mpr c45
           clear c45
           have H' := Aside0.mk H
           clear H
           try go_wp2
           have n0_ := Aside0.mk (Kd.R_drew HO_8.out)
           have n1_ := Aside0.mk (Kd.R_drew HO_9.out)
           have n2_ := Aside0.mk (Kd.R_drew HO_10.out)
           have n3_ := Aside0.mk (Kd.S_drew HO_305001.out)
           have n4_ := Aside0.mk (blk_drew BK295.out)
           have n5_ := Aside0.mk (blk_drew BK304.out)
           have n6_ := Aside0.mk (below_drew1 HB.out)
           clear HO_8; clear HO_9; clear HO_10; clear HO_305001; clear BK295; clear BK304; clear HB
           have HO_8 := n0_
           have HO_9 := n1_
           have HO_10 := n2_
           have HO_305001 := n3_
           have BK295 := n4_
           have BK304 := n5_
           have HB := n6_
           clear n0_ n1_ n2_ n3_ n4_ n5_ n6_
           have p315 : 0 ≤ (x11_2 : Int) := of_decide_eq_true sq5
           have q315 : x11_2 < (t309.length : Int) := of_decide_eq_true sq5
           obtain ⟨ad315, e315, hx315_0⟩ := Kd.at_int (Kd.R_reads' HO_9.out).2.2 x11_2 p315 q315
           cases e315
           replace p315 := eq_true p315
           replace q315 := eq_true q315
           have p316 : 0 ≤ (x11_2 : Int) := of_decide_eq_true sq5
           have q316 : x11_2 < (t312.length : Int) := of_decide_eq_true sq5
           obtain ⟨ad316, e316, hx316_0⟩ := Kd.at_int (Kd.R_reads' HO_10.out).2.2 x11_2 p316 q316
           cases e316
           replace p316 := eq_true p316
           replace q316 := eq_true q316
           refine start_ (n := 9) (S := fun w' => w'.cell? (ad315.add (x11_2).toNat) = some (.int .i64 (rd t309 x11_2)) ∧ w'.cell? (ad316.add (x11_2).toNat) = some (.int .i64 (rd t312 x11_2))) (ds := []) #[false, false, false, false, false, false, false, false, false] sq1 rfl rfl ⟨hx315_0, hx316_0⟩ (fun hHeld => ?_); refine with_tabW tontinelaw17_ClauseChecks.tab12 tontinelaw17_ClauseChecks.bits12 (fun HT_ HW_ => ?_)
           generalize wr.drew = w46 at HO_8 HO_9 HO_10 HO_305001 BK295 BK304 HB hx315_0 hx316_0 hHeld ⊢
           refine pure_ (i := 0) (N := some 47) (v := ?_) (a' := ?_) #[true, false, false, false, false, false, false, false, false] rfl rfl (any_of HT_.out sq1) (fun _ _ _ h => h) (Or.inl ⟨by rfl, ?_⟩) ?_ ?_
           rotate_left
           ·intro w'
            go_simp
            with_reducible rfl
           rotate_left
           ·simp only [Act.put, List.setIfInBounds_toArray, List.set_cons_zero, List.set_cons_succ, i64_w, i32_w]
            rfl
           refine pure_ (i := 1) (N := some 48) (v := ?_) (a' := ?_) #[true, true, false, false, false, false, false, false, false] rfl rfl (any_of HT_.out sq1) (fun _ _ _ h => h) (Or.inl ⟨by rfl, ?_⟩) ?_ ?_
           rotate_left
           ·intro w'
            go_simp
            with_reducible rfl
           rotate_left
           ·simp only [Act.put, List.setIfInBounds_toArray, List.set_cons_zero, List.set_cons_succ, i64_w, i32_w]
            rfl
           refine pure_ (i := 2) (N := some 49) (v := ?_) (a' := ?_) #[true, true, true, false, false, false, false, false, false] rfl rfl (any_of HT_.out sq1) (fun _ _ _ h => h) (Or.inl ⟨by rfl, ?_⟩) ?_ ?_
           rotate_left
           ·intro w'
            go_simp
            with_reducible rfl
           rotate_left
           ·simp only [Act.put, List.setIfInBounds_toArray, List.set_cons_zero, List.set_cons_succ, i64_w, i32_w]
            rfl
           refine pure_ (i := 4) (N := some 51) (v := ?_) (a' := ?_) #[true, true, true, false, true, false, false, false, false] rfl rfl (any_of HT_.out sq1) (fun _ _ _ h => h) (Or.inl ⟨by rfl, ?_⟩) ?_ ?_
           rotate_left
           ·intro w'
            go_simp
            with_reducible rfl
           rotate_left
           ·simp only [Act.put, List.setIfInBounds_toArray, List.set_cons_zero, List.set_cons_succ, i64_w, i32_w]
            rfl
           refine pure_ (i := 5) (N := some 52) (v := ?_) (a' := ?_) #[true, true, true, false, true, true, false, false, false] rfl rfl (any_of HT_.out sq1) (fun _ _ _ h => h) (Or.inl ⟨by rfl, ?_⟩) ?_ ?_
           rotate_left
           ·intro w'
            go_simp
            with_reducible rfl
           rotate_left
           ·simp only [Act.put, List.setIfInBounds_toArray, List.set_cons_zero, List.set_cons_succ, i64_w, i32_w]
            rfl
           refine pure_ (i := 6) (N := some 53) (v := ?_) (a' := ?_) #[true, true, true, false, true, true, true, false, false] rfl rfl (any_of HT_.out sq1) (fun _ _ _ h => h) (Or.inl ⟨by rfl, ?_⟩) ?_ ?_
           rotate_left
           ·intro w'
            go_simp
            with_reducible rfl
           rotate_left
           ·simp only [Act.put, List.setIfInBounds_toArray, List.set_cons_zero, List.set_cons_succ, i64_w, i32_w]
            rfl
           refine take_ (i := 3) (N := some 50) (v := ?_) (a' := ?_) #[true, true, true, true, true, true, true, false, false] rfl rfl (take_ofW HT_.out HW_.out sq1) (fun _ _ _ h => h) (Or.inl ⟨by rfl, ?_⟩) hHeld ?_ ?_
           rotate_left
           ·rintro w' ⟨s0, s1⟩
            go_simp
            with_reducible rfl
           rotate_left
           ·simp only [Act.put, List.setIfInBounds_toArray, List.set_cons_zero, List.set_cons_succ, i64_w, i32_w]
            rfl
           refine take_ (i := 7) (N := some 54) (v := ?_) (a' := ?_) #[true, true, true, true, true, true, true, true, false] rfl rfl (take_ofW HT_.out HW_.out sq1) (fun _ _ _ h => h) (Or.inl ⟨by rfl, ?_⟩) hHeld ?_ ?_
           rotate_left
           ·rintro w' ⟨s0, s1⟩
            go_simp
            with_reducible rfl
           rotate_left
           ·simp only [Act.put, List.setIfInBounds_toArray, List.set_cons_zero, List.set_cons_succ, i64_w, i32_w]
            rfl
           refine pure_ (i := 8) (N := some 55) (v := ?_) (a' := ?_) #[true, true, true, true, true, true, true, true, true] rfl rfl (any_of HT_.out sq1) (fun _ _ _ h => h) (Or.inl ⟨by rfl, ?_⟩) ?_ ?_
           rotate_left
           ·intro w'
            go_simp
            with_reducible rfl
           rotate_left
           ·simp only [Act.put, List.setIfInBounds_toArray, List.set_cons_zero, List.set_cons_succ, i64_w, i32_w]
            rfl
           refine done_ (done_of HT_.out sq1) ?_
           try go_wp2
           go_roundg k2
           case measure => have := HJ7.out; have := HK2.out; omega
           case rel => exact ⟨(wrap64 (x11_2 + 1)), sq4, H', ⟨by have := HJ7.out; have := HK2.out; omega⟩, ⟨sq26⟩, ⟨by (with_reducible repeat (first | apply Kd.R_alloc | apply Kd.R_drewN | apply Kd.R_drew)); exact HO_9.out⟩, ⟨sq32⟩, ⟨sq36⟩, ⟨sq53⟩, ⟨sq54⟩, ⟨sq79⟩⟩
          rw [if_neg c45] at H
          have c45b0 : ((rd t309 x11_2) == (rd t312 x11_2)) = false := beq_eq_false_iff_ne.mpr c45
          have c45b1 : ((rd t309 x11_2) != (rd t312 x11_2)) = true := bne_iff_ne.mpr c45
          obtain rfl := Option.some.inj H
          try go_wp2
          have n0_ := Aside0.mk (Kd.R_drew HO_8.out)
          have n1_ := Aside0.mk (Kd.R_drew HO_9.out)
          have n2_ := Aside0.mk (Kd.R_drew HO_10.out)
          have n3_ := Aside0.mk (Kd.S_drew HO_305001.out)
          have n4_ := Aside0.mk (blk_drew BK295.out)
          have n5_ := Aside0.mk (blk_drew BK304.out)
          have n6_ := Aside0.mk (below_drew1 HB.out)
          clear HO_8; clear HO_9; clear HO_10; clear HO_305001; clear BK295; clear BK304; clear HB
          have HO_8 := n0_
          have HO_9 := n1_
          have HO_10 := n2_
          have HO_305001 := n3_
          have BK295 := n4_
          have BK304 := n5_
          have HB := n6_
          clear n0_ n1_ n2_ n3_ n4_ n5_ n6_
          have p315 : 0 ≤ (x11_2 : Int) := of_decide_eq_true sq5
          have q315 : x11_2 < (t309.length : Int) := of_decide_eq_true sq5
          obtain ⟨ad315, e315, hx315_0⟩ := Kd.at_int (Kd.R_reads' HO_9.out).2.2 x11_2 p315 q315
          cases e315
          replace p315 := eq_true p315
          replace q315 := eq_true q315
          have p316 : 0 ≤ (x11_2 : Int) := of_decide_eq_true sq5
          have q316 : x11_2 < (t312.length : Int) := of_decide_eq_true sq5
          obtain ⟨ad316, e316, hx316_0⟩ := Kd.at_int (Kd.R_reads' HO_10.out).2.2 x11_2 p316 q316
          cases e316
          replace p316 := eq_true p316
          replace q316 := eq_true q316
          refine start_ (n := 9) (S := fun w' => w'.cell? (ad315.add (x11_2).toNat) = some (.int .i64 (rd t309 x11_2)) ∧ w'.cell? (ad316.add (x11_2).toNat) = some (.int .i64 (rd t312 x11_2))) (ds := []) #[false, false, false, false, false, false, false, false, false] sq1 rfl rfl ⟨hx315_0, hx316_0⟩ (fun hHeld => ?_); refine with_tabW tontinelaw17_ClauseChecks.tab12 tontinelaw17_ClauseChecks.bits12 (fun HT_ HW_ => ?_)
          generalize wr.drew = w47 at HO_8 HO_9 HO_10 HO_305001 BK295 BK304 HB hx315_0 hx316_0 hHeld ⊢
          refine pure_ (i := 0) (N := some 47) (v := ?_) (a' := ?_) #[true, false, false, false, false, false, false, false, false] rfl rfl (any_of HT_.out sq1) (fun _ _ _ h => h) (Or.inl ⟨by rfl, ?_⟩) ?_ ?_
          rotate_left
          ·intro w'
           go_simp
           with_reducible rfl
          rotate_left
          ·simp only [Act.put, List.setIfInBounds_toArray, List.set_cons_zero, List.set_cons_succ, i64_w, i32_w]
           rfl
          refine pure_ (i := 1) (N := some 48) (v := ?_) (a' := ?_) #[true, true, false, false, false, false, false, false, false] rfl rfl (any_of HT_.out sq1) (fun _ _ _ h => h) (Or.inl ⟨by rfl, ?_⟩) ?_ ?_
          rotate_left
          ·intro w'
           go_simp
           with_reducible rfl
          rotate_left
          ·simp only [Act.put, List.setIfInBounds_toArray, List.set_cons_zero, List.set_cons_succ, i64_w, i32_w]
           rfl
          refine pure_ (i := 2) (N := some 49) (v := ?_) (a' := ?_) #[true, true, true, false, false, false, false, false, false] rfl rfl (any_of HT_.out sq1) (fun _ _ _ h => h) (Or.inl ⟨by rfl, ?_⟩) ?_ ?_
          rotate_left
          ·intro w'
           go_simp
           with_reducible rfl
          rotate_left
          ·simp only [Act.put, List.setIfInBounds_toArray, List.set_cons_zero, List.set_cons_succ, i64_w, i32_w]
           rfl
          refine pure_ (i := 4) (N := some 51) (v := ?_) (a' := ?_) #[true, true, true, false, true, false, false, false, false] rfl rfl (any_of HT_.out sq1) (fun _ _ _ h => h) (Or.inl ⟨by rfl, ?_⟩) ?_ ?_
          rotate_left
          ·intro w'
           go_simp
           with_reducible rfl
          rotate_left
          ·simp only [Act.put, List.setIfInBounds_toArray, List.set_cons_zero, List.set_cons_succ, i64_w, i32_w]
           rfl
          refine pure_ (i := 5) (N := some 52) (v := ?_) (a' := ?_) #[true, true, true, false, true, true, false, false, false] rfl rfl (any_of HT_.out sq1) (fun _ _ _ h => h) (Or.inl ⟨by rfl, ?_⟩) ?_ ?_
          rotate_left
          ·intro w'
           go_simp
           with_reducible rfl
          rotate_left
          ·simp only [Act.put, List.setIfInBounds_toArray, List.set_cons_zero, List.set_cons_succ, i64_w, i32_w]
           rfl
          refine pure_ (i := 6) (N := some 53) (v := ?_) (a' := ?_) #[true, true, true, false, true, true, true, false, false] rfl rfl (any_of HT_.out sq1) (fun _ _ _ h => h) (Or.inl ⟨by rfl, ?_⟩) ?_ ?_
          rotate_left
          ·intro w'
           go_simp
           with_reducible rfl
          rotate_left
          ·simp only [Act.put, List.setIfInBounds_toArray, List.set_cons_zero, List.set_cons_succ, i64_w, i32_w]
           rfl
          refine take_ (i := 3) (N := some 50) (v := ?_) (a' := ?_) #[true, true, true, true, true, true, true, false, false] rfl rfl (take_ofW HT_.out HW_.out sq1) (fun _ _ _ h => h) (Or.inl ⟨by rfl, ?_⟩) hHeld ?_ ?_
          rotate_left
          ·rintro w' ⟨s0, s1⟩
           go_simp
           with_reducible rfl
          rotate_left
          ·simp only [Act.put, List.setIfInBounds_toArray, List.set_cons_zero, List.set_cons_succ, i64_w, i32_w]
           rfl
          refine take_ (i := 7) (N := some 54) (v := ?_) (a' := ?_) #[true, true, true, true, true, true, true, true, false] rfl rfl (take_ofW HT_.out HW_.out sq1) (fun _ _ _ h => h) (Or.inl ⟨by rfl, ?_⟩) hHeld ?_ ?_
          rotate_left
          ·rintro w' ⟨s0, s1⟩
           go_simp
           with_reducible rfl
          rotate_left
          ·simp only [Act.put, List.setIfInBounds_toArray, List.set_cons_zero, List.set_cons_succ, i64_w, i32_w]
           rfl
          refine pure_ (i := 8) (N := some 55) (v := ?_) (a' := ?_) #[true, true, true, true, true, true, true, true, true] rfl rfl (any_of HT_.out sq1) (fun _ _ _ h => h) (Or.inl ⟨by rfl, ?_⟩) ?_ ?_
          rotate_left
          ·intro w'
           go_simp
           with_reducible rfl
          rotate_left
          ·simp only [Act.put, List.setIfInBounds_toArray, List.set_cons_zero, List.set_cons_succ, i64_w, i32_w]
           rfl
          refine done_ (done_of HT_.out sq1) ?_
          try go_wp2
          go_ret
          exact ⟨sq23, sq79⟩
         rw [if_neg c44] at H
         exact absurd H (by simp)
        rw [if_neg c43] at H
        exact absurd H (by simp)
       rw [if_neg c42] at H
       have c42b0 : decide (x11_2 < (t309.length : Int)) = false := decide_eq_false c42; clear c42
       replace H := Option.bind_eq_some_iff.mp H
       obtain ⟨t317, A480, H⟩ := H
       replace H : (if t317 = true then ((tontinebook_SameFormula.f k2 t301 l1).bind fun t318 => (some t318)) else (some false)) = some r := H
       have A48 := Aside0.mk A480
       clear A480
       by_cases c49 : t317 = true
       ·subst c49
        replace H := (itT_ _ _).symm.trans H
        replace H := Option.bind_eq_some_iff.mp H
        obtain ⟨t318, A500, H⟩ := H
        replace H : (some t318) = some r := H
        have A50 := Aside0.mk A500
        clear A500
        obtain rfl := Option.some.inj H
        have hnb51 := NB304_295.out
        have hnc51 := NB295_304.out
        have hcz52_0 : wr.cell? ⟨gb304, 0, none⟩ = some (.string t297) := (blk_cell BK304.out 0).trans rfl
        have hcz52_1 : wr.cell? ⟨gb304, 1, none⟩ = some (.slice Ao16 t298.length co16) := (blk_cell BK304.out 1).trans rfl
        have hfz52_0 := blk_frozen BK304.out 0
        have hfz52_1 := blk_frozen BK304.out 1
        have hcz53_0 : wr.cell? ⟨gb295, 0, none⟩ = some (.string a0_0) := (blk_cell BK295.out 0).trans rfl
        have hcz53_1 : wr.cell? ⟨gb295, 1, none⟩ = some (.slice A0_1 l0_1.length c0_1) := (blk_cell BK295.out 1).trans rfl
        have hfz53_0 := blk_frozen BK295.out 0
        have hfz53_1 := blk_frozen BK295.out 1
        go_wp2_with (first | ((with_reducible refine gate_callee (f := 13) rfl ?_); refine goesL_ (some 58) rfl rfl Try.func13 sq1 rfl #[.agg #[.string t297, .slice Ao16 t298.length co16], .agg #[.string a0_0, .slice A0_1 l0_1.length c0_1]] rfl sq56 ?_; (with_reducible refine (tontinebook_SameProduct.calls k2 t297 _ _ t298 a0_0 _ _ l0_1 true _ ?side1 ?side2 ?side3 ?side4 A48.out).mono ?_); (case side1 => repeat (first | exact (Kd.S_reads' HO_305001.out).2.2 | (with_reducible refine Kd.C_alloc ?_ _) | (with_reducible refine Kd.C_drewN ?_ _) | (with_reducible refine Kd.C_drew ?_))); (case side2 => exact (Kd.S_reads' HO_305001.out).2.1); (case side3 => repeat (first | exact (Kd.C_below HR0_1.out HB.out) | (with_reducible refine Kd.C_alloc ?_ _) | (with_reducible refine Kd.C_drewN ?_ _) | (with_reducible refine Kd.C_drew ?_))); (case side4 => exact HC0_1.out); rintro e w54 ⟨rfl, hb⟩; refine ⟨_, rfl, ?_⟩; have n0_ := Aside0.mk (Kd.R_below sq26 hb); have n1_ := Aside0.mk (Kd.R_below (by (with_reducible repeat (first | apply Kd.R_alloc | apply Kd.R_drewN | apply Kd.R_drew)); exact HO_9.out) hb); have n2_ := Aside0.mk (Kd.R_below sq32 hb); have n3_ := Aside0.mk (Kd.S_below sq36 hb); have n4_ := Aside0.mk (blk_below (g := gb295) (o := .cells #[.string a0_0, .slice A0_1 l0_1.length c0_1] 24 (0, 0)) sq53 hb); have n5_ := Aside0.mk (blk_below (g := gb304) (o := .cells #[.string t297, .slice Ao16 t298.length co16] 24 (0, 0)) sq54 hb); have n6_ := Aside0.mk (below_step sq79 hb); clear HO_8; clear HO_9; clear HO_10; clear HO_305001; clear BK295; clear BK304; clear HB; have HO_8 := n0_; have HO_9 := n1_; have HO_10 := n2_; have HO_305001 := n3_; have BK295 := n4_; have BK304 := n5_; have HB := n6_; clear n0_ n1_ n2_ n3_ n4_ n5_ n6_; (try clear hb); (try clear hb2); (try clear hk); (try clear hi)) | (go_at_call 14; (with_reducible refine (tontinebook_SameFormula.calls k2 _ _ t301 _ _ l1 t318 _ ?side1 ?side2 ?side3 ?side4 A50.out).mono ?_); (case side1 => repeat (first | exact (Kd.R_reads' HO_8.out).2.2 | (with_reducible refine Kd.C_alloc ?_ _) | (with_reducible refine Kd.C_drewN ?_ _) | (with_reducible refine Kd.C_drew ?_))); (case side2 => exact (Kd.R_reads' HO_8.out).2.1); (case side3 => repeat (first | exact (Kd.C_below HR1.out HB.out) | (with_reducible refine Kd.C_alloc ?_ _) | (with_reducible refine Kd.C_drewN ?_ _) | (with_reducible refine Kd.C_drew ?_))); (case side4 => exact HC1.out); rintro e w' ⟨rfl, ⟨nd, rfl⟩⟩))
        go_ret
        exact ⟨sq23, sq79⟩
       replace c49 := Bool.eq_false_iff.mpr c49
       subst c49
       replace H := (itF_ _ _).symm.trans H
       obtain rfl := Option.some.inj H
       have hnb55 := NB304_295.out
       have hnc55 := NB295_304.out
       have hcz56_0 : wr.cell? ⟨gb304, 0, none⟩ = some (.string t297) := (blk_cell BK304.out 0).trans rfl
       have hcz56_1 : wr.cell? ⟨gb304, 1, none⟩ = some (.slice Ao16 t298.length co16) := (blk_cell BK304.out 1).trans rfl
       have hfz56_0 := blk_frozen BK304.out 0
       have hfz56_1 := blk_frozen BK304.out 1
       have hcz57_0 : wr.cell? ⟨gb295, 0, none⟩ = some (.string a0_0) := (blk_cell BK295.out 0).trans rfl
       have hcz57_1 : wr.cell? ⟨gb295, 1, none⟩ = some (.slice A0_1 l0_1.length c0_1) := (blk_cell BK295.out 1).trans rfl
       have hfz57_0 := blk_frozen BK295.out 0
       have hfz57_1 := blk_frozen BK295.out 1
       go_wp2_with (first | ((with_reducible refine gate_callee (f := 13) rfl ?_); refine goesL_ (some 58) rfl rfl Try.func13 sq1 rfl #[.agg #[.string t297, .slice Ao16 t298.length co16], .agg #[.string a0_0, .slice A0_1 l0_1.length c0_1]] rfl sq56 ?_; (with_reducible refine (tontinebook_SameProduct.calls k2 t297 _ _ t298 a0_0 _ _ l0_1 false _ ?side1 ?side2 ?side3 ?side4 A48.out).mono ?_); (case side1 => repeat (first | exact (Kd.S_reads' HO_305001.out).2.2 | (with_reducible refine Kd.C_alloc ?_ _) | (with_reducible refine Kd.C_drewN ?_ _) | (with_reducible refine Kd.C_drew ?_))); (case side2 => exact (Kd.S_reads' HO_305001.out).2.1); (case side3 => repeat (first | exact (Kd.C_below HR0_1.out HB.out) | (with_reducible refine Kd.C_alloc ?_ _) | (with_reducible refine Kd.C_drewN ?_ _) | (with_reducible refine Kd.C_drew ?_))); (case side4 => exact HC0_1.out); rintro e w58 ⟨rfl, hb⟩; refine ⟨_, rfl, ?_⟩; have n0_ := Aside0.mk (Kd.R_below sq26 hb); have n1_ := Aside0.mk (Kd.R_below (by (with_reducible repeat (first | apply Kd.R_alloc | apply Kd.R_drewN | apply Kd.R_drew)); exact HO_9.out) hb); have n2_ := Aside0.mk (Kd.R_below sq32 hb); have n3_ := Aside0.mk (Kd.S_below sq36 hb); have n4_ := Aside0.mk (blk_below (g := gb295) (o := .cells #[.string a0_0, .slice A0_1 l0_1.length c0_1] 24 (0, 0)) sq53 hb); have n5_ := Aside0.mk (blk_below (g := gb304) (o := .cells #[.string t297, .slice Ao16 t298.length co16] 24 (0, 0)) sq54 hb); have n6_ := Aside0.mk (below_step sq79 hb); clear HO_8; clear HO_9; clear HO_10; clear HO_305001; clear BK295; clear BK304; clear HB; have HO_8 := n0_; have HO_9 := n1_; have HO_10 := n2_; have HO_305001 := n3_; have BK295 := n4_; have BK304 := n5_; have HB := n6_; clear n0_ n1_ n2_ n3_ n4_ n5_ n6_; (try clear hb); (try clear hb2); (try clear hk); (try clear hi)))
       go_ret
       exact ⟨sq23, sq79⟩
    rw [if_neg c36] at H
    have c36b0 : ((t309.length : Int) == (t312.length : Int)) = false := beq_eq_false_iff_ne.mpr c36
    have c36b1 : ((t309.length : Int) != (t312.length : Int)) = true := bne_iff_ne.mpr c36
    have c36b2 : (t309.length == t312.length) = false := by first | simpa using c36 | (simp at c36 ⊢; omega)
    obtain rfl := Option.some.inj H
    obtain ⟨Ao59, co59, eo59⟩ := Kd.R_slice HO_8.out
    subst eo59
    go_wp2_with (first | ((with_reducible refine gate_callee (f := 11) rfl ?_); refine goesL_ (some 32) rfl rfl Try.func11 sq1 rfl #[.slice Ao59 t301.length co59, .int .i64 a2] rfl sq56 ?_; (with_reducible refine (clause_Parts.calls kj7 _ _ t301 a2 t309 _ ?side3 ?side1 ?side2 A34.out).mono ?_); (case side1 => repeat (first | exact (Kd.R_reads' HO_8.out).2.2 | (with_reducible refine Kd.C_alloc ?_ _) | (with_reducible refine Kd.C_drewN ?_ _) | (with_reducible refine Kd.C_drew ?_))); (case side2 => exact (Kd.R_reads' HO_8.out).2.1); (case side3 => exact Glob.below HG.out sq79); rintro e w60 ⟨v310, rfl, ho0, hb⟩; refine ⟨_, rfl, ?_⟩; have n0_ := Aside0.mk (Kd.R_below sq26 hb); have n1_ := Aside0.mk (Kd.S_below sq36 hb); have n2_ := Aside0.mk (Kd.R_lower ho0 (below_size sq79)); have n3_ := Aside0.mk (blk_below (g := gb295) (o := .cells #[.string a0_0, .slice A0_1 l0_1.length c0_1] 24 (0, 0)) sq53 hb); have n4_ := Aside0.mk (blk_below (g := gb304) (o := .cells #[.string t297, .slice Ao16 t298.length co16] 24 (0, 0)) sq54 hb); have n5_ := Aside0.mk (below_step sq79 hb); clear HO_8; clear HO_305001; clear BK295; clear BK304; clear HB; have HO_8 := n0_; have HO_305001 := n1_; have HO311 := n2_; have BK295 := n3_; have BK304 := n4_; have HB := n5_; clear n0_ n1_ n2_ n3_ n4_ n5_; (try clear hb); (try clear hb2); (try clear hk); (try clear hi); (try clear ho0)) | ((with_reducible refine gate_callee (f := 12) rfl ?_); refine goesL_ (some 35) rfl rfl Try.func12 sq1 rfl #[.slice A1 l1.length c1, .int .i64 a2] rfl sq56 ?_; (with_reducible refine (tontineref17_Parts.calls kj7 _ _ l1 a2 t312 _ ?side1 ?side2 A35.out).mono ?_); (case side1 => repeat (first | exact (Kd.C_below HR1.out HB.out) | (with_reducible refine Kd.C_alloc ?_ _) | (with_reducible refine Kd.C_drewN ?_ _) | (with_reducible refine Kd.C_drew ?_))); (case side2 => exact HC1.out); rintro e w61 ⟨v313, rfl, ho0, hb⟩; refine ⟨_, rfl, ?_⟩; have n0_ := Aside0.mk (Kd.R_below sq26 hb); have n1_ := Aside0.mk (Kd.S_below sq36 hb); have n2_ := Aside0.mk (Kd.R_elder' sq31 (Kd.R_base ho0) hb); have n3_ := Aside0.mk (Kd.R_lower (Kd.R_new' ho0 (Kd.R_lt sq31)) (below_size sq79)); have n4_ := Aside0.mk (blk_below (g := gb295) (o := .cells #[.string a0_0, .slice A0_1 l0_1.length c0_1] 24 (0, 0)) sq53 hb); have n5_ := Aside0.mk (blk_below (g := gb304) (o := .cells #[.string t297, .slice Ao16 t298.length co16] 24 (0, 0)) sq54 hb); have n6_ := Aside0.mk (below_step sq79 hb); clear HO_8; clear HO_305001; clear HO311; clear BK295; clear BK304; clear HB; have HO_8 := n0_; have HO_305001 := n1_; have HO311 := n2_; have HO314 := n3_; have BK295 := n4_; have BK304 := n5_; have HB := n6_; clear n0_ n1_ n2_ n3_ n4_ n5_ n6_; (try clear hb); (try clear hb2); (try clear hk); (try clear hi); (try clear ho0); obtain ⟨Ao62, co62, eo62⟩ := Kd.R_slice HO311.out; subst eo62; obtain ⟨Ao63, co63, eo63⟩ := Kd.R_slice HO314.out; subst eo63))
    go_ret
    exact ⟨sq23, sq79⟩
 replace c5 := Bool.eq_false_iff.mpr c5
 subst c5
 replace H := (itF_ _ _).symm.trans H
 obtain rfl := Option.some.inj H
 go_enter Try.func3, Try.ntmps3
 go_wp2_with (first | ((with_reducible refine gate_dst (N := 3) rfl ?_); refine box_event ?hg (N := 3) ?hd (cs := #[.string a0_0, .slice A0_1 l0_1.length c0_1]) (t := 24) ?hr ?_; (case hd => rfl); (case hg => rfl); (case hr => first | (go_simp; done) | (go_simp; rfl)); intro gb295 hg w64 hbox hb; have n0_ := Aside0.mk (below_step sq55 hb); have n1_ := Aside0.mk (hbox); have n2_ := Aside0.mk ((by rw [hg]; exact (below_size sq55) : w.heap.size ≤ gb295)); have n3_ := Aside0.mk ((by rw [hg]; exact (below_size sq55) : w.heap.size ≤ gb295)); clear HB; have HB := n0_; have BK295 := n1_; have GW295 := n2_; have GE295 := n3_; clear n0_ n1_ n2_ n3_; clear hb hbox hg) | ((with_reducible refine gate_callee (f := 4) rfl ?_); refine goesL_ (some 12) rfl rfl Try.func4 sq1 rfl #[] rfl sq56 ?_; (with_reducible refine (tontinelaw17_names.calls  false _ A4.out).mono ?_); rintro e w' ⟨rfl, ⟨nd, rfl⟩⟩; refine ⟨_, rfl, ?_⟩))
 go_ret
 exact ⟨sq23, sq74⟩

end Go.Proofs.Ytaogejkmkalnlaa.PAll
