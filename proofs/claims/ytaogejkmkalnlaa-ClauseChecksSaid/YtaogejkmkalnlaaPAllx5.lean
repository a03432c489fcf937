-- Written by a program of this session (wip/tools/print2.sh): functions as plain Lean, and that the machine's calls do what they say.
import Derived.Test.YtaogejkmkalnlaaPAllx0
import Derived.Test.YtaogejkmkalnlaaPAllx2
import Derived.Test.YtaogejkmkalnlaaPAllx4
namespace Go.Proofs.Ytaogejkmkalnlaa.PAll
open Go.RowKit Go.Proofs.YtaogejkmkalnlaaW.PrintWords Go.Proofs.YtaogejkmkalnlaaW.PrintLast Go.Proofs.YtaogejkmkalnlaaW.PrintMore
attribute [local go_sem] max2_int min2_int max_two min_two max_three min_three max_four min_four   -- for this text's walks alone
set_option linter.unusedVariables false
set_option linter.unusedSimpArgs false

/-! ### clause_text: function 40 -/
def clause_text.f (a0_0 : Int) (a0_1 : Int) (a0_2 : ByteArray) : Option (Bool) := if a0_0 = 1 then ((strings_TrimSuffix.f a0_2 (⟨#[37]⟩ : ByteArray)).bind fun t157 => ((clause_number.f t157 false).bind fun t158 => (some t158))) else (if a0_0 = 2 then ((strings_CutPrefix.f a0_2 (⟨#[36]⟩ : ByteArray)).bind fun bt159 => (if bt159.2 = true then ((clause_number.f bt159.1 true).bind fun t161 => (some t161)) else (some false))) else (if a0_0 = 5 then ((clause_word.f a0_2).bind fun t162 => (some t162)) else (some (a0_2.toList == ([] : List UInt8)))))
set_option maxHeartbeats 8000000 in
set_option maxRecDepth 100000 in
theorem clause_text.calls (a0_0 : Int) (a0_1 : Int) (a0_2 : ByteArray) (r : Bool) (w : World) (hG : Glob w) (h : clause_text.f a0_0 a0_1 a0_2 = some r) :
  Calls Try.prog 40 #[.agg #[.int .i64 a0_0, .int .i64 a0_1, .string a0_2]] w fun e w' => e = .returned (.bool r) ∧ Below w.heap.size w w' := by
 have hu43 := Try.underlying43
 have HB := Aside0.mk (Below.refl w.heap.size w)
 have HG := Aside0.mk hG
 clear hG
 have H : (if a0_0 = 1 then ((strings_TrimSuffix.f a0_2 (⟨#[37]⟩ : ByteArray)).bind fun t157 => ((clause_number.f t157 false).bind fun t158 => (some t158))) else (if a0_0 = 2 then ((strings_CutPrefix.f a0_2 (⟨#[36]⟩ : ByteArray)).bind fun bt159 => (if bt159.2 = true then ((clause_number.f bt159.1 true).bind fun t161 => (some t161)) else (some false))) else (if a0_0 = 5 then ((clause_word.f a0_2).bind fun t162 => (some t162)) else (some (a0_2.toList == ([] : List UInt8)))))) = some r := h
 clear h
 by_cases c2 : a0_0 = 1
 ·rw [if_pos c2] at H
  have c2b0 : (a0_0 == 1) = true := beq_iff_eq.mpr c2
  have c2b1 : (a0_0 != 1) = false := bne_eq_false_iff_eq.mpr c2
  clear c2
  replace H := Option.bind_eq_some_iff.mp H
  obtain ⟨t157, A30, H⟩ := H
  replace H : ((clause_number.f t157 false).bind fun t158 => (some t158)) = some r := H
  have A3 := Aside0.mk A30
  clear A30
  replace H := Option.bind_eq_some_iff.mp H
  obtain ⟨t158, A40, H⟩ := H
  replace H : (some t158) = some r := H
  have A4 := Aside0.mk A40
  clear A40
  obtain rfl := Option.some.inj H
  go_enter Try.func40, Try.ntmps40
  go_wp2_with (first | ((with_reducible refine gate_dst (N := 1) rfl ?_); refine box_event ?hg (N := 1) ?hd (cs := #[.int .i64 a0_0, .int .i64 a0_1, .string a0_2]) (t := 43) ?hr ?_; (case hd => rfl); (case hg => rfl); (case hr => first | (go_simp; done) | (go_simp; rfl)); intro gb156 hg w5 hbox hb; have n0_ := Aside0.mk (below_step sq55 hb); have n1_ := Aside0.mk (hbox); have n2_ := Aside0.mk ((by rw [hg]; exact (below_size sq55) : w.heap.size ≤ gb156)); have n3_ := Aside0.mk ((by rw [hg]; exact (below_size sq55) : w.heap.size ≤ gb156)); clear HB; have HB := n0_; have BK156 := n1_; have GW156 := n2_; have GE156 := n3_; clear n0_ n1_ n2_ n3_; clear hb hbox hg; have hcz6_0 : w5.cell? ⟨gb156, 0, none⟩ = some (.int .i64 a0_0) := (blk_cell BK156.out 0).trans rfl; have hcz6_1 : w5.cell? ⟨gb156, 1, none⟩ = some (.int .i64 a0_1) := (blk_cell BK156.out 1).trans rfl; have hcz6_2 : w5.cell? ⟨gb156, 2, none⟩ = some (.string a0_2) := (blk_cell BK156.out 2).trans rfl; have hfz6_0 := blk_frozen BK156.out 0; have hfz6_1 := blk_frozen BK156.out 1; have hfz6_2 := blk_frozen BK156.out 2) | ((with_reducible refine gate_callee (f := 45) rfl ?_); refine goesL_ (some 11) rfl rfl Try.func45 sq1 rfl #[.string a0_2, .string (⟨#[37]⟩ : ByteArray)] rfl sq56 ?_; (with_reducible refine (strings_TrimSuffix.calls a0_2 (⟨#[37]⟩ : ByteArray) t157 _ A3.out).mono ?_); rintro e w' ⟨rfl, ⟨nd, rfl⟩⟩; refine ⟨_, rfl, ?_⟩) | ((with_reducible refine gate_callee (f := 44) rfl ?_); refine goesL_ (some 12) rfl rfl Try.func44 sq1 rfl #[.string t157, .bool false] rfl sq56 ?_; (with_reducible refine (clause_number.calls t157 false t158 _ ?side1 A4.out).mono ?_); (case side1 => exact Glob.below HG.out sq64); rintro e w' ⟨rfl, ⟨nd, rfl⟩⟩; refine ⟨_, rfl, ?_⟩))
  go_ret
  exact ⟨sq23, sq64⟩
 rw [if_neg c2] at H
 have c2b0 : (a0_0 == 1) = false := beq_eq_false_iff_ne.mpr c2
 have c2b1 : (a0_0 != 1) = true := bne_iff_ne.mpr c2
 by_cases c7 : a0_0 = 2
 ·rw [if_pos c7] at H
  have c7b0 : (a0_0 == 2) = true := beq_iff_eq.mpr c7
  have c7b1 : (a0_0 != 2) = false := bne_eq_false_iff_eq.mpr c7
  clear c7
  replace H := Option.bind_eq_some_iff.mp H
  obtain ⟨⟨t159, t160⟩, A80, H⟩ := H
  replace H : (if t160 = true then ((clause_number.f t159 true).bind fun t161 => (some t161)) else (some false)) = some r := H
  have A8 := Aside0.mk A80
  clear A80
  by_cases c9 : t160 = true
  ·subst c9
   replace H := (itT_ _ _).symm.trans H
   replace H := Option.bind_eq_some_iff.mp H
   obtain ⟨t161, A100, H⟩ := H
   replace H : (some t161) = some r := H
   have A10 := Aside0.mk A100
   clear A100
   obtain rfl := Option.some.inj H
   go_enter Try.func40, Try.ntmps40
   go_wp2_with (first | ((with_reducible refine gate_dst (N := 1) rfl ?_); refine box_event ?hg (N := 1) ?hd (cs := #[.int .i64 a0_0, .int .i64 a0_1, .string a0_2]) (t := 43) ?hr ?_; (case hd => rfl); (case hg => rfl); (case hr => first | (go_simp; done) | (go_simp; rfl)); intro gb156 hg w11 hbox hb; have n0_ := Aside0.mk (below_step sq55 hb); have n1_ := Aside0.mk (hbox); have n2_ := Aside0.mk ((by rw [hg]; exact (below_size sq55) : w.heap.size ≤ gb156)); have n3_ := Aside0.mk ((by rw [hg]; exact (below_size sq55) : w.heap.size ≤ gb156)); clear HB; have HB := n0_; have BK156 := n1_; have GW156 := n2_; have GE156 := n3_; clear n0_ n1_ n2_ n3_; clear hb hbox hg; have hcz12_0 : w11.cell? ⟨gb156, 0, none⟩ = some (.int .i64 a0_0) := (blk_cell BK156.out 0).trans rfl; have hcz12_1 : w11.cell? ⟨gb156, 1, none⟩ = some (.int .i64 a0_1) := (blk_cell BK156.out 1).trans rfl; have hcz12_2 : w11.cell? ⟨gb156, 2, none⟩ = some (.string a0_2) := (blk_cell BK156.out 2).trans rfl; have hfz12_0 := blk_frozen BK156.out 0; have hfz12_1 := blk_frozen BK156.out 1; have hfz12_2 := blk_frozen BK156.out 2) | ((with_reducible refine gate_callee (f := 46) rfl ?_); refine goesL_ (some 18) rfl rfl Try.func46 sq1 rfl #[.string a0_2, .string (⟨#[36]⟩ : ByteArray)] rfl sq56 ?_; (with_reducible refine (strings_CutPrefix.calls a0_2 (⟨#[36]⟩ : ByteArray) t159 true _ A8.out).mono ?_); rintro e w' ⟨rfl, ⟨nd, rfl⟩⟩; refine ⟨_, rfl, ?_⟩) | (go_at_call 44; (with_reducible refine (clause_number.calls t159 true t161 _ ?side1 A10.out).mono ?_); (case side1 => exact Glob.below HG.out sq64); rintro e w' ⟨rfl, ⟨nd, rfl⟩⟩))
   go_ret
   exact ⟨sq23, sq64⟩
  replace c9 := Bool.eq_false_iff.mpr c9
  subst c9
  replace H := (itF_ _ _).symm.trans H
  obtain rfl := Option.some.inj H
  go_enter Try.func40, Try.ntmps40
  go_wp2_with (first | ((with_reducible refine gate_dst (N := 1) rfl ?_); refine box_event ?hg (N := 1) ?hd (cs := #[.int .i64 a0_0, .int .i64 a0_1, .string a0_2]) (t := 43) ?hr ?_; (case hd => rfl); (case hg => rfl); (case hr => first | (go_simp; done) | (go_simp; rfl)); intro gb156 hg w13 hbox hb; have n0_ := Aside0.mk (below_step sq55 hb); have n1_ := Aside0.mk (hbox); have n2_ := Aside0.mk ((by rw [hg]; exact (below_size sq55) : w.heap.size ≤ gb156)); have n3_ := Aside0.mk ((by rw [hg]; exact (below_size sq55) : w.heap.size ≤ gb156)); clear HB; have HB := n0_; have BK156 := n1_; have GW156 := n2_; have GE156 := n3_; clear n0_ n1_ n2_ n3_; clear hb hbox hg; have hcz14_0 : w13.cell? ⟨gb156, 0, none⟩ = some (.int .i64 a0_0) := (blk_cell BK156.out 0).trans rfl; have hcz14_1 : w13.cell? ⟨gb156, 1, none⟩ = some (.int .i64 a0_1) := (blk_cell BK156.out 1).trans rfl; have hcz14_2 : w13.cell? ⟨gb156, 2, none⟩ = some (.string a0_2) := (blk_cell BK156.out 2).trans rfl; have hfz14_0 := blk_frozen BK156.out 0; have hfz14_1 := blk_frozen BK156.out 1; have hfz14_2 := blk_frozen BK156.out 2) | ((with_reducible refine gate_callee (f := 46) rfl ?_); refine goesL_ (some 18) rfl rfl Try.func46 sq1 rfl #[.string a0_2, .string (⟨#[36]⟩ : ByteArray)] rfl sq56 ?_; (with_reducible refine (strings_CutPrefix.calls a0_2 (⟨#[36]⟩ : ByteArray) t159 false _ A8.out).mono ?_); rintro e w' ⟨rfl, ⟨nd, rfl⟩⟩; refine ⟨_, rfl, ?_⟩))
  go_ret
  exact ⟨sq23, sq64⟩
 rw [if_neg c7] at H
 have c7b0 : (a0_0 == 2) = false := beq_eq_false_iff_ne.mpr c7
 have c7b1 : (a0_0 != 2) = true := bne_iff_ne.mpr c7
 by_cases c15 : a0_0 = 5
 ·rw [if_pos c15] at H
  have c15b0 : (a0_0 == 5) = true := beq_iff_eq.mpr c15
  have c15b1 : (a0_0 != 5) = false := bne_eq_false_iff_eq.mpr c15
  clear c15
  replace H := Option.bind_eq_some_iff.mp H
  obtain ⟨t162, A160, H⟩ := H
  replace H : (some t162) = some r := H
  have A16 := Aside0.mk A160
  clear A160
  obtain rfl := Option.some.inj H
  go_enter Try.func40, Try.ntmps40
  go_wp2_with (first | ((with_reducible refine gate_dst (N := 1) rfl ?_); refine box_event ?hg (N := 1) ?hd (cs := #[.int .i64 a0_0, .int .i64 a0_1, .string a0_2]) (t := 43) ?hr ?_; (case hd => rfl); (case hg => rfl); (case hr => first | (go_simp; done) | (go_simp; rfl)); intro gb156 hg w17 hbox hb; have n0_ := Aside0.mk (below_step sq55 hb); have n1_ := Aside0.mk (hbox); have n2_ := Aside0.mk ((by rw [hg]; exact (below_size sq55) : w.heap.size ≤ gb156)); have n3_ := Aside0.mk ((by rw [hg]; exact (below_size sq55) : w.heap.size ≤ gb156)); clear HB; have HB := n0_; have BK156 := n1_; have GW156 := n2_; have GE156 := n3_; clear n0_ n1_ n2_ n3_; clear hb hbox hg; have hcz18_0 : w17.cell? ⟨gb156, 0, none⟩ = some (.int .i64 a0_0) := (blk_cell BK156.out 0).trans rfl; have hcz18_1 : w17.cell? ⟨gb156, 1, none⟩ = some (.int .i64 a0_1) := (blk_cell BK156.out 1).trans rfl; have hcz18_2 : w17.cell? ⟨gb156, 2, none⟩ = some (.string a0_2) := (blk_cell BK156.out 2).trans rfl; have hfz18_0 := blk_frozen BK156.out 0; have hfz18_1 := blk_frozen BK156.out 1; have hfz18_2 := blk_frozen BK156.out 2) | ((with_reducible refine gate_callee (f := 29) rfl ?_); refine goesL_ (some 30) rfl rfl Try.func29 sq1 rfl #[.string a0_2] rfl sq56 ?_; (with_reducible refine (clause_word.calls a0_2 t162 _ ?side1 A16.out).mono ?_); (case side1 => exact Glob.below HG.out sq64); rintro e w' ⟨rfl, ⟨nd, rfl⟩⟩; refine ⟨_, rfl, ?_⟩))
  go_ret
  exact ⟨sq23, sq64⟩
 rw [if_neg c15] at H
 have c15b0 : (a0_0 == 5) = false := beq_eq_false_iff_ne.mpr c15
 have c15b1 : (a0_0 != 5) = true := bne_iff_ne.mpr c15
 obtain rfl := Option.some.inj H
 go_enter Try.func40, Try.ntmps40
 go_wp2_with (first | ((with_reducible refine gate_dst (N := 1) rfl ?_); refine box_event ?hg (N := 1) ?hd (cs := #[.int .i64 a0_0, .int .i64 a0_1, .string a0_2]) (t := 43) ?hr ?_; (case hd => rfl); (case hg => rfl); (case hr => first | (go_simp; done) | (go_simp; rfl)); intro gb156 hg w19 hbox hb; have n0_ := Aside0.mk (below_step sq55 hb); have n1_ := Aside0.mk (hbox); have n2_ := Aside0.mk ((by rw [hg]; exact (below_size sq55) : w.heap.size ≤ gb156)); have n3_ := Aside0.mk ((by rw [hg]; exact (below_size sq55) : w.heap.size ≤ gb156)); clear HB; have HB := n0_; have BK156 := n1_; have GW156 := n2_; have GE156 := n3_; clear n0_ n1_ n2_ n3_; clear hb hbox hg; have hcz20_0 : w19.cell? ⟨gb156, 0, none⟩ = some (.int .i64 a0_0) := (blk_cell BK156.out 0).trans rfl; have hcz20_1 : w19.cell? ⟨gb156, 1, none⟩ = some (.int .i64 a0_1) := (blk_cell BK156.out 1).trans rfl; have hcz20_2 : w19.cell? ⟨gb156, 2, none⟩ = some (.string a0_2) := (blk_cell BK156.out 2).trans rfl; have hfz20_0 := blk_frozen BK156.out 0; have hfz20_1 := blk_frozen BK156.out 1; have hfz20_2 := blk_frozen BK156.out 2))
 go_ret
 exact ⟨sq23, sq64⟩

/-! ### clause_node: function 32 -/
def clause_node.f (k : Nat) (a0_0 : Int) (a0_1 : Int) (a0_2 : ByteArray) : Option (Bool) := (clause_parts.f k a0_0).bind fun t164 => (if a0_0 ≥ 1 then (if a0_0 ≤ 23 then (if t164 ≥ 0 then (if a0_1 = t164 then ((clause_text.f a0_0 a0_1 a0_2).bind fun t165 => (some t165)) else (if t164 < 0 then (if a0_1 ≥ 1 then ((clause_text.f a0_0 a0_1 a0_2).bind fun t166 => (some t166)) else (some false)) else (some false))) else (if t164 < 0 then (if a0_1 ≥ 1 then ((clause_text.f a0_0 a0_1 a0_2).bind fun t167 => (some t167)) else (some false)) else (some false))) else (some false)) else (some false))
theorem clause_node.mono : ∀ a0 a1 a2 k, LeO (clause_node.f k a0 a1 a2) (clause_node.f (k + 1) a0 a1 a2) := by
 intro a0 a1 a2 k
 unfold clause_node.f
 exact (by repeat' first | (with_reducible exact clause_parts.mono _ _) | (with_reducible exact LeO.refl _) | (with_reducible exact LeO.none _) | (with_reducible refine LeO.ite ?_ ?_) | (with_reducible refine LeO.bind ?_ (fun _ => ?_)) | exact clause_parts.mono _ _ | exact LeO.none _ | refine LeO.ite ?_ ?_ | refine LeO.bind ?_ (fun _ => ?_))
set_option maxHeartbeats 8000000 in
set_option maxRecDepth 100000 in
theorem clause_node.calls (k : Nat) (a0_0 : Int) (a0_1 : Int) (a0_2 : ByteArray) (r : Bool) (w : World) (hG : Glob w) (h : clause_node.f k a0_0 a0_1 a0_2 = some r) :
  Calls Try.prog 32 #[.agg #[.int .i64 a0_0, .int .i64 a0_1, .string a0_2]] w fun e w' => e = .returned (.bool r) ∧ Below w.heap.size w w' := by
 have hu43 := Try.underlying43
 have HB := Aside0.mk (Below.refl w.heap.size w)
 have HG := Aside0.mk hG
 clear hG
 have H : ((clause_parts.f k a0_0).bind fun t164 => (if a0_0 ≥ 1 then (if a0_0 ≤ 23 then (if t164 ≥ 0 then (if a0_1 = t164 then ((clause_text.f a0_0 a0_1 a0_2).bind fun t165 => (some t165)) else (if t164 < 0 then (if a0_1 ≥ 1 then ((clause_text.f a0_0 a0_1 a0_2).bind fun t166 => (some t166)) else (some false)) else (some false))) else (if t164 < 0 then (if a0_1 ≥ 1 then ((clause_text.f a0_0 a0_1 a0_2).bind fun t167 => (some t167)) else (some false)) else (some false))) else (some false)) else (some false))) = some r := h
 clear h
 replace H := Option.bind_eq_some_iff.mp H
 obtain ⟨t164, A20, H⟩ := H
 replace H : (if a0_0 ≥ 1 then (if a0_0 ≤ 23 then (if t164 ≥ 0 then (if a0_1 = t164 then ((clause_text.f a0_0 a0_1 a0_2).bind fun t165 => (some t165)) else (if t164 < 0 then (if a0_1 ≥ 1 then ((clause_text.f a0_0 a0_1 a0_2).bind fun t166 => (some t166)) else (some false)) else (some false))) else (if t164 < 0 then (if a0_1 ≥ 1 then ((clause_text.f a0_0 a0_1 a0_2).bind fun t167 => (some t167)) else (some false)) else (some false))) else (some false)) else (some false)) = some r := H
 have A2 := Aside0.mk A20
 clear A20
 by_cases c3 : a0_0 ≥ 1
 ·rw [if_pos c3] at H
  have c3b0 : decide (1 ≤ a0_0) = true := decide_eq_true c3; clear c3
  by_cases c4 : a0_0 ≤ 23
  ·rw [if_pos c4] at H
   have c4b0 : decide (a0_0 ≤ 23) = true := decide_eq_true c4; clear c4
   by_cases c5 : t164 ≥ 0
   ·rw [if_pos c5] at H
    have c5b0 : decide (0 ≤ t164) = true := decide_eq_true c5; clear c5
    by_cases c6 : a0_1 = t164
    ·rw [if_pos c6] at H
     have c6b0 : (a0_1 == t164) = true := beq_iff_eq.mpr c6
     have c6b1 : (a0_1 != t164) = false := bne_eq_false_iff_eq.mpr c6
     clear c6
     replace H := Option.bind_eq_some_iff.mp H
     obtain ⟨t165, A70, H⟩ := H
     replace H : (some t165) = some r := H
     have A7 := Aside0.mk A70
     clear A70
     obtain rfl := Option.some.inj H
     go_enter Try.func32, Try.ntmps32
     go_wp2_with (first | ((with_reducible refine gate_dst (N := 1) rfl ?_); refine box_event ?hg (N := 1) ?hd (cs := #[.int .i64 a0_0, .int .i64 a0_1, .string a0_2]) (t := 43) ?hr ?_; (case hd => rfl); (case hg => rfl); (case hr => first | (go_simp; done) | (go_simp; rfl)); intro gb163 hg w8 hbox hb; have n0_ := Aside0.mk (below_step sq55 hb); have n1_ := Aside0.mk (hbox); have n2_ := Aside0.mk ((by rw [hg]; exact (below_size sq55) : w.heap.size ≤ gb163)); have n3_ := Aside0.mk ((by rw [hg]; exact (below_size sq55) : w.heap.size ≤ gb163)); clear HB; have HB := n0_; have BK163 := n1_; have GW163 := n2_; have GE163 := n3_; clear n0_ n1_ n2_ n3_; clear hb hbox hg; have hcz9_0 : w8.cell? ⟨gb163, 0, none⟩ = some (.int .i64 a0_0) := (blk_cell BK163.out 0).trans rfl; have hcz9_1 : w8.cell? ⟨gb163, 1, none⟩ = some (.int .i64 a0_1) := (blk_cell BK163.out 1).trans rfl; have hcz9_2 : w8.cell? ⟨gb163, 2, none⟩ = some (.string a0_2) := (blk_cell BK163.out 2).trans rfl; have hfz9_0 := blk_frozen BK163.out 0; have hfz9_1 := blk_frozen BK163.out 1; have hfz9_2 := blk_frozen BK163.out 2) | ((with_reducible refine gate_callee (f := 39) rfl ?_); refine goesL_ (some 6) rfl rfl Try.func39 sq1 rfl #[.int .i64 a0_0] rfl sq56 ?_; (with_reducible refine (clause_parts.calls k a0_0 t164 _ A2.out).mono ?_); rintro e w' ⟨rfl, ⟨nd, rfl⟩⟩; refine ⟨_, rfl, ?_⟩) | (go_at_call 40; (with_reducible refine (clause_text.calls a0_0 a0_1 a0_2 t165 _ ?side1 A7.out).mono ?_); (case side1 => exact Glob.below HG.out sq65); rintro e w10 ⟨rfl, hb⟩; have n0_ := Aside0.mk (blk_below (g := gb163) (o := .cells #[.int .i64 a0_0, .int .i64 a0_1, .string a0_2] 43 (0, 0)) sq42 hb); have n1_ := Aside0.mk (below_step sq65 hb); clear BK163; clear HB; have BK163 := n0_; have HB := n1_; clear n0_ n1_; (try clear hb); (try clear hb2); (try clear hk); (try clear hi)))
     go_ret
     exact ⟨sq23, sq65⟩
    rw [if_neg c6] at H
    have c6b0 : (a0_1 == t164) = false := beq_eq_false_iff_ne.mpr c6
    have c6b1 : (a0_1 != t164) = true := bne_iff_ne.mpr c6
    by_cases c11 : t164 < 0
    ·rw [if_pos c11] at H
     have c11b0 : decide (t164 < 0) = true := decide_eq_true c11; clear c11
     by_cases c12 : a0_1 ≥ 1
     ·rw [if_pos c12] at H
      have c12b0 : decide (1 ≤ a0_1) = true := decide_eq_true c12; clear c12
      replace H := Option.bind_eq_some_iff.mp H
      obtain ⟨t166, A130, H⟩ := H
      replace H : (some t166) = some r := H
      have A13 := Aside0.mk A130
      clear A130
      obtain rfl := Option.some.inj H
      go_enter Try.func32, Try.ntmps32
      go_wp2_with (first | ((with_reducible refine gate_dst (N := 1) rfl ?_); refine box_event ?hg (N := 1) ?hd (cs := #[.int .i64 a0_0, .int .i64 a0_1, .string a0_2]) (t := 43) ?hr ?_; (case hd => rfl); (case hg => rfl); (case hr => first | (go_simp; done) | (go_simp; rfl)); intro gb163 hg w14 hbox hb; have n0_ := Aside0.mk (below_step sq55 hb); have n1_ := Aside0.mk (hbox); have n2_ := Aside0.mk ((by rw [hg]; exact (below_size sq55) : w.heap.size ≤ gb163)); have n3_ := Aside0.mk ((by rw [hg]; exact (below_size sq55) : w.heap.size ≤ gb163)); clear HB; have HB := n0_; have BK163 := n1_; have GW163 := n2_; have GE163 := n3_; clear n0_ n1_ n2_ n3_; clear hb hbox hg; have hcz15_0 : w14.cell? ⟨gb163, 0, none⟩ = some (.int .i64 a0_0) := (blk_cell BK163.out 0).trans rfl; have hcz15_1 : w14.cell? ⟨gb163, 1, none⟩ = some (.int .i64 a0_1) := (blk_cell BK163.out 1).trans rfl; have hcz15_2 : w14.cell? ⟨gb163, 2, none⟩ = some (.string a0_2) := (blk_cell BK163.out 2).trans rfl; have hfz15_0 := blk_frozen BK163.out 0; have hfz15_1 := blk_frozen BK163.out 1; have hfz15_2 := blk_frozen BK163.out 2) | ((with_reducible refine gate_callee (f := 39) rfl ?_); refine goesL_ (some 6) rfl rfl Try.func39 sq1 rfl #[.int .i64 a0_0] rfl sq56 ?_; (with_reducible refine (clause_parts.calls k a0_0 t164 _ A2.out).mono ?_); rintro e w' ⟨rfl, ⟨nd, rfl⟩⟩; refine ⟨_, rfl, ?_⟩) | (go_at_call 40; (with_reducible refine (clause_text.calls a0_0 a0_1 a0_2 t166 _ ?side1 A13.out).mono ?_); (case side1 => exact Glob.below HG.out sq65); rintro e w16 ⟨rfl, hb⟩; have n0_ := Aside0.mk (blk_below (g := gb163) (o := .cells #[.int .i64 a0_0, .int .i64 a0_1, .string a0_2] 43 (0, 0)) sq42 hb); have n1_ := Aside0.mk (below_step sq65 hb); clear BK163; clear HB; have BK163 := n0_; have HB := n1_; clear n0_ n1_; (try clear hb); (try clear hb2); (try clear hk); (try clear hi)))
      go_ret
      exact ⟨sq23, sq65⟩
     rw [if_neg c12] at H
     have c12b0 : decide (1 ≤ a0_1) = false := decide_eq_false c12; clear c12
     obtain rfl := Option.some.inj H
     go_enter Try.func32, Try.ntmps32
     go_wp2_with (first | ((with_reducible refine gate_dst (N := 1) rfl ?_); refine box_event ?hg (N := 1) ?hd (cs := #[.int .i64 a0_0, .int .i64 a0_1, .string a0_2]) (t := 43) ?hr ?_; (case hd => rfl); (case hg => rfl); (case hr => first | (go_simp; done) | (go_simp; rfl)); intro gb163 hg w17 hbox hb; have n0_ := Aside0.mk (below_step sq55 hb); have n1_ := Aside0.mk (hbox); have n2_ := Aside0.mk ((by rw [hg]; exact (below_size sq55) : w.heap.size ≤ gb163)); have n3_ := Aside0.mk ((by rw [hg]; exact (below_size sq55) : w.heap.size ≤ gb163)); clear HB; have HB := n0_; have BK163 := n1_; have GW163 := n2_; have GE163 := n3_; clear n0_ n1_ n2_ n3_; clear hb hbox hg; have hcz18_0 : w17.cell? ⟨gb163, 0, none⟩ = some (.int .i64 a0_0) := (blk_cell BK163.out 0).trans rfl; have hcz18_1 : w17.cell? ⟨gb163, 1, none⟩ = some (.int .i64 a0_1) := (blk_cell BK163.out 1).trans rfl; have hcz18_2 : w17.cell? ⟨gb163, 2, none⟩ = some (.string a0_2) := (blk_cell BK163.out 2).trans rfl; have hfz18_0 := blk_frozen BK163.out 0; have hfz18_1 := blk_frozen BK163.out 1; have hfz18_2 := blk_frozen BK163.out 2) | ((with_reducible refine gate_callee (f := 39) rfl ?_); refine goesL_ (some 6) rfl rfl Try.func39 sq1 rfl #[.int .i64 a0_0] rfl sq56 ?_; (with_reducible refine (clause_parts.calls k a0_0 t164 _ A2.out).mono ?_); rintro e w' ⟨rfl, ⟨nd, rfl⟩⟩; refine ⟨_, rfl, ?_⟩))
     go_ret
     exact ⟨sq23, sq65⟩
    rw [if_neg c11] at H
    have c11b0 : decide (t164 < 0) = false := decide_eq_false c11; clear c11
    obtain rfl := Option.some.inj H
    go_enter Try.func32, Try.ntmps32
    go_wp2_with (first | ((with_reducible refine gate_dst (N := 1) rfl ?_); refine box_event ?hg (N := 1) ?hd (cs := #[.int .i64 a0_0, .int .i64 a0_1, .string a0_2]) (t := 43) ?hr ?_; (case hd => rfl); (case hg => rfl); (case hr => first | (go_simp; done) | (go_simp; rfl)); intro gb163 hg w19 hbox hb; have n0_ := Aside0.mk (below_step sq55 hb); have n1_ := Aside0.mk (hbox); have n2_ := Aside0.mk ((by rw [hg]; exact (below_size sq55) : w.heap.size ≤ gb163)); have n3_ := Aside0.mk ((by rw [hg]; exact (below_size sq55) : w.heap.size ≤ gb163)); clear HB; have HB := n0_; have BK163 := n1_; have GW163 := n2_; have GE163 := n3_; clear n0_ n1_ n2_ n3_; clear hb hbox hg; have hcz20_0 : w19.cell? ⟨gb163, 0, none⟩ = some (.int .i64 a0_0) := (blk_cell BK163.out 0).trans rfl; have hcz20_1 : w19.cell? ⟨gb163, 1, none⟩ = some (.int .i64 a0_1) := (blk_cell BK163.out 1).trans rfl; have hcz20_2 : w19.cell? ⟨gb163, 2, none⟩ = some (.string a0_2) := (blk_cell BK163.out 2).trans rfl; have hfz20_0 := blk_frozen BK163.out 0; have hfz20_1 := blk_frozen BK163.out 1; have hfz20_2 := blk_frozen BK163.out 2) | ((with_reducible refine gate_callee (f := 39) rfl ?_); refine goesL_ (some 6) rfl rfl Try.func39 sq1 rfl #[.int .i64 a0_0] rfl sq56 ?_; (with_reducible refine (clause_parts.calls k a0_0 t164 _ A2.out).mono ?_); rintro e w' ⟨rfl, ⟨nd, rfl⟩⟩; refine ⟨_, rfl, ?_⟩))
    go_ret
    exact ⟨sq23, sq65⟩
   rw [if_neg c5] at H
   have c5b0 : decide (0 ≤ t164) = false := decide_eq_false c5; clear c5
   by_cases c21 : t164 < 0
   ·rw [if_pos c21] at H
    have c21b0 : decide (t164 < 0) = true := decide_eq_true c21; clear c21
    by_cases c22 : a0_1 ≥ 1
    ·rw [if_pos c22] at H
     have c22b0 : decide (1 ≤ a0_1) = true := decide_eq_true c22; clear c22
     replace H := Option.bind_eq_some_iff.mp H
     obtain ⟨t167, A230, H⟩ := H
     replace H : (some t167) = some r := H
     have A23 := Aside0.mk A230
     clear A230
     obtain rfl := Option.some.inj H
     go_enter Try.func32, Try.ntmps32
     go_wp2_with (first | ((with_reducible refine gate_dst (N := 1) rfl ?_); refine box_event ?hg (N := 1) ?hd (cs := #[.int .i64 a0_0, .int .i64 a0_1, .string a0_2]) (t := 43) ?hr ?_; (case hd => rfl); (case hg => rfl); (case hr => first | (go_simp; done) | (go_simp; rfl)); intro gb163 hg w24 hbox hb; have n0_ := Aside0.mk (below_step sq55 hb); have n1_ := Aside0.mk (hbox); have n2_ := Aside0.mk ((by rw [hg]; exact (below_size sq55) : w.heap.size ≤ gb163)); have n3_ := Aside0.mk ((by rw [hg]; exact (below_size sq55) : w.heap.size ≤ gb163)); clear HB; have HB := n0_; have BK163 := n1_; have GW163 := n2_; have GE163 := n3_; clear n0_ n1_ n2_ n3_; clear hb hbox hg; have hcz25_0 : w24.cell? ⟨gb163, 0, none⟩ = some (.int .i64 a0_0) := (blk_cell BK163.out 0).trans rfl; have hcz25_1 : w24.cell? ⟨gb163, 1, none⟩ = some (.int .i64 a0_1) := (blk_cell BK163.out 1).trans rfl; have hcz25_2 : w24.cell? ⟨gb163, 2, none⟩ = some (.string a0_2) := (blk_cell BK163.out 2).trans rfl; have hfz25_0 := blk_frozen BK163.out 0; have hfz25_1 := blk_frozen BK163.out 1; have hfz25_2 := blk_frozen BK163.out 2) | ((with_reducible refine gate_callee (f := 39) rfl ?_); refine goesL_ (some 6) rfl rfl Try.func39 sq1 rfl #[.int .i64 a0_0] rfl sq56 ?_; (with_reducible refine (clause_parts.calls k a0_0 t164 _ A2.out).mono ?_); rintro e w' ⟨rfl, ⟨nd, rfl⟩⟩; refine ⟨_, rfl, ?_⟩) | (go_at_call 40; (with_reducible refine (clause_text.calls a0_0 a0_1 a0_2 t167 _ ?side1 A23.out).mono ?_); (case side1 => exact Glob.below HG.out sq65); rintro e w26 ⟨rfl, hb⟩; have n0_ := Aside0.mk (blk_below (g := gb163) (o := .cells #[.int .i64 a0_0, .int .i64 a0_1, .string a0_2] 43 (0, 0)) sq42 hb); have n1_ := Aside0.mk (below_step sq65 hb); clear BK163; clear HB; have BK163 := n0_; have HB := n1_; clear n0_ n1_; (try clear hb); (try clear hb2); (try clear hk); (try clear hi)))
     go_ret
     exact ⟨sq23, sq65⟩
    rw [if_neg c22] at H
    have c22b0 : decide (1 ≤ a0_1) = false := decide_eq_false c22; clear c22
    obtain rfl := Option.some.inj H
    go_enter Try.func32, Try.ntmps32
    go_wp2_with (first | ((with_reducible refine gate_dst (N := 1) rfl ?_); refine box_event ?hg (N := 1) ?hd (cs := #[.int .i64 a0_0, .int .i64 a0_1, .string a0_2]) (t := 43) ?hr ?_; (case hd => rfl); (case hg => rfl); (case hr => first | (go_simp; done) | (go_simp; rfl)); intro gb163 hg w27 hbox hb; have n0_ := Aside0.mk (below_step sq55 hb); have n1_ := Aside0.mk (hbox); have n2_ := Aside0.mk ((by rw [hg]; exact (below_size sq55) : w.heap.size ≤ gb163)); have n3_ := Aside0.mk ((by rw [hg]; exact (below_size sq55) : w.heap.size ≤ gb163)); clear HB; have HB := n0_; have BK163 := n1_; have GW163 := n2_; have GE163 := n3_; clear n0_ n1_ n2_ n3_; clear hb hbox hg; have hcz28_0 : w27.cell? ⟨gb163, 0, none⟩ = some (.int .i64 a0_0) := (blk_cell BK163.out 0).trans rfl; have hcz28_1 : w27.cell? ⟨gb163, 1, none⟩ = some (.int .i64 a0_1) := (blk_cell BK163.out 1).trans rfl; have hcz28_2 : w27.cell? ⟨gb163, 2, none⟩ = some (.string a0_2) := (blk_cell BK163.out 2).trans rfl; have hfz28_0 := blk_frozen BK163.out 0; have hfz28_1 := blk_frozen BK163.out 1; have hfz28_2 := blk_frozen BK163.out 2) | ((with_reducible refine gate_callee (f := 39) rfl ?_); refine goesL_ (some 6) rfl rfl Try.func39 sq1 rfl #[.int .i64 a0_0] rfl sq56 ?_; (with_reducible refine (clause_parts.calls k a0_0 t164 _ A2.out).mono ?_); rintro e w' ⟨rfl, ⟨nd, rfl⟩⟩; refine ⟨_, rfl, ?_⟩))
    go_ret
    exact ⟨sq23, sq65⟩
   rw [if_neg c21] at H
   have c21b0 : decide (t164 < 0) = false := decide_eq_false c21; clear c21
   obtain rfl := Option.some.inj H
   go_enter Try.func32, Try.ntmps32
   go_wp2_with (first | ((with_reducible refine gate_dst (N := 1) rfl ?_); refine box_event ?hg (N := 1) ?hd (cs := #[.int .i64 a0_0, .int .i64 a0_1, .string a0_2]) (t := 43) ?hr ?_; (case hd => rfl); (case hg => rfl); (case hr => first | (go_simp; done) | (go_simp; rfl)); intro gb163 hg w29 hbox hb; have n0_ := Aside0.mk (below_step sq55 hb); have n1_ := Aside0.mk (hbox); have n2_ := Aside0.mk ((by rw [hg]; exact (below_size sq55) : w.heap.size ≤ gb163)); have n3_ := Aside0.mk ((by rw [hg]; exact (below_size sq55) : w.heap.size ≤ gb163)); clear HB; have HB := n0_; have BK163 := n1_; have GW163 := n2_; have GE163 := n3_; clear n0_ n1_ n2_ n3_; clear hb hbox hg; have hcz30_0 : w29.cell? ⟨gb163, 0, none⟩ = some (.int .i64 a0_0) := (blk_cell BK163.out 0).trans rfl; have hcz30_1 : w29.cell? ⟨gb163, 1, none⟩ = some (.int .i64 a0_1) := (blk_cell BK163.out 1).trans rfl; have hcz30_2 : w29.cell? ⟨gb163, 2, none⟩ = some (.string a0_2) := (blk_cell BK163.out 2).trans rfl; have hfz30_0 := blk_frozen BK163.out 0; have hfz30_1 := blk_frozen BK163.out 1; have hfz30_2 := blk_frozen BK163.out 2) | ((with_reducible refine gate_callee (f := 39) rfl ?_); refine goesL_ (some 6) rfl rfl Try.func39 sq1 rfl #[.int .i64 a0_0] rfl sq56 ?_; (with_reducible refine (clause_parts.calls k a0_0 t164 _ A2.out).mono ?_); rintro e w' ⟨rfl, ⟨nd, rfl⟩⟩; refine ⟨_, rfl, ?_⟩))
   go_ret
   exact ⟨sq23, sq65⟩
  rw [if_neg c4] at H
  have c4b0 : decide (a0_0 ≤ 23) = false := decide_eq_false c4; clear c4
  obtain rfl := Option.some.inj H
  go_enter Try.func32, Try.ntmps32
  go_wp2_with (first | ((with_reducible refine gate_dst (N := 1) rfl ?_); refine box_event ?hg (N := 1) ?hd (cs := #[.int .i64 a0_0, .int .i64 a0_1, .string a0_2]) (t := 43) ?hr ?_; (case hd => rfl); (case hg => rfl); (case hr => first | (go_simp; done) | (go_simp; rfl)); intro gb163 hg w31 hbox hb; have n0_ := Aside0.mk (below_step sq55 hb); have n1_ := Aside0.mk (hbox); have n2_ := Aside0.mk ((by rw [hg]; exact (below_size sq55) : w.heap.size ≤ gb163)); have n3_ := Aside0.mk ((by rw [hg]; exact (below_size sq55) : w.heap.size ≤ gb163)); clear HB; have HB := n0_; have BK163 := n1_; have GW163 := n2_; have GE163 := n3_; clear n0_ n1_ n2_ n3_; clear hb hbox hg; have hcz32_0 : w31.cell? ⟨gb163, 0, none⟩ = some (.int .i64 a0_0) := (blk_cell BK163.out 0).trans rfl; have hcz32_1 : w31.cell? ⟨gb163, 1, none⟩ = some (.int .i64 a0_1) := (blk_cell BK163.out 1).trans rfl; have hcz32_2 : w31.cell? ⟨gb163, 2, none⟩ = some (.string a0_2) := (blk_cell BK163.out 2).trans rfl; have hfz32_0 := blk_frozen BK163.out 0; have hfz32_1 := blk_frozen BK163.out 1; have hfz32_2 := blk_frozen BK163.out 2) | ((with_reducible refine gate_callee (f := 39) rfl ?_); refine goesL_ (some 6) rfl rfl Try.func39 sq1 rfl #[.int .i64 a0_0] rfl sq56 ?_; (with_reducible refine (clause_parts.calls k a0_0 t164 _ A2.out).mono ?_); rintro e w' ⟨rfl, ⟨nd, rfl⟩⟩; refine ⟨_, rfl, ?_⟩))
  go_ret
  exact ⟨sq23, sq65⟩
 rw [if_neg c3] at H
 have c3b0 : decide (1 ≤ a0_0) = false := decide_eq_false c3; clear c3
 obtain rfl := Option.some.inj H
 go_enter Try.func32, Try.ntmps32
 go_wp2_with (first | ((with_reducible refine gate_dst (N := 1) rfl ?_); refine box_event ?hg (N := 1) ?hd (cs := #[.int .i64 a0_0, .int .i64 a0_1, .string a0_2]) (t := 43) ?hr ?_; (case hd => rfl); (case hg => rfl); (case hr => first | (go_simp; done) | (go_simp; rfl)); intro gb163 hg w33 hbox hb; have n0_ := Aside0.mk (below_step sq55 hb); have n1_ := Aside0.mk (hbox); have n2_ := Aside0.mk ((by rw [hg]; exact (below_size sq55) : w.heap.size ≤ gb163)); have n3_ := Aside0.mk ((by rw [hg]; exact (below_size sq55) : w.heap.size ≤ gb163)); clear HB; have HB := n0_; have BK163 := n1_; have GW163 := n2_; have GE163 := n3_; clear n0_ n1_ n2_ n3_; clear hb hbox hg; have hcz34_0 : w33.cell? ⟨gb163, 0, none⟩ = some (.int .i64 a0_0) := (blk_cell BK163.out 0).trans rfl; have hcz34_1 : w33.cell? ⟨gb163, 1, none⟩ = some (.int .i64 a0_1) := (blk_cell BK163.out 1).trans rfl; have hcz34_2 : w33.cell? ⟨gb163, 2, none⟩ = some (.string a0_2) := (blk_cell BK163.out 2).trans rfl; have hfz34_0 := blk_frozen BK163.out 0; have hfz34_1 := blk_frozen BK163.out 1; have hfz34_2 := blk_frozen BK163.out 2) | ((with_reducible refine gate_callee (f := 39) rfl ?_); refine goesL_ (some 6) rfl rfl Try.func39 sq1 rfl #[.int .i64 a0_0] rfl sq56 ?_; (with_reducible refine (clause_parts.calls k a0_0 t164 _ A2.out).mono ?_); rintro e w' ⟨rfl, ⟨nd, rfl⟩⟩; refine ⟨_, rfl, ?_⟩))
 go_ret
 exact ⟨sq23, sq65⟩

/-! ### clause_whole: function 22 -/
mutual
def clause_whole.l0 : Nat → List Int → List (S43) → Int → Int → Option (Int × Bool)
 | 0, _, _, _, _ => none
 | k + 1, x4, x10, x11, x12 => if x12 < x11 then (if 0 ≤ x12 then (if x12 < (x10.length : Int) then ((clause_node.f k ((rd_T43 x10 x12).f0) ((rd_T43 x10 x12).f1) ((rd_T43 x10 x12).f2)).bind fun t171 => (if t171 = true then (clause_whole.j1 k x4 x10 x11 x12 (decide (((rd_T43 x10 x12).f1) > (x4.length : Int))) ((rd_T43 x10 x12).f0) ((rd_T43 x10 x12).f1) ((rd_T43 x10 x12).f2)) else (clause_whole.j1 k x4 x10 x11 x12 true ((rd_T43 x10 x12).f0) ((rd_T43 x10 x12).f1) ((rd_T43 x10 x12).f2)))) else (none)) else (none)) else (if (x4.length : Int) = 1 then (if 0 < (x4.length : Int) then (some (rd x4 0, true)) else (none)) else (some (0, false)))
def clause_whole.j1 : Nat → List Int → List (S43) → Int → Int → Bool → Int → Int → ByteArray → Option (Int × Bool)
 | 0, _, _, _, _, _, _, _, _ => none
 | k + 1, x4, x10, x11, x12, x25, x171000, x171001, x171002 => if x25 = true then (some (0, false)) else (if 0 ≤ (wrap64 ((x4.length : Int) - x171001)) then (if (wrap64 ((x4.length : Int) - x171001)) ≤ (x4.length : Int) then ((some (x4.drop ((wrap64 ((x4.length : Int) - x171001)) : Int).toNat : List Int)).bind fun y172 => (clause_whole.l1 k x4 0 x10 x11 x12 y172 (y172.length : Int) 0 x171000 x171001 x171002)) else (none)) else (none))
def clause_whole.l1 : Nat → List Int → Int → List (S43) → Int → Int → List Int → Int → Int → Int → Int → ByteArray → Option (Int × Bool)
 | 0, _, _, _, _, _, _, _, _, _, _, _ => none
 | k + 1, x4, x7, x10, x11, x12, x32, x33, x34, x171000, x171001, x171002 => if x34 < x33 then (if 0 ≤ x34 then (if x34 < (x32.length : Int) then (clause_whole.l1 k x4 (mx x7 (rd x32 x34)) x10 x11 x12 x32 x33 (wrap64 (x34 + 1)) x171000 x171001 x171002) else (none)) else (none)) else (if 0 ≤ (wrap64 ((x4.length : Int) - x171001)) then (if (wrap64 ((x4.length : Int) - x171001)) ≤ (x4.length : Int) then ((some (x4.take ((wrap64 ((x4.length : Int) - x171001)) : Int).toNat : List Int)).bind fun y177 => (if y177.length < 17592186044416 then (clause_whole.l0 k (y177 ++ [wrap64 (x7 + 1)]) x10 x11 (wrap64 (x12 + 1))) else (none))) else (none)) else (none))
end
def clause_whole.f (k : Nat) (l0 : List (S43)) : Option (Int × Bool) := clause_whole.l0 k ([] : List Int) l0 (l0.length : Int) 0
theorem clause_whole.mono_l : ∀ k, (∀ y0 y1 y2 y3, LeO (clause_whole.l0 k y0 y1 y2 y3) (clause_whole.l0 (k + 1) y0 y1 y2 y3)) ∧ (∀ y0 y1 y2 y3 y4 y5 y6 y7, LeO (clause_whole.j1 k y0 y1 y2 y3 y4 y5 y6 y7) (clause_whole.j1 (k + 1) y0 y1 y2 y3 y4 y5 y6 y7)) ∧ (∀ y0 y1 y2 y3 y4 y5 y6 y7 y8 y9 y10, LeO (clause_whole.l1 k y0 y1 y2 y3 y4 y5 y6 y7 y8 y9 y10) (clause_whole.l1 (k + 1) y0 y1 y2 y3 y4 y5 y6 y7 y8 y9 y10))
 | 0 => ⟨fun _ _ _ _ r h => by simp [clause_whole.l0] at h, fun _ _ _ _ _ _ _ _ r h => by simp [clause_whole.j1] at h, fun _ _ _ _ _ _ _ _ _ _ _ r h => by simp [clause_whole.l1] at h⟩
 | k + 1 => by
  obtain ⟨ih0, ih1, ih2⟩ := clause_whole.mono_l k
  refine ⟨?_, ?_, ?_⟩
  ·intro y0 y1 y2 y3
   unfold clause_whole.l0
   exact sq109
  ·intro y0 y1 y2 y3 y4 y5 y6 y7
   unfold clause_whole.j1
   exact sq109
  intro y0 y1 y2 y3 y4 y5 y6 y7 y8 y9 y10
  unfold clause_whole.l1
  exact sq109
theorem clause_whole.mono : ∀ a0 k, LeO (clause_whole.f k a0) (clause_whole.f (k + 1) a0) := by
 intro a0 k
 obtain ⟨ih0, ih1, ih2⟩ := clause_whole.mono_l k
 unfold clause_whole.f
 exact sq109
set_option maxHeartbeats 8000000 in
set_option maxRecDepth 100000 in
theorem clause_whole.calls (k : Nat) (A0 : Option Addr) (c0 : Nat) (l0 : List (S43)) (r1 : Int) (r2 : Bool) (w : World) (hG : Glob w) (hr0 : Kd.C k43 w A0 l0.length l0) (hc0 : l0.length ≤ c0) (h : clause_whole.f k l0 = some (r1, r2)) :
  Calls Try.prog 22 #[.slice A0 l0.length c0] w fun e w' => e = .returned (.tuple #[.int .i64 r1, .bool r2]) ∧ Below w.heap.size w w' := by
 have hu43 := Try.underlying43
 have HR0 := Aside0.mk hr0
 have HC0 := Aside0.mk hc0
 clear hr0 hc0
 have HB := Aside0.mk (Below.refl w.heap.size w)
 have HG := Aside0.mk hG
 clear hG
 have H : (clause_whole.l0 k ([] : List Int) l0 (l0.length : Int) 0) = some (r1, r2) := h
 clear h
 have H' := Aside0.mk H
 clear H
 go_enter Try.func22, Try.ntmps22
 go_wp2
 go_loopg [4, 12] k (fun kq v4 v12 w' => ∃ (x4_1 : List Int) (x12_1 : Int), v12 = .int .i64 x12_1 ∧ Aside0 (clause_whole.l0 kq x4_1 l0 (l0.length : Int) x12_1 = some (r1, r2)) ∧ Aside0 (kq ≤ k) ∧ Aside0 (Kd.R (Kd.int .i64) 3 w' w.heap.size (fun _ => True) v4 x4_1) ∧ Aside0 (Below w.heap.size w w'))
 case atStart => exact ⟨(([] : List Int)), (0), sq4, H', ⟨Nat.le_refl _⟩, ⟨sq57⟩, ⟨sq55⟩⟩
 case round =>
  clear H'
  obtain ⟨x4_1, x12_1, rfl, HA, HK1, HO_4, HB⟩ := hrel
  cases gk with
  | zero => exact absurd HA.out (by simp [clause_whole.l0])
  | succ k1 =>
   have H := HA.out
   clear HA
   simp only [clause_whole.l0] at H
   by_cases c2 : x12_1 < (l0.length : Int)
   ·rw [if_pos c2] at H
    have c2b0 : decide (x12_1 < (l0.length : Int)) = true := decide_eq_true c2; clear c2
    by_cases c3 : 0 ≤ x12_1
    ·rw [if_pos c3] at H
     have c3b0 : decide (0 ≤ x12_1) = true := decide_eq_true c3; clear c3
     by_cases c4 : x12_1 < (l0.length : Int)
     ·rw [if_pos c4] at H
      have c4b0 : decide (x12_1 < (l0.length : Int)) = true := decide_eq_true c4; clear c4
      have HC5 := Aside0.mk H
      clear H
      have p169 : 0 ≤ (x12_1 : Int) := of_decide_eq_true sq5
      have q169 : x12_1 < (l0.length : Int) := of_decide_eq_true sq5
      obtain ⟨ad169, e169, hx169_0, hx169_1, hx169_2⟩ := at_T43 HR0.out x12_1 p169 q169
      cases e169
      try replace hx169_0 := (HB.out.cell (World.block_lt_of_cell? w _ hx169_0)).trans hx169_0
      try replace hx169_1 := (HB.out.cell (World.block_lt_of_cell? w _ hx169_1)).trans hx169_1
      try replace hx169_2 := (HB.out.cell (World.block_lt_of_cell? w _ hx169_2)).trans hx169_2
      replace p169 := eq_true p169
      replace q169 := eq_true q169
      go_upto_region 5 with (first | ((with_reducible refine gate_dst (N := 6) rfl ?_); (try (refine gate_guard (by rfl) ?_; dsimp only)); refine box_event ?hg (N := 6) ?hd (cs := #[.int .i64 0, .int .i64 0, .string (⟨#[]⟩ : ByteArray)]) (t := 43) ?hr ?_; (case hd => rfl); (case hg => rfl); (case hr => first | (go_simp; done) | (go_simp; rfl)); intro gb170 hg w6 hbox hb; have n0_ := Aside0.mk (Kd.R_below sq24 hb); have n1_ := Aside0.mk (below_step sq55 hb); have n2_ := Aside0.mk (hbox); have n3_ := Aside0.mk ((by rw [hg]; exact (below_size sq55) : w.heap.size ≤ gb170)); have n4_ := Aside0.mk ((by rw [hg]; exact (below_size sq55) : w.heap.size ≤ gb170)); clear HO_4; clear HB; have HO_4 := n0_; have HB := n1_; have BK170 := n2_; have GW170 := n3_; have GE170 := n4_; clear n0_ n1_ n2_ n3_ n4_; clear hb hbox hg; have hcz7_0 : w6.cell? ⟨gb170, 0, none⟩ = some (.int .i64 0) := (blk_cell BK170.out 0).trans rfl; have hcz7_1 : w6.cell? ⟨gb170, 1, none⟩ = some (.int .i64 0) := (blk_cell BK170.out 1).trans rfl; have hcz7_2 : w6.cell? ⟨gb170, 2, none⟩ = some (.string (⟨#[]⟩ : ByteArray)) := (blk_cell BK170.out 2).trans rfl; have hfz7_0 := blk_frozen BK170.out 0; have hfz7_1 := blk_frozen BK170.out 1; have hfz7_2 := blk_frozen BK170.out 2))
      (try simp only [Act.put, List.setIfInBounds_toArray, List.set_cons_zero, List.set_cons_succ])
      go_cut [25] (fun v25 wc => ∃ (kq : Nat) (x25_4 : Bool), v25 = .bool x25_4 ∧ Aside0 (clause_whole.j1 kq x4_1 l0 (l0.length : Int) x12_1 x25_4 ((rd_T43 l0 x12_1).f0) ((rd_T43 l0 x12_1).f1) ((rd_T43 l0 x12_1).f2) = some (r1, r2)) ∧ Aside0 (kq ≤ k1) ∧ Aside0 (Kd.R (Kd.int .i64) 3 wc w.heap.size (fun _ => True) u4 x4_1) ∧ Aside0 (wc.heap[gb170]? = some (.cells #[.int .i64 ((rd_T43 l0 x12_1).f0), .int .i64 ((rd_T43 l0 x12_1).f1), .string ((rd_T43 l0 x12_1).f2)] 43 (0, 0))) ∧ Aside0 (Below w.heap.size w wc))
      case first =>
       have H := HC5.out
       clear HC5
       replace H := Option.bind_eq_some_iff.mp H
       obtain ⟨t171, A80, H⟩ := H
       replace H : (if t171 = true then (clause_whole.j1 k1 x4_1 l0 (l0.length : Int) x12_1 (decide (((rd_T43 l0 x12_1).f1) > (x4_1.length : Int))) ((rd_T43 l0 x12_1).f0) ((rd_T43 l0 x12_1).f1) ((rd_T43 l0 x12_1).f2)) else (clause_whole.j1 k1 x4_1 l0 (l0.length : Int) x12_1 true ((rd_T43 l0 x12_1).f0) ((rd_T43 l0 x12_1).f1) ((rd_T43 l0 x12_1).f2))) = some (r1, r2) := H
       have A8 := Aside0.mk A80
       clear A80
       by_cases c9 : t171 = true
       ·subst c9
        replace H := (itT_ _ _).symm.trans H
        have H' := Aside0.mk H
        clear H
        have hcz10_0 : w6.cell? ⟨gb170, 0, none⟩ = some (.int .i64 0) := (blk_cell BK170.out 0).trans rfl
        have hcz10_1 : w6.cell? ⟨gb170, 1, none⟩ = some (.int .i64 0) := (blk_cell BK170.out 1).trans rfl
        have hcz10_2 : w6.cell? ⟨gb170, 2, none⟩ = some (.string (⟨#[]⟩ : ByteArray)) := (blk_cell BK170.out 2).trans rfl
        have hfz10_0 := blk_frozen BK170.out 0
        have hfz10_1 := blk_frozen BK170.out 1
        have hfz10_2 := blk_frozen BK170.out 2
        go_wp2_with (first | ((with_reducible refine gate_callee (f := 32) rfl ?_); refine goesL_ (some 17) rfl rfl Try.func32 sq1 rfl #[.agg #[.int .i64 ((rd_T43 l0 x12_1).f0), .int .i64 ((rd_T43 l0 x12_1).f1), .string ((rd_T43 l0 x12_1).f2)]] rfl sq56 ?_; (with_reducible refine (clause_node.calls k1 ((rd_T43 l0 x12_1).f0) ((rd_T43 l0 x12_1).f1) ((rd_T43 l0 x12_1).f2) true _ ?side1 A8.out).mono ?_); (case side1 => exact Glob.below HG.out sq66); rintro e w11 ⟨rfl, hb⟩; refine ⟨_, rfl, ?_⟩; have n0_ := Aside0.mk (Kd.R_below sq99 hb); have n1_ := Aside0.mk (blk_below (g := gb170) (o := .cells #[.int .i64 ((rd_T43 l0 x12_1).f0), .int .i64 ((rd_T43 l0 x12_1).f1), .string ((rd_T43 l0 x12_1).f2)] 43 (0, 0)) sq136 hb); have n2_ := Aside0.mk (below_step sq66 hb); clear HO_4; clear BK170; clear HB; have HO_4 := n0_; have BK170 := n1_; have HB := n2_; clear n0_ n1_ n2_; (try clear hb); (try clear hb2); (try clear hk); (try clear hi); have hcz12_0 : w11.cell? ⟨gb170, 0, none⟩ = some (.int .i64 ((rd_T43 l0 x12_1).f0)) := (blk_cell BK170.out 0).trans rfl; have hcz12_1 : w11.cell? ⟨gb170, 1, none⟩ = some (.int .i64 ((rd_T43 l0 x12_1).f1)) := (blk_cell BK170.out 1).trans rfl; have hcz12_2 : w11.cell? ⟨gb170, 2, none⟩ = some (.string ((rd_T43 l0 x12_1).f2)) := (blk_cell BK170.out 2).trans rfl; have hfz12_0 := blk_frozen BK170.out 0; have hfz12_1 := blk_frozen BK170.out 1; have hfz12_2 := blk_frozen BK170.out 2; obtain ⟨Ao13, co13, eo13⟩ := Kd.R_slice HO_4.out; subst eo13))
        go_meet
        case rel => exact ⟨_, (decide (((rd_T43 l0 x12_1).f1) > (x4_1.length : Int))), sq4, H', ⟨by have := HK1.out; first | omega | exact Nat.le_refl _⟩, ⟨sq24⟩, ⟨sq43⟩, ⟨sq66⟩⟩
       replace c9 := Bool.eq_false_iff.mpr c9
       subst c9
       replace H := (itF_ _ _).symm.trans H
       have H' := Aside0.mk H
       clear H
       have hcz14_0 : w6.cell? ⟨gb170, 0, none⟩ = some (.int .i64 0) := (blk_cell BK170.out 0).trans rfl
       have hcz14_1 : w6.cell? ⟨gb170, 1, none⟩ = some (.int .i64 0) := (blk_cell BK170.out 1).trans rfl
       have hcz14_2 : w6.cell? ⟨gb170, 2, none⟩ = some (.string (⟨#[]⟩ : ByteArray)) := (blk_cell BK170.out 2).trans rfl
       have hfz14_0 := blk_frozen BK170.out 0
       have hfz14_1 := blk_frozen BK170.out 1
       have hfz14_2 := blk_frozen BK170.out 2
       go_wp2_with (first | ((with_reducible refine gate_callee (f := 32) rfl ?_); refine goesL_ (some 17) rfl rfl Try.func32 sq1 rfl #[.agg #[.int .i64 ((rd_T43 l0 x12_1).f0), .int .i64 ((rd_T43 l0 x12_1).f1), .string ((rd_T43 l0 x12_1).f2)]] rfl sq56 ?_; (with_reducible refine (clause_node.calls k1 ((rd_T43 l0 x12_1).f0) ((rd_T43 l0 x12_1).f1) ((rd_T43 l0 x12_1).f2) false _ ?side1 A8.out).mono ?_); (case side1 => exact Glob.below HG.out sq66); rintro e w15 ⟨rfl, hb⟩; refine ⟨_, rfl, ?_⟩; have n0_ := Aside0.mk (Kd.R_below sq99 hb); have n1_ := Aside0.mk (blk_below (g := gb170) (o := .cells #[.int .i64 ((rd_T43 l0 x12_1).f0), .int .i64 ((rd_T43 l0 x12_1).f1), .string ((rd_T43 l0 x12_1).f2)] 43 (0, 0)) sq136 hb); have n2_ := Aside0.mk (below_step sq66 hb); clear HO_4; clear BK170; clear HB; have HO_4 := n0_; have BK170 := n1_; have HB := n2_; clear n0_ n1_ n2_; (try clear hb); (try clear hb2); (try clear hk); (try clear hi)))
       go_meet
       case rel => exact ⟨_, (true), sq4, H', ⟨by have := HK1.out; first | omega | exact Nat.le_refl _⟩, ⟨sq24⟩, ⟨sq43⟩, ⟨sq66⟩⟩
      case rest =>
       clear HC5; try clear p1; try clear q1; try clear hx1; try clear c2; try clear c2b0; try clear p2; try clear c3; try clear c3b0; try clear c4; try clear c4b0; try clear c9; try clear hcz10_0; try clear hcz10_1; try clear hcz10_2; try clear hcz12_0; try clear hcz12_1; try clear hcz12_2; try clear hcz14_0; try clear hcz14_1; try clear hcz14_2; try clear hcz7_0; try clear hcz7_1; try clear hcz7_2; try clear hfz10_0; try clear hfz10_1; try clear hfz10_2; try clear hfz12_0; try clear hfz12_1; try clear hfz12_2; try clear hfz14_0; try clear hfz14_1; try clear hfz14_2; try clear hfz7_0; try clear hfz7_1; try clear hfz7_2; try clear hx169_0; try clear hx169_1; try clear hx169_2; try clear p169; try clear q169
       obtain ⟨kq, x25_4, rfl, HA, HJ4, HO_4, BK170, HB⟩ := hcut
       cases kq with
       | zero => exact absurd HA.out (by simp [clause_whole.j1])
       | succ kj4 =>
        have H := HA.out
        clear HA
        simp only [clause_whole.j1] at H
        by_cases c16 : x25_4 = true
        ·subst c16
         replace H := (itT_ _ _).symm.trans H
         simp only [Option.some.injEq, Prod.mk.injEq] at H
         obtain ⟨rfl, rfl⟩ := H
         go_wp2
         go_ret2
         exact ⟨sq23, sq66⟩
        replace c16 := Bool.eq_false_iff.mpr c16
        subst c16
        replace H := (itF_ _ _).symm.trans H
        obtain ⟨ji17, hji17⟩ : ∃ j_ : Int, (wrap64 ((x4_1.length : Int) - ((rd_T43 l0 x12_1).f1))) = j_ := ⟨_, rfl⟩
        replace H : (if 0 ≤ (ji17) then (if (ji17) ≤ (x4_1.length : Int) then ((some (x4_1.drop ((ji17) : Int).toNat : List Int)).bind fun y172 => (clause_whole.l1 kj4 x4_1 0 l0 (l0.length : Int) x12_1 y172 (y172.length : Int) 0 ((rd_T43 l0 x12_1).f0) ((rd_T43 l0 x12_1).f1) ((rd_T43 l0 x12_1).f2))) else (none)) else (none)) = some (r1, r2) := by first | (rw [hji17] at H; exact H) | (simp only [hji17] at H ⊢; exact H)
        have hji17w : (IntKind.i64.wrap ((x4_1.length : Int) - ((rd_T43 l0 x12_1).f1))) = ji17 := (i64_w _).trans hji17
        by_cases c18 : 0 ≤ (ji17)
        ·rw [if_pos c18] at H
         have c18b0 := eq_true c18
         have c18b1 : decide (0 ≤ (ji17)) = true := decide_eq_true c18
         clear c18
         by_cases c19 : (ji17) ≤ (x4_1.length : Int)
         ·rw [if_pos c19] at H
          have c19b0 := eq_true c19
          have c19b1 : decide ((ji17) ≤ (x4_1.length : Int)) = true := decide_eq_true c19
          clear c19
          obtain ⟨y172, hy172⟩ : ∃ y_ : List Int, y_ = (x4_1.drop ((ji17) : Int).toNat) := ⟨_, rfl⟩
          replace H : (clause_whole.l1 kj4 x4_1 0 l0 (l0.length : Int) x12_1 y172 (y172.length : Int) 0 ((rd_T43 l0 x12_1).f0) ((rd_T43 l0 x12_1).f1) ((rd_T43 l0 x12_1).f2)) = some (r1, r2) := by first | (rw [hy172]; with_reducible exact H) | (have H2_ := (Option.bind_some _ _).symm.trans H; rw [hy172]; with_reducible exact H2_) | (have H2_ := (Option.bind_some _ _).symm.trans H; with_reducible exact H2_) | with_reducible exact H | (rw [hy172]; exact H) | exact H
          have Ny172 := Aside0.mk hy172
          clear hy172
          have H' := Aside0.mk H
          clear H
          obtain ⟨Ao20, co20, eo20⟩ := Kd.R_slice HO_4.out
          subst eo20
          have hcz21_0 : wc.cell? ⟨gb170, 0, none⟩ = some (.int .i64 ((rd_T43 l0 x12_1).f0)) := (blk_cell BK170.out 0).trans rfl
          have hcz21_1 : wc.cell? ⟨gb170, 1, none⟩ = some (.int .i64 ((rd_T43 l0 x12_1).f1)) := (blk_cell BK170.out 1).trans rfl
          have hcz21_2 : wc.cell? ⟨gb170, 2, none⟩ = some (.string ((rd_T43 l0 x12_1).f2)) := (blk_cell BK170.out 2).trans rfl
          have hfz21_0 := blk_frozen BK170.out 0
          have hfz21_1 := blk_frozen BK170.out 1
          have hfz21_2 := blk_frozen BK170.out 2
          have q22 : ((ji17) : Int) ≤ ((x4_1.length : Int) : Int) := of_decide_eq_true sq5
          obtain ⟨i022, hi022, _, hsz22, _⟩ := info_parts info3
          have hroom22 : x4_1.length ≤ co20 := (Kd.R_reads' HO_4.out).2.1
          have hC22 : Kd.C (Kd.int .i64) _ Ao20 x4_1.length x4_1 := (Kd.R_reads' HO_4.out).2.2
          have q022 : (0 : Int) ≤ ((ji17) : Int) := of_decide_eq_true sq5
          have hcut22 := cut_from (P := Try.prog) 35 3 .i64 Try.underlying35 hi022 1 hsz22 Ao20 x4_1.length co20 (ji17) q022 q22
          have hr22 := Kd.C_drop (m := ((ji17) : Int).toNat) (c := co20) hC22 (by omega) hroom22
          obtain ⟨A22, hA22⟩ : ∃ A1, A1 = (if co20 = ((ji17) : Int).toNat then Ao20 else (Ao20 : Option Addr).map (·.add (((ji17) : Int).toNat * 1))) := ⟨_, rfl⟩
          obtain ⟨c22, hc22⟩ : ∃ c1, c1 = co20 - ((ji17) : Int).toNat := ⟨_, rfl⟩
          have hy22 : y172.length = x4_1.length - ((ji17) : Int).toNat := (by rw [Ny172.out, List.length_drop] <;> omega)
          rw [show (x4_1).drop ((ji17) : Int).toNat = y172 from Ny172.out.symm] at hr22
          replace hr22 : Kd.C (Kd.int .i64) _ A22 y172.length y172 := (by rw [hA22]; exact hr22)
          rw [← hy22, ← hA22, ← hc22] at hcut22
          have HR175 := Aside0.mk hr22
          have HC175 := Aside0.mk (show y172.length ≤ c22 from by rw [hy22, hc22]; exact Nat.sub_le_sub_right hroom22 _)
          clear hr22 hC22 hroom22 hi022 hsz22 hc22
          have KY22 := Aside0.mk hy22
          have KA22 := Aside0.mk hA22
          clear hy22 hA22
          have KL22 := Aside0.mk (show ((ji17) : Int).toNat ≤ x4_1.length from by omega)
          replace q22 := eq_true q22
          go_wp2
          go_loopg [7, 34] kj4 (fun kq v7 v34 w' => ∃ (x7_3 : Int) (x34_3 : Int), v7 = .int .i64 x7_3 ∧ v34 = .int .i64 x34_3 ∧ Aside0 (clause_whole.l1 kq x4_1 x7_3 l0 (l0.length : Int) x12_1 y172 (y172.length : Int) x34_3 ((rd_T43 l0 x12_1).f0) ((rd_T43 l0 x12_1).f1) ((rd_T43 l0 x12_1).f2) = some (r1, r2)) ∧ Aside0 (kq ≤ kj4) ∧ Aside0 (Kd.R (Kd.int .i64) 3 w' w.heap.size (fun _ => True) (.slice Ao20 x4_1.length co20) x4_1) ∧ Aside0 (w'.heap[gb170]? = some (.cells #[.int .i64 ((rd_T43 l0 x12_1).f0), .int .i64 ((rd_T43 l0 x12_1).f1), .string ((rd_T43 l0 x12_1).f2)] 43 (0, 0))) ∧ Aside0 (Kd.C (Kd.int .i64) w' A22 y172.length y172) ∧ Aside0 (Below w.heap.size w w'))
          case atStart => exact ⟨(0), (0), sq4, sq4, H', ⟨Nat.le_refl _⟩, ⟨sq24⟩, ⟨sq43⟩, ⟨by repeat (first | (with_reducible exact HR175.out) | (with_reducible refine Kd.C_alloc ?_ _) | (with_reducible refine Kd.C_drewN ?_ _) | (with_reducible refine Kd.C_drew ?_) | exact HR175.out)⟩, ⟨sq66⟩⟩
          case round =>
           clear H'
           try clear c1; try clear p1; try clear q1; try clear hx1; try clear c2; try clear c2b0; try clear p2; try clear q2; try clear c3; try clear c3b0; try clear c4; try clear c4b0; try clear p6; try clear c9; try clear c16; try clear p16; try clear q16; try clear hx16; try clear c18; try clear c18b0; try clear c18b1; try clear c19; try clear c19b0; try clear c19b1; try clear c22; try clear q22; try clear hcz10_0; try clear hcz10_1; try clear hcz10_2; try clear hcz12_0; try clear hcz12_1; try clear hcz12_2; try clear hcz14_0; try clear hcz14_1; try clear hcz14_2; try clear hcz21_0; try clear hcz21_1; try clear hcz21_2; try clear hcz7_0; try clear hcz7_1; try clear hcz7_2; try clear hfz10_0; try clear hfz10_1; try clear hfz10_2; try clear hfz12_0; try clear hfz12_1; try clear hfz12_2; try clear hfz14_0; try clear hfz14_1; try clear hfz14_2; try clear hfz21_0; try clear hfz21_1; try clear hfz21_2; try clear hfz7_0; try clear hfz7_1; try clear hfz7_2; try clear hx169_0; try clear hx169_1; try clear hx169_2; try clear p1; try clear p169; try clear p2; try clear q022; try clear q1; try clear q169; try clear q22
           obtain ⟨x7_3, x34_3, rfl, rfl, HA, HK3, HO_4, BK170, HR175, HB⟩ := hrel
           cases gk with
           | zero => exact absurd HA.out (by simp [clause_whole.l1])
           | succ k3 =>
            have H := HA.out
            clear HA
            simp only [clause_whole.l1] at H
            by_cases c23 : x34_3 < (y172.length : Int)
            ·rw [if_pos c23] at H
             have c23b0 : decide (x34_3 < (y172.length : Int)) = true := decide_eq_true c23; clear c23
             by_cases c24 : 0 ≤ x34_3
             ·rw [if_pos c24] at H
              have c24b0 : decide (0 ≤ x34_3) = true := decide_eq_true c24; clear c24
              by_cases c25 : x34_3 < (y172.length : Int)
              ·rw [if_pos c25] at H
               have c25b0 : decide (x34_3 < (y172.length : Int)) = true := decide_eq_true c25; clear c25
               obtain ⟨ji26, hji26⟩ : ∃ j_ : Int, (mx x7_3 (rd y172 x34_3)) = j_ := ⟨_, rfl⟩
               replace H : (clause_whole.l1 k3 x4_1 ji26 l0 (l0.length : Int) x12_1 y172 (y172.length : Int) (wrap64 (x34_3 + 1)) ((rd_T43 l0 x12_1).f0) ((rd_T43 l0 x12_1).f1) ((rd_T43 l0 x12_1).f2)) = some (r1, r2) := by first | (rw [hji26] at H; exact H) | (simp only [hji26] at H ⊢; exact H)
               have hji26_ : (if x7_3 < (rd y172 x34_3) then (rd y172 x34_3) else x7_3) = ji26 := hji26
               have H' := Aside0.mk H
               clear H
               have p176 : 0 ≤ (x34_3 : Int) := of_decide_eq_true sq5
               have q176 : x34_3 < (y172.length : Int) := of_decide_eq_true sq5
               obtain ⟨ad176, e176, hx176_0⟩ := Kd.at_int HR175.out x34_3 p176 q176
               cases e176
               try replace hx176_0 := (HB.out.cell (World.block_lt_of_cell? w _ hx176_0)).trans hx176_0
               replace p176 := eq_true p176
               replace q176 := eq_true q176
               go_wp2
               go_roundg k3
               case measure => have := HK1.out; have := HJ4.out; have := HK3.out; omega
               case rel => exact ⟨(ji26), (wrap64 (x34_3 + 1)), (by first | rfl | (simp; done) | (simp only [← hji26] <;> (first | rfl | simp)) | (simp [*]; done)), sq4, H', ⟨by have := HK1.out; have := HJ4.out; have := HK3.out; omega⟩, ⟨sq24⟩, ⟨sq43⟩, ⟨by repeat (first | (with_reducible exact HR175.out) | (with_reducible refine Kd.C_alloc ?_ _) | (with_reducible refine Kd.C_drewN ?_ _) | (with_reducible refine Kd.C_drew ?_) | exact HR175.out)⟩, ⟨sq66⟩⟩
              rw [if_neg c25] at H
              exact absurd H (by simp)
             rw [if_neg c24] at H
             exact absurd H (by simp)
            rw [if_neg c23] at H
            have c23b0 : decide (x34_3 < (y172.length : Int)) = false := decide_eq_false c23; clear c23
            obtain ⟨ji27, hji27⟩ : ∃ j_ : Int, (wrap64 ((x4_1.length : Int) - ((rd_T43 l0 x12_1).f1))) = j_ := ⟨_, rfl⟩
            replace H : (if 0 ≤ (ji27) then (if (ji27) ≤ (x4_1.length : Int) then ((some (x4_1.take ((ji27) : Int).toNat : List Int)).bind fun y177 => (if y177.length < 17592186044416 then (clause_whole.l0 k3 (y177 ++ [wrap64 (x7_3 + 1)]) l0 (l0.length : Int) (wrap64 (x12_1 + 1))) else (none))) else (none)) else (none)) = some (r1, r2) := by first | (rw [hji27] at H; exact H) | (simp only [hji27] at H ⊢; exact H)
            have hji27w : (IntKind.i64.wrap ((x4_1.length : Int) - ((rd_T43 l0 x12_1).f1))) = ji27 := (i64_w _).trans hji27
            try (obtain rfl : ji27 = ji17 := hji27.symm.trans hji17)
            by_cases c28 : 0 ≤ (ji27)
            ·rw [if_pos c28] at H
             have c28b0 := eq_true c28
             have c28b1 : decide (0 ≤ (ji27)) = true := decide_eq_true c28
             clear c28
             by_cases c29 : (ji27) ≤ (x4_1.length : Int)
             ·rw [if_pos c29] at H
              have c29b0 := eq_true c29
              have c29b1 : decide ((ji27) ≤ (x4_1.length : Int)) = true := decide_eq_true c29
              clear c29
              obtain ⟨y177, hy177⟩ : ∃ y_ : List Int, y_ = (x4_1.take ((ji27) : Int).toNat) := ⟨_, rfl⟩
              replace H : (if y177.length < 17592186044416 then (clause_whole.l0 k3 (y177 ++ [wrap64 (x7_3 + 1)]) l0 (l0.length : Int) (wrap64 (x12_1 + 1))) else (none)) = some (r1, r2) := by first | (rw [hy177]; with_reducible exact H) | (have H2_ := (Option.bind_some _ _).symm.trans H; rw [hy177]; with_reducible exact H2_) | (have H2_ := (Option.bind_some _ _).symm.trans H; with_reducible exact H2_) | with_reducible exact H | (rw [hy177]; exact H) | exact H
              have Ny177 := Aside0.mk hy177
              clear hy177
              by_cases c30 : y177.length < 17592186044416
              ·rw [if_pos c30] at H
               have LMc30 := Aside0.mk c30
               clear c30
               obtain ⟨y180, hy180⟩ : ∃ y_ : List Int, y_ = (y177 ++ [wrap64 (x7_3 + 1)]) := ⟨_, rfl⟩
               replace H : (clause_whole.l0 k3 y180 l0 (l0.length : Int) (wrap64 (x12_1 + 1))) = some (r1, r2) := by first | (rw [hy180]; with_reducible exact H) | (have H2_ := (Option.bind_some _ _).symm.trans H; rw [hy180]; with_reducible exact H2_) | (have H2_ := (Option.bind_some _ _).symm.trans H; with_reducible exact H2_) | with_reducible exact H | (rw [hy180]; exact H) | exact H
               have Ny180 := Aside0.mk hy180
               clear hy180
               have H' := Aside0.mk H
               clear H
               have hcz31_0 : wr.cell? ⟨gb170, 0, none⟩ = some (.int .i64 ((rd_T43 l0 x12_1).f0)) := (blk_cell BK170.out 0).trans rfl
               have hcz31_1 : wr.cell? ⟨gb170, 1, none⟩ = some (.int .i64 ((rd_T43 l0 x12_1).f1)) := (blk_cell BK170.out 1).trans rfl
               have hcz31_2 : wr.cell? ⟨gb170, 2, none⟩ = some (.string ((rd_T43 l0 x12_1).f2)) := (blk_cell BK170.out 2).trans rfl
               have hfz31_0 := blk_frozen BK170.out 0
               have hfz31_1 := blk_frozen BK170.out 1
               have hfz31_2 := blk_frozen BK170.out 2
               have q32 : ((ji27) : Int) ≤ ((x4_1.length : Int) : Int) := of_decide_eq_true sq5
               obtain ⟨i032, hi032, _, hsz32, _⟩ := info_parts info3
               have hcut32 := cut_to (P := Try.prog) 35 3 .i64 Try.underlying35 hi032 Ao20 x4_1.length co20 (ji27) (of_decide_eq_true sq5) q32 (Kd.R_reads' HO_4.out).2.1
               have hr32 := Kd.R_take (m := ((ji27) : Int).toNat) HO_4.out (by omega)
               have hy32 : y177.length = ((ji27) : Int).toNat := (by rw [Ny177.out, List.length_take]; omega)
               rw [← Ny177.out] at hr32
               rw [← hy32] at hr32 hcut32
               clear hy32 hi032 hsz32 HO_4
               have HO179 := Aside0.mk hr32
               clear hr32
               replace q32 := eq_true q32
               go_wp2_with (first | ((with_reducible refine gate_builtin (b := .append) (xs := #[.tmp 48, .tmp 51]) rfl ?_); (try (refine gate_guard (by rfl) ?_; dsimp only)); at_builtin; refine Kd.R_append (Kd.int .i64) (w0 := w) w.heap.size rfl (.tmp 48) (.tmp 51) 35 3 (.int .i64 0) 8 rfl Try.underlying35 info3 rfl sq0 (by omega) (.slice Ao20 y177.length co20) y177 (wrap64 (x7_3 + 1)) [.int .i64 (wrap64 (x7_3 + 1))] (fun _ => True) (fun _ => False) rfl rfl ?aP (fun _ hk => hk.elim) ?aF ?aO ?aB ?aS ?aL ?_; (case aP => exact rfl); (case aB => exact sq66); (case aF => exact (fun _ _ => trivial)); (case aO => exact (by (with_reducible repeat (first | apply Kd.R_alloc | apply Kd.R_drewN | apply Kd.R_drew)); exact HO179.out)); (case aS => exact (below_size sq66)); (case aL => have := LMc30.out; omega); intro v181 w33 ho hb hg hat; rw [← Ny180.out] at ho; have n0_ := Aside0.mk (blk_grown (g := gb170) (o := .cells #[.int .i64 ((rd_T43 l0 x12_1).f0), .int .i64 ((rd_T43 l0 x12_1).f1), .string ((rd_T43 l0 x12_1).f2)] 43 (0, 0)) sq43 hg (Kd.R_ne HO179.out BK170.out sq0)); have n1_ := Aside0.mk (hb); have n2_ := Aside0.mk (ho); clear BK170; clear HB; clear HO179; have BK170 := n0_; have HB := n1_; have HO182 := n2_; clear n0_ n1_ n2_; clear ho hb hg hat))
               go_roundg k3
               case measure => have := HK1.out; have := HJ4.out; have := HK3.out; omega
               case rel => exact ⟨(y180), (wrap64 (x12_1 + 1)), sq4, H', ⟨by have := HK1.out; have := HJ4.out; have := HK3.out; omega⟩, ⟨by (with_reducible repeat (first | apply Kd.R_alloc | apply Kd.R_drewN | apply Kd.R_drew)); exact HO182.out⟩, ⟨sq66⟩⟩
              rw [if_neg c30] at H
              exact absurd H (by simp)
             rw [if_neg c29] at H
             exact absurd H (by simp)
            rw [if_neg c28] at H
            exact absurd H (by simp)
         rw [if_neg c19] at H
         exact absurd H (by simp)
        rw [if_neg c18] at H
        exact absurd H (by simp)
     rw [if_neg c4] at H
     exact absurd H (by simp)
    rw [if_neg c3] at H
    exact absurd H (by simp)
   rw [if_neg c2] at H
   have c2b0 : decide (x12_1 < (l0.length : Int)) = false := decide_eq_false c2; clear c2
   by_cases c34 : (x4_1.length : Int) = 1
   ·rw [if_pos c34] at H
    have c34b0 : ((x4_1.length : Int) == 1) = true := beq_iff_eq.mpr c34
    have c34b1 : ((x4_1.length : Int) != 1) = false := bne_eq_false_iff_eq.mpr c34
    clear c34
    by_cases c35 : 0 < (x4_1.length : Int)
    ·rw [if_pos c35] at H
     have c35b0 : decide (0 < (x4_1.length : Int)) = true := decide_eq_true c35
     have c35b1 : decide (0 < x4_1.length) = true := decide_eq_true (by omega)
     clear c35
     simp only [Option.some.injEq, Prod.mk.injEq] at H
     obtain ⟨rfl, rfl⟩ := H
     obtain ⟨Ao36, co36, eo36⟩ := Kd.R_slice HO_4.out
     subst eo36
     have p168 : 0 ≤ (0 : Int) := (by omega)
     have q168 : 0 < (x4_1.length : Int) := of_decide_eq_true sq5
     obtain ⟨ad168, e168, hx168_0⟩ := Kd.at_int (Kd.R_reads' HO_4.out).2.2 0 p168 q168
     cases e168
     have qi168 : (0 < x4_1.length) = True := eq_true (by omega)
     (try rw [show ((0 : Int)).toNat = 0 from rfl] at hx168_0)
     (try rw [Addr.add_zero'] at hx168_0)
     replace p168 := eq_true p168
     replace q168 := eq_true q168
     go_wp2
     go_ret2
     exact ⟨sq23, sq55⟩
    rw [if_neg c35] at H
    exact absurd H (by simp)
   rw [if_neg c34] at H
   have c34b0 : ((x4_1.length : Int) == 1) = false := beq_eq_false_iff_ne.mpr c34
   have c34b1 : ((x4_1.length : Int) != 1) = true := bne_iff_ne.mpr c34
   simp only [Option.some.injEq, Prod.mk.injEq] at H
   obtain ⟨rfl, rfl⟩ := H
   obtain ⟨Ao37, co37, eo37⟩ := Kd.R_slice HO_4.out
   subst eo37
   go_wp2
   go_ret2
   exact ⟨sq23, sq55⟩

end Go.Proofs.Ytaogejkmkalnlaa.PAll
