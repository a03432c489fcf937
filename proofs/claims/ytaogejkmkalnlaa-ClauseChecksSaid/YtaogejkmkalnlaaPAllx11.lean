-- Written by a program of this session (wip/tools/print2.sh): functions as plain Lean, and that the machine's calls do what they say.
import Derived.Test.YtaogejkmkalnlaaPAllx0
import Derived.Test.YtaogejkmkalnlaaPAllx7
import Derived.Test.YtaogejkmkalnlaaPAllx9
import Derived.Test.YtaogejkmkalnlaaPAllx10
namespace Go.Proofs.Ytaogejkmkalnlaa.PAll
open Go.RowKit Go.Proofs.YtaogejkmkalnlaaW.PrintWords Go.Proofs.YtaogejkmkalnlaaW.PrintLast Go.Proofs.YtaogejkmkalnlaaW.PrintMore
attribute [local go_sem] max2_int min2_int max_two min_two max_three min_three max_four min_four   -- for this text's walks alone
set_option linter.unusedVariables false
set_option linter.unusedSimpArgs false

/-! ### tontineref17_node: function 31 -/
def tontineref17_node.j0 : Nat → Bool → Int → Int → ByteArray → Option (Bool)
 | 0, _, _, _, _ => none
 | k + 1, x12, x203000, x203001, x203002 => if x12 = true then (some false) else (if x203000 = 1 then ((tontineref17_Number.f k x203002).bind fun t205 => (some t205)) else (if x203000 = 2 then ((tontineref17_Sum.f k x203002).bind fun t206 => (some t206)) else (if x203000 = 5 then ((tontineref17_Word.f k x203002).bind fun t207 => (some t207)) else (some (x203002.toList == ([] : List UInt8))))))
def tontineref17_node.f (k : Nat) (a0_0 : Int) (a0_1 : Int) (a0_2 : ByteArray) : Option (Bool) := (tontineref17_count.f k a0_0 a0_1 a0_2).bind fun t203 => (if t203 < 0 then (tontineref17_node.j0 k true a0_0 a0_1 a0_2) else ((tontineref17_count.f k a0_0 a0_1 a0_2).bind fun t204 => (tontineref17_node.j0 k (t204 != a0_1) a0_0 a0_1 a0_2)))
theorem tontineref17_node.mono_l : ∀ k, (∀ y0 y1 y2 y3, LeO (tontineref17_node.j0 k y0 y1 y2 y3) (tontineref17_node.j0 (k + 1) y0 y1 y2 y3))
 | 0 => fun _ _ _ _ r h => by simp [tontineref17_node.j0] at h
 | k + 1 => by
  have ih0 := tontineref17_node.mono_l k
  ·intro y0 y1 y2 y3
   unfold tontineref17_node.j0
   exact sq111
theorem tontineref17_node.mono : ∀ a0 a1 a2 k, LeO (tontineref17_node.f k a0 a1 a2) (tontineref17_node.f (k + 1) a0 a1 a2) := by
 intro a0 a1 a2 k
 have ih0 := tontineref17_node.mono_l k
 unfold tontineref17_node.f
 exact sq111
def tontineref17_node.T1 : Bool × List (List Nat × List Nat) := (true, [([], []), ([0], [0]), ([1], [1]), ([2, 1], [2]), ([3], [3]), ([4, 3, 3], [3, 4]), ([3], [3]), ([6, 3], [3, 6]), ([5, 7, 3], [3, 5, 7]), ([3, 8], [3, 8])])
def tontineref17_node.B1 : List Nat := [0, 1, 3, 7, 15, 31, 15, 79, 255, 511]
theorem tontineref17_node.tab1 : rtab .any (opsOf Try.f31 1) = tontineref17_node.T1 := by kernel_rfl
theorem tontineref17_node.bits1 : waitsOk tontineref17_node.T1.2 tontineref17_node.B1 = true := by kernel_rfl
set_option maxHeartbeats 8000000 in
set_option maxRecDepth 100000 in
theorem tontineref17_node.calls (k : Nat) (a0_0 : Int) (a0_1 : Int) (a0_2 : ByteArray) (r : Bool) (w : World) (h : tontineref17_node.f k a0_0 a0_1 a0_2 = some r) :
  Calls Try.prog 31 #[.agg #[.int .i64 a0_0, .int .i64 a0_1, .string a0_2]] w fun e w' => e = .returned (.bool r) ∧ Below w.heap.size w w' := by
 have hu43 := Try.underlying43
 have HB := Aside0.mk (Below.refl w.heap.size w)
 have H : ((tontineref17_count.f k a0_0 a0_1 a0_2).bind fun t203 => (if t203 < 0 then (tontineref17_node.j0 k true a0_0 a0_1 a0_2) else ((tontineref17_count.f k a0_0 a0_1 a0_2).bind fun t204 => (tontineref17_node.j0 k (t204 != a0_1) a0_0 a0_1 a0_2)))) = some r := h
 clear h
 have HC2 := Aside0.mk H
 clear H
 go_enter Try.func31, Try.ntmps31
 go_upto_region 1 with (first | ((with_reducible refine gate_dst (N := 1) rfl ?_); refine box_event ?hg (N := 1) ?hd (cs := #[.int .i64 a0_0, .int .i64 a0_1, .string a0_2]) (t := 43) ?hr ?_; (case hd => rfl); (case hg => rfl); (case hr => first | (go_simp; done) | (go_simp; rfl)); intro gb202 hg w3 hbox hb; have n0_ := Aside0.mk (below_step sq55 hb); have n1_ := Aside0.mk (hbox); have n2_ := Aside0.mk ((by rw [hg]; exact (below_size sq55) : w.heap.size ≤ gb202)); have n3_ := Aside0.mk ((by rw [hg]; exact (below_size sq55) : w.heap.size ≤ gb202)); clear HB; have HB := n0_; have BK202 := n1_; have GW202 := n2_; have GE202 := n3_; clear n0_ n1_ n2_ n3_; clear hb hbox hg))
 (try simp only [Act.put, List.setIfInBounds_toArray, List.set_cons_zero, List.set_cons_succ])
 go_cut [12] (fun v12 wc => ∃ (kq : Nat) (x12_1 : Bool), v12 = .bool x12_1 ∧ Aside0 (tontineref17_node.j0 kq x12_1 a0_0 a0_1 a0_2 = some r) ∧ Aside0 (kq ≤ k) ∧ Aside0 (wc.heap[gb202]? = some (.cells #[.int .i64 a0_0, .int .i64 a0_1, .string a0_2] 43 (0, 0))) ∧ Aside0 (Below w.heap.size w wc))
 case first =>
  have H := HC2.out
  clear HC2
  replace H := Option.bind_eq_some_iff.mp H
  obtain ⟨t203, A40, H⟩ := H
  replace H : (if t203 < 0 then (tontineref17_node.j0 k true a0_0 a0_1 a0_2) else ((tontineref17_count.f k a0_0 a0_1 a0_2).bind fun t204 => (tontineref17_node.j0 k (t204 != a0_1) a0_0 a0_1 a0_2))) = some r := H
  have A4 := Aside0.mk A40
  clear A40
  by_cases c5 : t203 < 0
  ·rw [if_pos c5] at H
   have c5b0 : decide (t203 < 0) = true := decide_eq_true c5; clear c5
   (first | rw [c5b0] | (simp only [i64_w, i32_w]; rw [c5b0]) | skip)
   have H' := Aside0.mk H
   clear H
   try go_wp2
   have n0_ := Aside0.mk (blk_drew BK202.out)
   have n1_ := Aside0.mk (below_drew1 HB.out)
   clear BK202; clear HB
   have BK202 := n0_
   have HB := n1_
   clear n0_ n1_
   refine start_ (n := 10) (S := fun w' => w'.cell? ⟨gb202, 0, none⟩ = some (.int .i64 a0_0) ∧ w'.cell? ⟨gb202, 1, none⟩ = some (.int .i64 a0_1) ∧ w'.cell? ⟨gb202, 2, none⟩ = some (.string a0_2)) (ds := []) #[false, false, false, false, false, false, false, false, false, false] sq1 rfl rfl ⟨(blk_cell BK202.out 0).trans rfl, (blk_cell BK202.out 1).trans rfl, (blk_cell BK202.out 2).trans rfl⟩ (fun hHeld => ?_); refine with_tabW tontineref17_node.tab1 tontineref17_node.bits1 (fun HT_ HW_ => ?_)
   generalize w3.drew = w6 at BK202 HB hHeld ⊢
   refine take_ (i := 0) (N := some 3) (v := ?_) (a' := ?_) #[true, false, false, false, false, false, false, false, false, false] rfl rfl (take_ofW HT_.out HW_.out sq1) (fun _ _ _ h => h) (Or.inl ⟨by rfl, ?_⟩) hHeld ?_ ?_
   rotate_left
   ·rintro w' ⟨s0, s1, s2⟩
    go_simp
    with_reducible rfl
   rotate_left
   ·simp only [Act.put, List.setIfInBounds_toArray, List.set_cons_zero, List.set_cons_succ, i64_w, i32_w]
    rfl
   refine one_ (i := 1) (N := some 4) #[true, true, false, false, false, false, false, false, false, false] rfl rfl (one_of HT_.out sq1) sq0 (fun K hK => ?_)
   refine goes_ Try.func36 sq1 rfl #[.agg #[.int .i64 a0_0, .int .i64 a0_1, .string a0_2]] (by rfl) rfl rfl sq56 ?_
   with_reducible refine (tontineref17_count.calls k a0_0 a0_1 a0_2 t203 _ A4.out).mono ?_
   rintro e w7 ⟨rfl, hb⟩
   refine ⟨_, rfl, ?_⟩
   have n0_ := Aside0.mk (blk_below (g := gb202) (o := .cells #[.int .i64 a0_0, .int .i64 a0_1, .string a0_2] 43 (0, 0)) sq46 hb)
   have n1_ := Aside0.mk (below_step sq70 hb)
   clear BK202; clear HB
   have BK202 := n0_
   have HB := n1_
   clear n0_ n1_
   (try clear hb)
   (try clear hb2)
   (try clear hk)
   (try clear hi)
   refine hK.out _ _ ⟨(blk_cell BK202.out 0).trans rfl, (blk_cell BK202.out 1).trans rfl, (blk_cell BK202.out 2).trans rfl⟩ (fun hHeld => ?_)
   clear hK K
   refine norm_ (a' := ?_) ?_ ?_
   rotate_left
   ·show Act.put _ (some 4) _ = _
    simp only [Act.put, List.setIfInBounds_toArray, List.set_cons_zero, List.set_cons_succ, i64_w, i32_w]
    rfl
   refine pure_ (i := 2) (N := some 5) (v := ?_) (a' := ?_) #[true, true, true, false, false, false, false, false, false, false] rfl rfl (any_of HT_.out sq1) (fun _ _ _ h => h) (Or.inl ⟨by rfl, ?_⟩) ?_ ?_
   rotate_left
   ·intro w'
    go_simp
    with_reducible rfl
   rotate_left
   ·simp only [Act.put, List.setIfInBounds_toArray, List.set_cons_zero, List.set_cons_succ, i64_w, i32_w]
    rfl
   refine pure_ (i := 3) (N := some 6) (v := ?_) (a' := ?_) #[true, true, true, true, false, false, false, false, false, false] rfl rfl (any_of HT_.out sq1) (fun _ _ _ h => h) (Or.inl ⟨by rfl, ?_⟩) ?_ ?_
   rotate_left
   ·intro w'
    go_simp
    with_reducible rfl
   rotate_left
   ·simp only [Act.put, List.setIfInBounds_toArray, List.set_cons_zero, List.set_cons_succ, i64_w, i32_w]
    rfl
   refine pure_ (i := 4) (N := some 7) (v := undef) (a' := ?_) #[true, true, true, true, true, false, false, false, false, false] rfl rfl (any_of HT_.out sq1) (fun _ _ _ h => h) (Or.inr ⟨by rfl, rfl⟩) ?_ ?_
   rotate_left
   ·simp only [Act.put, List.setIfInBounds_toArray, List.set_cons_zero, List.set_cons_succ, i64_w, i32_w]
    rfl
   refine pure_ (i := 5) (N := some 8) (v := undef) (a' := ?_) #[true, true, true, true, true, true, false, false, false, false] rfl rfl (any_of HT_.out sq1) (fun _ _ _ h => h) (Or.inr ⟨by rfl, rfl⟩) ?_ ?_
   rotate_left
   ·simp only [Act.put, List.setIfInBounds_toArray, List.set_cons_zero, List.set_cons_succ, i64_w, i32_w]
    rfl
   refine pure_ (i := 6) (N := some 9) (v := undef) (a' := ?_) #[true, true, true, true, true, true, true, false, false, false] rfl rfl (any_of HT_.out sq1) (fun _ _ _ h => h) (Or.inr ⟨by rfl, rfl⟩) ?_ ?_
   rotate_left
   ·simp only [Act.put, List.setIfInBounds_toArray, List.set_cons_zero, List.set_cons_succ, i64_w, i32_w]
    rfl
   refine pure_ (i := 7) (N := some 10) (v := undef) (a' := ?_) #[true, true, true, true, true, true, true, true, false, false] rfl rfl (any_of HT_.out sq1) (fun _ _ _ h => h) (Or.inr ⟨by rfl, rfl⟩) ?_ ?_
   rotate_left
   ·simp only [Act.put, List.setIfInBounds_toArray, List.set_cons_zero, List.set_cons_succ, i64_w, i32_w]
    rfl
   refine pure_ (i := 8) (N := some 11) (v := undef) (a' := ?_) #[true, true, true, true, true, true, true, true, true, false] rfl rfl (any_of HT_.out sq1) (fun _ _ _ h => h) (Or.inr ⟨by rfl, rfl⟩) ?_ ?_
   rotate_left
   ·simp only [Act.put, List.setIfInBounds_toArray, List.set_cons_zero, List.set_cons_succ, i64_w, i32_w]
    rfl
   refine pure_ (i := 9) (N := some 12) (v := ?_) (a' := ?_) #[true, true, true, true, true, true, true, true, true, true] rfl rfl (any_of HT_.out sq1) (fun _ _ _ h => h) (Or.inl ⟨by rfl, ?_⟩) ?_ ?_
   rotate_left
   ·intro w'
    go_simp
    with_reducible rfl
   rotate_left
   ·simp only [Act.put, List.setIfInBounds_toArray, List.set_cons_zero, List.set_cons_succ, i64_w, i32_w]
    rfl
   refine done_ (done_of HT_.out sq1) ?_
   try go_wp2
   go_meet
   case rel => exact ⟨_, (true), sq4, H', ⟨sq2⟩, ⟨sq46⟩, ⟨sq70⟩⟩
  rw [if_neg c5] at H
  have c5b0 : decide (t203 < 0) = false := decide_eq_false c5; clear c5
  (first | rw [c5b0] | (simp only [i64_w, i32_w]; rw [c5b0]) | skip)
  replace H := Option.bind_eq_some_iff.mp H
  obtain ⟨t204, A80, H⟩ := H
  replace H : (tontineref17_node.j0 k (t204 != a0_1) a0_0 a0_1 a0_2) = some r := H
  have A8 := Aside0.mk A80
  clear A80
  have H' := Aside0.mk H
  clear H
  try go_wp2
  have n0_ := Aside0.mk (blk_drew BK202.out)
  have n1_ := Aside0.mk (below_drew1 HB.out)
  clear BK202; clear HB
  have BK202 := n0_
  have HB := n1_
  clear n0_ n1_
  refine start_ (n := 10) (S := fun w' => w'.cell? ⟨gb202, 0, none⟩ = some (.int .i64 a0_0) ∧ w'.cell? ⟨gb202, 1, none⟩ = some (.int .i64 a0_1) ∧ w'.cell? ⟨gb202, 2, none⟩ = some (.string a0_2)) (ds := []) #[false, false, false, false, false, false, false, false, false, false] sq1 rfl rfl ⟨(blk_cell BK202.out 0).trans rfl, (blk_cell BK202.out 1).trans rfl, (blk_cell BK202.out 2).trans rfl⟩ (fun hHeld => ?_); refine with_tabW tontineref17_node.tab1 tontineref17_node.bits1 (fun HT_ HW_ => ?_)
  generalize w3.drew = w9 at BK202 HB hHeld ⊢
  refine take_ (i := 0) (N := some 3) (v := ?_) (a' := ?_) #[true, false, false, false, false, false, false, false, false, false] rfl rfl (take_ofW HT_.out HW_.out sq1) (fun _ _ _ h => h) (Or.inl ⟨by rfl, ?_⟩) hHeld ?_ ?_
  rotate_left
  ·rintro w' ⟨s0, s1, s2⟩
   go_simp
   with_reducible rfl
  rotate_left
  ·simp only [Act.put, List.setIfInBounds_toArray, List.set_cons_zero, List.set_cons_succ, i64_w, i32_w]
   rfl
  refine one_ (i := 1) (N := some 4) #[true, true, false, false, false, false, false, false, false, false] rfl rfl (one_of HT_.out sq1) sq0 (fun K hK => ?_)
  refine goes_ Try.func36 sq1 rfl #[.agg #[.int .i64 a0_0, .int .i64 a0_1, .string a0_2]] (by rfl) rfl rfl sq56 ?_
  with_reducible refine (tontineref17_count.calls k a0_0 a0_1 a0_2 t203 _ A4.out).mono ?_
  rintro e w10 ⟨rfl, hb⟩
  refine ⟨_, rfl, ?_⟩
  have n0_ := Aside0.mk (blk_below (g := gb202) (o := .cells #[.int .i64 a0_0, .int .i64 a0_1, .string a0_2] 43 (0, 0)) sq46 hb)
  have n1_ := Aside0.mk (below_step sq70 hb)
  clear BK202; clear HB
  have BK202 := n0_
  have HB := n1_
  clear n0_ n1_
  (try clear hb)
  (try clear hb2)
  (try clear hk)
  (try clear hi)
  refine hK.out _ _ ⟨(blk_cell BK202.out 0).trans rfl, (blk_cell BK202.out 1).trans rfl, (blk_cell BK202.out 2).trans rfl⟩ (fun hHeld => ?_)
  clear hK K
  refine norm_ (a' := ?_) ?_ ?_
  rotate_left
  ·show Act.put _ (some 4) _ = _
   simp only [Act.put, List.setIfInBounds_toArray, List.set_cons_zero, List.set_cons_succ, i64_w, i32_w]
   rfl
  refine pure_ (i := 2) (N := some 5) (v := ?_) (a' := ?_) #[true, true, true, false, false, false, false, false, false, false] rfl rfl (any_of HT_.out sq1) (fun _ _ _ h => h) (Or.inl ⟨by rfl, ?_⟩) ?_ ?_
  rotate_left
  ·intro w'
   go_simp
   with_reducible rfl
  rotate_left
  ·simp only [Act.put, List.setIfInBounds_toArray, List.set_cons_zero, List.set_cons_succ, i64_w, i32_w]
   rfl
  refine pure_ (i := 3) (N := some 6) (v := ?_) (a' := ?_) #[true, true, true, true, false, false, false, false, false, false] rfl rfl (any_of HT_.out sq1) (fun _ _ _ h => h) (Or.inl ⟨by rfl, ?_⟩) ?_ ?_
  rotate_left
  ·intro w'
   go_simp
   with_reducible rfl
  rotate_left
  ·simp only [Act.put, List.setIfInBounds_toArray, List.set_cons_zero, List.set_cons_succ, i64_w, i32_w]
   rfl
  refine pure_ (i := 6) (N := some 9) (v := ?_) (a' := ?_) #[true, true, true, true, false, false, true, false, false, false] rfl rfl (any_of HT_.out sq1) (fun _ _ _ h => h) (Or.inl ⟨by rfl, ?_⟩) ?_ ?_
  rotate_left
  ·intro w'
   go_simp
   with_reducible rfl
  rotate_left
  ·simp only [Act.put, List.setIfInBounds_toArray, List.set_cons_zero, List.set_cons_succ, i64_w, i32_w]
   rfl
  refine take_ (i := 4) (N := some 7) (v := ?_) (a' := ?_) #[true, true, true, true, true, false, true, false, false, false] rfl rfl (take_ofW HT_.out HW_.out sq1) (fun _ _ _ h => h) (Or.inl ⟨by rfl, ?_⟩) hHeld ?_ ?_
  rotate_left
  ·rintro w' ⟨s0, s1, s2⟩
   go_simp
   with_reducible rfl
  rotate_left
  ·simp only [Act.put, List.setIfInBounds_toArray, List.set_cons_zero, List.set_cons_succ, i64_w, i32_w]
   rfl
  refine take_ (i := 7) (N := some 10) (v := ?_) (a' := ?_) #[true, true, true, true, true, false, true, true, false, false] rfl rfl (take_ofW HT_.out HW_.out sq1) (fun _ _ _ h => h) (Or.inl ⟨by rfl, ?_⟩) hHeld ?_ ?_
  rotate_left
  ·rintro w' ⟨s0, s1, s2⟩
   go_simp
   with_reducible rfl
  rotate_left
  ·simp only [Act.put, List.setIfInBounds_toArray, List.set_cons_zero, List.set_cons_succ, i64_w, i32_w]
   rfl
  refine one_ (i := 5) (N := some 8) #[true, true, true, true, true, true, true, true, false, false] rfl rfl (one_of HT_.out sq1) sq0 (fun K hK => ?_)
  refine goes_ Try.func36 sq1 rfl #[.agg #[.int .i64 a0_0, .int .i64 a0_1, .string a0_2]] (by rfl) rfl rfl sq56 ?_
  with_reducible refine (tontineref17_count.calls k a0_0 a0_1 a0_2 t204 _ A8.out).mono ?_
  rintro e w11 ⟨rfl, hb⟩
  refine ⟨_, rfl, ?_⟩
  have n0_ := Aside0.mk (blk_below (g := gb202) (o := .cells #[.int .i64 a0_0, .int .i64 a0_1, .string a0_2] 43 (0, 0)) sq46 hb)
  have n1_ := Aside0.mk (below_step sq70 hb)
  clear BK202; clear HB
  have BK202 := n0_
  have HB := n1_
  clear n0_ n1_
  (try clear hb)
  (try clear hb2)
  (try clear hk)
  (try clear hi)
  refine hK.out _ _ ⟨(blk_cell BK202.out 0).trans rfl, (blk_cell BK202.out 1).trans rfl, (blk_cell BK202.out 2).trans rfl⟩ (fun hHeld => ?_)
  clear hK K
  refine norm_ (a' := ?_) ?_ ?_
  rotate_left
  ·show Act.put _ (some 8) _ = _
   simp only [Act.put, List.setIfInBounds_toArray, List.set_cons_zero, List.set_cons_succ, i64_w, i32_w]
   rfl
  refine pure_ (i := 8) (N := some 11) (v := ?_) (a' := ?_) #[true, true, true, true, true, true, true, true, true, false] rfl rfl (any_of HT_.out sq1) (fun _ _ _ h => h) (Or.inl ⟨by rfl, ?_⟩) ?_ ?_
  rotate_left
  ·intro w'
   go_simp
   with_reducible rfl
  rotate_left
  ·simp only [Act.put, List.setIfInBounds_toArray, List.set_cons_zero, List.set_cons_succ, i64_w, i32_w]
   rfl
  refine pure_ (i := 9) (N := some 12) (v := ?_) (a' := ?_) #[true, true, true, true, true, true, true, true, true, true] rfl rfl (any_of HT_.out sq1) (fun _ _ _ h => h) (Or.inl ⟨by rfl, ?_⟩) ?_ ?_
  rotate_left
  ·intro w'
   go_simp
   with_reducible rfl
  rotate_left
  ·simp only [Act.put, List.setIfInBounds_toArray, List.set_cons_zero, List.set_cons_succ, i64_w, i32_w]
   rfl
  refine done_ (done_of HT_.out sq1) ?_
  try go_wp2
  go_meet
  case rel => exact ⟨_, ((t204 != a0_1)), sq4, H', ⟨sq2⟩, ⟨sq46⟩, ⟨sq70⟩⟩
 case rest =>
  clear HC2; try clear p2; try clear c3; try clear c5; try clear c5b0
  obtain ⟨kq, x12_1, rfl, HA, HJ1, BK202, HB⟩ := hcut
  cases kq with
  | zero => exact absurd HA.out (by simp [tontineref17_node.j0])
  | succ kj1 =>
   have H := HA.out
   clear HA
   simp only [tontineref17_node.j0] at H
   by_cases c12 : x12_1 = true
   ·subst c12
    replace H := (itT_ _ _).symm.trans H
    obtain rfl := Option.some.inj H
    go_wp2
    go_ret
    exact ⟨sq23, sq70⟩
   replace c12 := Bool.eq_false_iff.mpr c12
   subst c12
   replace H := (itF_ _ _).symm.trans H
   by_cases c13 : a0_0 = 1
   ·rw [if_pos c13] at H
    have c13b0 : (a0_0 == 1) = true := beq_iff_eq.mpr c13
    have c13b1 : (a0_0 != 1) = false := bne_eq_false_iff_eq.mpr c13
    clear c13
    replace H := Option.bind_eq_some_iff.mp H
    obtain ⟨t205, A140, H⟩ := H
    replace H : (some t205) = some r := H
    have A14 := Aside0.mk A140
    clear A140
    obtain rfl := Option.some.inj H
    have hcz15_0 : wc.cell? ⟨gb202, 0, none⟩ = some (.int .i64 a0_0) := (blk_cell BK202.out 0).trans rfl
    have hcz15_1 : wc.cell? ⟨gb202, 1, none⟩ = some (.int .i64 a0_1) := (blk_cell BK202.out 1).trans rfl
    have hcz15_2 : wc.cell? ⟨gb202, 2, none⟩ = some (.string a0_2) := (blk_cell BK202.out 2).trans rfl
    have hfz15_0 := blk_frozen BK202.out 0
    have hfz15_1 := blk_frozen BK202.out 1
    have hfz15_2 := blk_frozen BK202.out 2
    go_wp2_with (first | ((with_reducible refine gate_callee (f := 37) rfl ?_); refine goesL_ (some 19) rfl rfl Try.func37 sq1 rfl #[.string a0_2] rfl sq56 ?_; (with_reducible refine (tontineref17_Number.calls kj1 a0_2 t205 _ A14.out).mono ?_); rintro e w' ⟨rfl, ⟨nd, rfl⟩⟩; refine ⟨_, rfl, ?_⟩))
    go_ret
    exact ⟨sq23, sq70⟩
   rw [if_neg c13] at H
   have c13b0 : (a0_0 == 1) = false := beq_eq_false_iff_ne.mpr c13
   have c13b1 : (a0_0 != 1) = true := bne_iff_ne.mpr c13
   by_cases c16 : a0_0 = 2
   ·rw [if_pos c16] at H
    have c16b0 : (a0_0 == 2) = true := beq_iff_eq.mpr c16
    have c16b1 : (a0_0 != 2) = false := bne_eq_false_iff_eq.mpr c16
    clear c16
    replace H := Option.bind_eq_some_iff.mp H
    obtain ⟨t206, A170, H⟩ := H
    replace H : (some t206) = some r := H
    have A17 := Aside0.mk A170
    clear A170
    obtain rfl := Option.some.inj H
    have hcz18_0 : wc.cell? ⟨gb202, 0, none⟩ = some (.int .i64 a0_0) := (blk_cell BK202.out 0).trans rfl
    have hcz18_1 : wc.cell? ⟨gb202, 1, none⟩ = some (.int .i64 a0_1) := (blk_cell BK202.out 1).trans rfl
    have hcz18_2 : wc.cell? ⟨gb202, 2, none⟩ = some (.string a0_2) := (blk_cell BK202.out 2).trans rfl
    have hfz18_0 := blk_frozen BK202.out 0
    have hfz18_1 := blk_frozen BK202.out 1
    have hfz18_2 := blk_frozen BK202.out 2
    go_wp2_with (first | ((with_reducible refine gate_callee (f := 38) rfl ?_); refine goesL_ (some 24) rfl rfl Try.func38 sq1 rfl #[.string a0_2] rfl sq56 ?_; (with_reducible refine (tontineref17_Sum.calls kj1 a0_2 t206 _ A17.out).mono ?_); rintro e w' ⟨rfl, ⟨nd, rfl⟩⟩; refine ⟨_, rfl, ?_⟩))
    go_ret
    exact ⟨sq23, sq70⟩
   rw [if_neg c16] at H
   have c16b0 : (a0_0 == 2) = false := beq_eq_false_iff_ne.mpr c16
   have c16b1 : (a0_0 != 2) = true := bne_iff_ne.mpr c16
   by_cases c19 : a0_0 = 5
   ·rw [if_pos c19] at H
    have c19b0 : (a0_0 == 5) = true := beq_iff_eq.mpr c19
    have c19b1 : (a0_0 != 5) = false := bne_eq_false_iff_eq.mpr c19
    clear c19
    replace H := Option.bind_eq_some_iff.mp H
    obtain ⟨t207, A200, H⟩ := H
    replace H : (some t207) = some r := H
    have A20 := Aside0.mk A200
    clear A200
    obtain rfl := Option.some.inj H
    have hcz21_0 : wc.cell? ⟨gb202, 0, none⟩ = some (.int .i64 a0_0) := (blk_cell BK202.out 0).trans rfl
    have hcz21_1 : wc.cell? ⟨gb202, 1, none⟩ = some (.int .i64 a0_1) := (blk_cell BK202.out 1).trans rfl
    have hcz21_2 : wc.cell? ⟨gb202, 2, none⟩ = some (.string a0_2) := (blk_cell BK202.out 2).trans rfl
    have hfz21_0 := blk_frozen BK202.out 0
    have hfz21_1 := blk_frozen BK202.out 1
    have hfz21_2 := blk_frozen BK202.out 2
    go_wp2_with (first | ((with_reducible refine gate_callee (f := 30) rfl ?_); refine goesL_ (some 29) rfl rfl Try.func30 sq1 rfl #[.string a0_2] rfl sq56 ?_; (with_reducible refine (tontineref17_Word.calls kj1 a0_2 t207 _ A20.out).mono ?_); rintro e w22 ⟨rfl, hb⟩; refine ⟨_, rfl, ?_⟩; have n0_ := Aside0.mk (blk_below (g := gb202) (o := .cells #[.int .i64 a0_0, .int .i64 a0_1, .string a0_2] 43 (0, 0)) sq46 hb); have n1_ := Aside0.mk (below_step sq70 hb); clear BK202; clear HB; have BK202 := n0_; have HB := n1_; clear n0_ n1_; (try clear hb); (try clear hb2); (try clear hk); (try clear hi)))
    go_ret
    exact ⟨sq23, sq70⟩
   rw [if_neg c19] at H
   have c19b0 : (a0_0 == 5) = false := beq_eq_false_iff_ne.mpr c19
   have c19b1 : (a0_0 != 5) = true := bne_iff_ne.mpr c19
   obtain rfl := Option.some.inj H
   have hcz23_0 : wc.cell? ⟨gb202, 0, none⟩ = some (.int .i64 a0_0) := (blk_cell BK202.out 0).trans rfl
   have hcz23_1 : wc.cell? ⟨gb202, 1, none⟩ = some (.int .i64 a0_1) := (blk_cell BK202.out 1).trans rfl
   have hcz23_2 : wc.cell? ⟨gb202, 2, none⟩ = some (.string a0_2) := (blk_cell BK202.out 2).trans rfl
   have hfz23_0 := blk_frozen BK202.out 0
   have hfz23_1 := blk_frozen BK202.out 1
   have hfz23_2 := blk_frozen BK202.out 2
   go_wp2
   go_ret
   exact ⟨sq23, sq70⟩

/-! ### tontineref17_Right: function 21 -/
mutual
def tontineref17_Right.l0 : Nat → List (S43) → List Int → Int → Option (Bool × Int)
 | 0, _, _, _ => none
 | k + 1, x0, x4, x5 => if x5 < (x0.length : Int) then (if 0 ≤ x5 then ((tontineref17_node.f k ((rd_T43 x0 x5).f0) ((rd_T43 x0 x5).f1) ((rd_T43 x0 x5).f2)).bind fun t210 => (if t210 = true then (tontineref17_Right.j1 k x0 x4 x5 (decide (((rd_T43 x0 x5).f1) > (x4.length : Int)))) else (tontineref17_Right.j1 k x0 x4 x5 true))) else (none)) else (if (x4.length : Int) = 1 then (if (x0.length : Int) > 1024 then (some (false, 0)) else (if 0 < (x4.length : Int) then (some (true, rd x4 0)) else (none))) else (some (false, 0)))
def tontineref17_Right.j1 : Nat → List (S43) → List Int → Int → Bool → Option (Bool × Int)
 | 0, _, _, _, _ => none
 | k + 1, x0, x4, x5, x30 => if x30 = true then (some (false, 0)) else (if 0 ≤ x5 then (if x5 < (x0.length : Int) then (tontineref17_Right.l1 k x0 x4 x5 (wrap64 ((x4.length : Int) - ((rd_T43 x0 x5).f1))) 0 (wrap64 ((x4.length : Int) - ((rd_T43 x0 x5).f1)))) else (none)) else (none))
def tontineref17_Right.l1 : Nat → List (S43) → List Int → Int → Int → Int → Int → Option (Bool × Int)
 | 0, _, _, _, _, _, _ => none
 | k + 1, x0, x4, x5, x6, x7, x8 => if x8 < (x4.length : Int) then (if 0 ≤ x8 then (tontineref17_Right.l1 k x0 x4 x5 x6 (mx x7 (rd x4 x8)) (wrap64 (x8 + 1))) else (none)) else (if 0 ≤ x6 then (if x6 ≤ (x4.length : Int) then ((some (x4.take (x6 : Int).toNat : List Int)).bind fun y214 => (if y214.length < 17592186044416 then (tontineref17_Right.l0 k x0 (y214 ++ [wrap64 (x7 + 1)]) (wrap64 (x5 + 1))) else (none))) else (none)) else (none))
end
def tontineref17_Right.f (k : Nat) (l0 : List (S43)) : Option (Bool × Int) := tontineref17_Right.l0 k l0 ([] : List Int) 0
theorem tontineref17_Right.mono_l : ∀ k, (∀ y0 y1 y2, LeO (tontineref17_Right.l0 k y0 y1 y2) (tontineref17_Right.l0 (k + 1) y0 y1 y2)) ∧ (∀ y0 y1 y2 y3, LeO (tontineref17_Right.j1 k y0 y1 y2 y3) (tontineref17_Right.j1 (k + 1) y0 y1 y2 y3)) ∧ (∀ y0 y1 y2 y3 y4 y5, LeO (tontineref17_Right.l1 k y0 y1 y2 y3 y4 y5) (tontineref17_Right.l1 (k + 1) y0 y1 y2 y3 y4 y5))
 | 0 => ⟨fun _ _ _ r h => by simp [tontineref17_Right.l0] at h, fun _ _ _ _ r h => by simp [tontineref17_Right.j1] at h, fun _ _ _ _ _ _ r h => by simp [tontineref17_Right.l1] at h⟩
 | k + 1 => by
  obtain ⟨ih0, ih1, ih2⟩ := tontineref17_Right.mono_l k
  refine ⟨?_, ?_, ?_⟩
  ·intro y0 y1 y2
   unfold tontineref17_Right.l0
   exact sq106
  ·intro y0 y1 y2 y3
   unfold tontineref17_Right.j1
   exact sq106
  intro y0 y1 y2 y3 y4 y5
  unfold tontineref17_Right.l1
  exact sq106
theorem tontineref17_Right.mono : ∀ a0 k, LeO (tontineref17_Right.f k a0) (tontineref17_Right.f (k + 1) a0) := by
 intro a0 k
 obtain ⟨ih0, ih1, ih2⟩ := tontineref17_Right.mono_l k
 unfold tontineref17_Right.f
 exact sq106
set_option maxHeartbeats 8000000 in
set_option maxRecDepth 100000 in
theorem tontineref17_Right.calls (k : Nat) (A0 : Option Addr) (c0 : Nat) (l0 : List (S43)) (r1 : Bool) (r2 : Int) (w : World) (hr0 : Kd.C k43 w A0 l0.length l0) (hc0 : l0.length ≤ c0) (h : tontineref17_Right.f k l0 = some (r1, r2)) :
  Calls Try.prog 21 #[.slice A0 l0.length c0] w fun e w' => e = .returned (.tuple #[.bool r1, .int .i64 r2]) ∧ Below w.heap.size w w' := by
 have hu43 := Try.underlying43
 have HR0 := Aside0.mk hr0
 have HC0 := Aside0.mk hc0
 clear hr0 hc0
 have HB := Aside0.mk (Below.refl w.heap.size w)
 have H : (tontineref17_Right.l0 k l0 ([] : List Int) 0) = some (r1, r2) := h
 clear h
 have H' := Aside0.mk H
 clear H
 go_enter Try.func21, Try.ntmps21
 go_wp2
 repeat (go_quiet (fail); try go_wp2)
 go_loopg [4, 5] k (fun kq v4 v5 w' => ∃ (x4_1 : List Int) (x5_1 : Int), v5 = .int .i64 x5_1 ∧ Aside0 (tontineref17_Right.l0 kq l0 x4_1 x5_1 = some (r1, r2)) ∧ Aside0 (kq ≤ k) ∧ Aside0 (Kd.R (Kd.int .i64) 3 w' w.heap.size (fun _ => True) v4 x4_1) ∧ Aside0 (Below w.heap.size w w'))
 case atStart => exact ⟨(([] : List Int)), (0), sq4, H', ⟨Nat.le_refl _⟩, ⟨sq57⟩, ⟨sq55⟩⟩
 case round =>
  clear H'
  obtain ⟨x4_1, x5_1, rfl, HA, HK1, HO_4, HB⟩ := hrel
  cases gk with
  | zero => exact absurd HA.out (by simp [tontineref17_Right.l0])
  | succ k1 =>
   have H := HA.out
   clear HA
   simp only [tontineref17_Right.l0] at H
   by_cases c2 : x5_1 < (l0.length : Int)
   ·rw [if_pos c2] at H
    have c2b0 : decide (x5_1 < (l0.length : Int)) = true := decide_eq_true c2; clear c2
    have HC3 := Aside0.mk H
    clear H
    go_upto_region 5 with (fail)
    repeat (go_quiet (fail); go_upto_region 5 with (fail))
    go_cut [30] (fun v30 wc => ∃ (kq : Nat) (x30_2 : Bool), v30 = .bool x30_2 ∧ Aside0 (tontineref17_Right.j1 kq l0 x4_1 x5_1 x30_2 = some (r1, r2)) ∧ Aside0 (kq ≤ k1) ∧ Aside0 (Kd.R (Kd.int .i64) 3 wc w.heap.size (fun _ => True) u4 x4_1) ∧ Aside0 (Below w.heap.size w wc))
    case first =>
     have H := HC3.out
     clear HC3
     by_cases c4 : 0 ≤ x5_1
     ·rw [if_pos c4] at H
      have c4b0 : decide (0 ≤ x5_1) = true := decide_eq_true c4; clear c4
      (first | rw [c4b0] | (simp only [i64_w, i32_w]; rw [c4b0]) | skip)
      replace H := Option.bind_eq_some_iff.mp H
      obtain ⟨t210, A50, H⟩ := H
      replace H : (if t210 = true then (tontineref17_Right.j1 k1 l0 x4_1 x5_1 (decide (((rd_T43 l0 x5_1).f1) > (x4_1.length : Int)))) else (tontineref17_Right.j1 k1 l0 x4_1 x5_1 true)) = some (r1, r2) := H
      have A5 := Aside0.mk A50
      clear A50
      by_cases c6 : t210 = true
      ·subst c6
       replace H := (itT_ _ _).symm.trans H
       have H' := Aside0.mk H
       clear H
       have p209 : 0 ≤ (x5_1 : Int) := of_decide_eq_true sq5
       have q209 : x5_1 < (l0.length : Int) := of_decide_eq_true sq5
       obtain ⟨ad209, e209, hx209_0, hx209_1, hx209_2⟩ := at_T43 HR0.out x5_1 p209 q209
       cases e209
       try replace hx209_0 := (HB.out.cell (World.block_lt_of_cell? w _ hx209_0)).trans hx209_0
       try replace hx209_1 := (HB.out.cell (World.block_lt_of_cell? w _ hx209_1)).trans hx209_1
       try replace hx209_2 := (HB.out.cell (World.block_lt_of_cell? w _ hx209_2)).trans hx209_2
       replace p209 := eq_true p209
       replace q209 := eq_true q209
       go_wp2_with (first | (go_at_call 31; (with_reducible refine (tontineref17_node.calls k1 ((rd_T43 l0 x5_1).f0) ((rd_T43 l0 x5_1).f1) ((rd_T43 l0 x5_1).f2) true _ A5.out).mono ?_); rintro e w7 ⟨rfl, hb⟩; have n0_ := Aside0.mk (Kd.R_below sq24 hb); have n1_ := Aside0.mk (below_step sq55 hb); clear HO_4; clear HB; have HO_4 := n0_; have HB := n1_; clear n0_ n1_; (try clear hb); (try clear hb2); (try clear hk); (try clear hi); have p211 : 0 ≤ (x5_1 : Int) := of_decide_eq_true sq5; have q211 : x5_1 < (l0.length : Int) := of_decide_eq_true sq5; obtain ⟨ad211, e211, hx211_0, hx211_1, hx211_2⟩ := at_T43 HR0.out x5_1 p211 q211; obtain rfl : ad209 = ad211 := (by injection e211); replace hx211_0 := (HB.out.cell (World.block_lt_of_cell? w _ hx211_0)).trans hx211_0; replace hx211_1 := (HB.out.cell (World.block_lt_of_cell? w _ hx211_1)).trans hx211_1; replace hx211_2 := (HB.out.cell (World.block_lt_of_cell? w _ hx211_2)).trans hx211_2; replace p211 := eq_true p211; replace q211 := eq_true q211; obtain ⟨Ao8, co8, eo8⟩ := Kd.R_slice HO_4.out; subst eo8))
       repeat (go_quiet (first | (go_at_call 31; (with_reducible refine (tontineref17_node.calls k1 ((rd_T43 l0 x5_1).f0) ((rd_T43 l0 x5_1).f1) ((rd_T43 l0 x5_1).f2) true _ A5.out).mono ?_); rintro e w7 ⟨rfl, hb⟩; have n0_ := Aside0.mk (Kd.R_below sq24 hb); have n1_ := Aside0.mk (below_step sq55 hb); clear HO_4; clear HB; have HO_4 := n0_; have HB := n1_; clear n0_ n1_; (try clear hb); (try clear hb2); (try clear hk); (try clear hi); have p211 : 0 ≤ (x5_1 : Int) := of_decide_eq_true sq5; have q211 : x5_1 < (l0.length : Int) := of_decide_eq_true sq5; obtain ⟨ad211, e211, hx211_0, hx211_1, hx211_2⟩ := at_T43 HR0.out x5_1 p211 q211; obtain rfl : ad209 = ad211 := (by injection e211); replace hx211_0 := (HB.out.cell (World.block_lt_of_cell? w _ hx211_0)).trans hx211_0; replace hx211_1 := (HB.out.cell (World.block_lt_of_cell? w _ hx211_1)).trans hx211_1; replace hx211_2 := (HB.out.cell (World.block_lt_of_cell? w _ hx211_2)).trans hx211_2; replace p211 := eq_true p211; replace q211 := eq_true q211; obtain ⟨Ao8, co8, eo8⟩ := Kd.R_slice HO_4.out; subst eo8)); try go_wp2_with (first | (go_at_call 31; (with_reducible refine (tontineref17_node.calls k1 ((rd_T43 l0 x5_1).f0) ((rd_T43 l0 x5_1).f1) ((rd_T43 l0 x5_1).f2) true _ A5.out).mono ?_); rintro e w7 ⟨rfl, hb⟩; have n0_ := Aside0.mk (Kd.R_below sq24 hb); have n1_ := Aside0.mk (below_step sq55 hb); clear HO_4; clear HB; have HO_4 := n0_; have HB := n1_; clear n0_ n1_; (try clear hb); (try clear hb2); (try clear hk); (try clear hi); have p211 : 0 ≤ (x5_1 : Int) := of_decide_eq_true sq5; have q211 : x5_1 < (l0.length : Int) := of_decide_eq_true sq5; obtain ⟨ad211, e211, hx211_0, hx211_1, hx211_2⟩ := at_T43 HR0.out x5_1 p211 q211; obtain rfl : ad209 = ad211 := (by injection e211); replace hx211_0 := (HB.out.cell (World.block_lt_of_cell? w _ hx211_0)).trans hx211_0; replace hx211_1 := (HB.out.cell (World.block_lt_of_cell? w _ hx211_1)).trans hx211_1; replace hx211_2 := (HB.out.cell (World.block_lt_of_cell? w _ hx211_2)).trans hx211_2; replace p211 := eq_true p211; replace q211 := eq_true q211; obtain ⟨Ao8, co8, eo8⟩ := Kd.R_slice HO_4.out; subst eo8)))
       go_meet
       case rel => exact ⟨_, (decide (((rd_T43 l0 x5_1).f1) > (x4_1.length : Int))), sq4, H', ⟨by have := HK1.out; first | omega | exact Nat.le_refl _⟩, ⟨sq24⟩, ⟨sq55⟩⟩
      replace c6 := Bool.eq_false_iff.mpr c6
      subst c6
      replace H := (itF_ _ _).symm.trans H
      have H' := Aside0.mk H
      clear H
      have p209 : 0 ≤ (x5_1 : Int) := of_decide_eq_true sq5
      have q209 : x5_1 < (l0.length : Int) := of_decide_eq_true sq5
      obtain ⟨ad209, e209, hx209_0, hx209_1, hx209_2⟩ := at_T43 HR0.out x5_1 p209 q209
      cases e209
      try replace hx209_0 := (HB.out.cell (World.block_lt_of_cell? w _ hx209_0)).trans hx209_0
      try replace hx209_1 := (HB.out.cell (World.block_lt_of_cell? w _ hx209_1)).trans hx209_1
      try replace hx209_2 := (HB.out.cell (World.block_lt_of_cell? w _ hx209_2)).trans hx209_2
      replace p209 := eq_true p209
      replace q209 := eq_true q209
      go_wp2_with (first | (go_at_call 31; (with_reducible refine (tontineref17_node.calls k1 ((rd_T43 l0 x5_1).f0) ((rd_T43 l0 x5_1).f1) ((rd_T43 l0 x5_1).f2) false _ A5.out).mono ?_); rintro e w9 ⟨rfl, hb⟩; have n0_ := Aside0.mk (Kd.R_below sq24 hb); have n1_ := Aside0.mk (below_step sq55 hb); clear HO_4; clear HB; have HO_4 := n0_; have HB := n1_; clear n0_ n1_; (try clear hb); (try clear hb2); (try clear hk); (try clear hi)))
      repeat (go_quiet (first | (go_at_call 31; (with_reducible refine (tontineref17_node.calls k1 ((rd_T43 l0 x5_1).f0) ((rd_T43 l0 x5_1).f1) ((rd_T43 l0 x5_1).f2) false _ A5.out).mono ?_); rintro e w9 ⟨rfl, hb⟩; have n0_ := Aside0.mk (Kd.R_below sq24 hb); have n1_ := Aside0.mk (below_step sq55 hb); clear HO_4; clear HB; have HO_4 := n0_; have HB := n1_; clear n0_ n1_; (try clear hb); (try clear hb2); (try clear hk); (try clear hi))); try go_wp2_with (first | (go_at_call 31; (with_reducible refine (tontineref17_node.calls k1 ((rd_T43 l0 x5_1).f0) ((rd_T43 l0 x5_1).f1) ((rd_T43 l0 x5_1).f2) false _ A5.out).mono ?_); rintro e w9 ⟨rfl, hb⟩; have n0_ := Aside0.mk (Kd.R_below sq24 hb); have n1_ := Aside0.mk (below_step sq55 hb); clear HO_4; clear HB; have HO_4 := n0_; have HB := n1_; clear n0_ n1_; (try clear hb); (try clear hb2); (try clear hk); (try clear hi))))
      go_meet
      case rel => exact ⟨_, (true), sq4, H', ⟨by have := HK1.out; first | omega | exact Nat.le_refl _⟩, ⟨sq24⟩, ⟨sq55⟩⟩
     rw [if_neg c4] at H
     exact absurd H (by simp)
    case rest =>
     clear HC3; try clear c2; try clear c2b0; try clear p2; try clear q2; try clear hx2; try clear c4; try clear c4b0; try clear c6; try clear hx209_0; try clear hx209_1; try clear hx209_2; try clear hx211_0; try clear hx211_1; try clear hx211_2; try clear p209; try clear p211; try clear q209; try clear q211
     obtain ⟨kq, x30_2, rfl, HA, HJ2, HO_4, HB⟩ := hcut
     cases kq with
     | zero => exact absurd HA.out (by simp [tontineref17_Right.j1])
     | succ kj2 =>
      have H := HA.out
      clear HA
      simp only [tontineref17_Right.j1] at H
      by_cases c10 : x30_2 = true
      ·subst c10
       replace H := (itT_ _ _).symm.trans H
       simp only [Option.some.injEq, Prod.mk.injEq] at H
       obtain ⟨rfl, rfl⟩ := H
       go_wp2
       repeat (go_quiet (fail); try go_wp2)
       go_ret2
       exact ⟨sq23, sq55⟩
      replace c10 := Bool.eq_false_iff.mpr c10
      subst c10
      replace H := (itF_ _ _).symm.trans H
      by_cases c11 : 0 ≤ x5_1
      ·rw [if_pos c11] at H
       have c11b0 : decide (0 ≤ x5_1) = true := decide_eq_true c11; clear c11
       by_cases c12 : x5_1 < (l0.length : Int)
       ·rw [if_pos c12] at H
        have c12b0 : decide (x5_1 < (l0.length : Int)) = true := decide_eq_true c12; clear c12
        have H' := Aside0.mk H
        clear H
        obtain ⟨Ao13, co13, eo13⟩ := Kd.R_slice HO_4.out
        subst eo13
        have p212 : 0 ≤ (x5_1 : Int) := of_decide_eq_true sq5
        have q212 : x5_1 < (l0.length : Int) := of_decide_eq_true sq5
        obtain ⟨ad212, e212, hx212_0, hx212_1, hx212_2⟩ := at_T43 HR0.out x5_1 p212 q212
        cases e212
        try replace hx212_0 := (HB.out.cell (World.block_lt_of_cell? w _ hx212_0)).trans hx212_0
        try replace hx212_1 := (HB.out.cell (World.block_lt_of_cell? w _ hx212_1)).trans hx212_1
        try replace hx212_2 := (HB.out.cell (World.block_lt_of_cell? w _ hx212_2)).trans hx212_2
        replace p212 := eq_true p212
        replace q212 := eq_true q212
        go_wp2
        repeat (go_quiet (fail); try go_wp2)
        go_loopg [7, 8] kj2 (fun kq v7 v8 w' => ∃ (x7_3 : Int) (x8_3 : Int), v7 = .int .i64 x7_3 ∧ v8 = .int .i64 x8_3 ∧ Aside0 (tontineref17_Right.l1 kq l0 x4_1 x5_1 (wrap64 ((x4_1.length : Int) - ((rd_T43 l0 x5_1).f1))) x7_3 x8_3 = some (r1, r2)) ∧ Aside0 (kq ≤ kj2) ∧ Aside0 (Kd.R (Kd.int .i64) 3 w' w.heap.size (fun _ => True) (.slice Ao13 x4_1.length co13) x4_1) ∧ Aside0 (Below w.heap.size w w'))
        case atStart => exact ⟨(0), (wrap64 ((x4_1.length : Int) - ((rd_T43 l0 x5_1).f1))), sq4, sq4, H', ⟨Nat.le_refl _⟩, ⟨sq24⟩, ⟨sq55⟩⟩
        case round =>
         clear H'
         try clear c1; try clear c2; try clear c2b0; try clear p2; try clear q2; try clear hx2; try clear c4; try clear c4b0; try clear c6; try clear p6; try clear c10; try clear c11; try clear c11b0; try clear c12; try clear c12b0; try clear hx209_0; try clear hx209_1; try clear hx209_2; try clear hx211_0; try clear hx211_1; try clear hx211_2; try clear hx212_0; try clear hx212_1; try clear hx212_2; try clear p2; try clear p209; try clear p211; try clear p212; try clear q2; try clear q209; try clear q211; try clear q212
         obtain ⟨x7_3, x8_3, rfl, rfl, HA, HK3, HO_4, HB⟩ := hrel
         cases gk with
         | zero => exact absurd HA.out (by simp [tontineref17_Right.l1])
         | succ k3 =>
          have H := HA.out
          clear HA
          simp only [tontineref17_Right.l1] at H
          by_cases c14 : x8_3 < (x4_1.length : Int)
          ·rw [if_pos c14] at H
           have c14b0 : decide (x8_3 < (x4_1.length : Int)) = true := decide_eq_true c14; clear c14
           by_cases c15 : 0 ≤ x8_3
           ·rw [if_pos c15] at H
            have c15b0 : decide (0 ≤ x8_3) = true := decide_eq_true c15; clear c15
            obtain ⟨ji16, hji16⟩ : ∃ j_ : Int, (mx x7_3 (rd x4_1 x8_3)) = j_ := ⟨_, rfl⟩
            replace H : (tontineref17_Right.l1 k3 l0 x4_1 x5_1 (wrap64 ((x4_1.length : Int) - ((rd_T43 l0 x5_1).f1))) ji16 (wrap64 (x8_3 + 1))) = some (r1, r2) := by first | (rw [hji16] at H; exact H) | (simp only [hji16] at H ⊢; exact H)
            have hji16_ : (if x7_3 < (rd x4_1 x8_3) then (rd x4_1 x8_3) else x7_3) = ji16 := hji16
            have H' := Aside0.mk H
            clear H
            have p213 : 0 ≤ (x8_3 : Int) := of_decide_eq_true sq5
            have q213 : x8_3 < (x4_1.length : Int) := of_decide_eq_true sq5
            obtain ⟨ad213, e213, hx213_0⟩ := Kd.at_int (Kd.R_reads' HO_4.out).2.2 x8_3 p213 q213
            cases e213
            replace p213 := eq_true p213
            replace q213 := eq_true q213
            go_wp2
            repeat (go_quiet (fail); try go_wp2)
            go_roundg k3
            case measure => have := HK1.out; have := HJ2.out; have := HK3.out; omega
            case rel => exact ⟨(ji16), (wrap64 (x8_3 + 1)), (by first | rfl | (simp; done) | (simp only [← hji16] <;> (first | rfl | simp)) | (simp [*]; done)), sq4, H', ⟨by have := HK1.out; have := HJ2.out; have := HK3.out; omega⟩, ⟨sq24⟩, ⟨sq55⟩⟩
           rw [if_neg c15] at H
           exact absurd H (by simp)
          rw [if_neg c14] at H
          have c14b0 : decide (x8_3 < (x4_1.length : Int)) = false := decide_eq_false c14; clear c14
          obtain ⟨ji17, hji17⟩ : ∃ j_ : Int, (wrap64 ((x4_1.length : Int) - ((rd_T43 l0 x5_1).f1))) = j_ := ⟨_, rfl⟩
          replace H : (if 0 ≤ (ji17) then (if (ji17) ≤ (x4_1.length : Int) then ((some (x4_1.take ((ji17) : Int).toNat : List Int)).bind fun y214 => (if y214.length < 17592186044416 then (tontineref17_Right.l0 k3 l0 (y214 ++ [wrap64 (x7_3 + 1)]) (wrap64 (x5_1 + 1))) else (none))) else (none)) else (none)) = some (r1, r2) := by first | (rw [hji17] at H; exact H) | (simp only [hji17] at H ⊢; exact H)
          have hji17w : (IntKind.i64.wrap ((x4_1.length : Int) - ((rd_T43 l0 x5_1).f1))) = ji17 := (i64_w _).trans hji17
          by_cases c18 : 0 ≤ (ji17)
          ·rw [if_pos c18] at H
           have c18b0 := eq_true c18
           have c18b1 : decide (0 ≤ (ji17)) = true := decide_eq_true c18
           clear c18
           by_cases c19 : (ji17) ≤ (x4_1.length : Int)
           ·rw [if_pos c19] at H
            have c19b0 := eq_true c19
            have c19b1 : decide ((ji17) ≤ (x4_1.length : Int)) = true := decide_eq_true c19
            clear c19
            obtain ⟨y214, hy214⟩ : ∃ y_ : List Int, y_ = (x4_1.take ((ji17) : Int).toNat) := ⟨_, rfl⟩
            replace H : (if y214.length < 17592186044416 then (tontineref17_Right.l0 k3 l0 (y214 ++ [wrap64 (x7_3 + 1)]) (wrap64 (x5_1 + 1))) else (none)) = some (r1, r2) := by first | (rw [hy214]; with_reducible exact H) | (have H2_ := (Option.bind_some _ _).symm.trans H; rw [hy214]; with_reducible exact H2_) | (have H2_ := (Option.bind_some _ _).symm.trans H; with_reducible exact H2_) | with_reducible exact H | (rw [hy214]; exact H) | exact H
            have Ny214 := Aside0.mk hy214
            clear hy214
            by_cases c20 : y214.length < 17592186044416
            ·rw [if_pos c20] at H
             have LMc20 := Aside0.mk c20
             clear c20
             obtain ⟨y217, hy217⟩ : ∃ y_ : List Int, y_ = (y214 ++ [wrap64 (x7_3 + 1)]) := ⟨_, rfl⟩
             replace H : (tontineref17_Right.l0 k3 l0 y217 (wrap64 (x5_1 + 1))) = some (r1, r2) := by first | (rw [hy217]; with_reducible exact H) | (have H2_ := (Option.bind_some _ _).symm.trans H; rw [hy217]; with_reducible exact H2_) | (have H2_ := (Option.bind_some _ _).symm.trans H; with_reducible exact H2_) | with_reducible exact H | (rw [hy217]; exact H) | exact H
             have Ny217 := Aside0.mk hy217
             clear hy217
             have H' := Aside0.mk H
             clear H
             have q21 : ((ji17) : Int) ≤ ((x4_1.length : Int) : Int) := of_decide_eq_true sq5
             obtain ⟨i021, hi021, _, hsz21, _⟩ := info_parts info3
             have hcut21 := cut_to (P := Try.prog) 35 3 .i64 Try.underlying35 hi021 Ao13 x4_1.length co13 (ji17) (of_decide_eq_true sq5) q21 (Kd.R_reads' HO_4.out).2.1
             have hr21 := Kd.R_take (m := ((ji17) : Int).toNat) HO_4.out (by omega)
             have hy21 : y214.length = ((ji17) : Int).toNat := (by rw [Ny214.out, List.length_take]; omega)
             rw [← Ny214.out] at hr21
             rw [← hy21] at hr21 hcut21
             clear hy21 hi021 hsz21 HO_4
             have HO216 := Aside0.mk hr21
             clear hr21
             replace q21 := eq_true q21
             go_wp2_with (first | ((with_reducible refine gate_builtin (b := .append) (xs := #[.tmp 54, .tmp 57]) rfl ?_); (try (refine gate_guard (by rfl) ?_; dsimp only)); at_builtin; refine Kd.R_append (Kd.int .i64) (w0 := w) w.heap.size rfl (.tmp 54) (.tmp 57) 35 3 (.int .i64 0) 8 rfl Try.underlying35 info3 rfl sq0 (by omega) (.slice Ao13 y214.length co13) y214 (wrap64 (x7_3 + 1)) [.int .i64 (wrap64 (x7_3 + 1))] (fun _ => True) (fun _ => False) rfl rfl ?aP (fun _ hk => hk.elim) ?aF ?aO ?aB ?aS ?aL ?_; (case aP => exact rfl); (case aB => exact sq55); (case aF => exact (fun _ _ => trivial)); (case aO => exact sq28); (case aS => exact (below_size sq55)); (case aL => have := LMc20.out; omega); intro v218 w22 ho hb hg hat; rw [← Ny217.out] at ho; have n0_ := Aside0.mk (hb); have n1_ := Aside0.mk (ho); clear HB; clear HO216; have HB := n0_; have HO219 := n1_; clear n0_ n1_; clear ho hb hg hat))
             repeat (go_quiet (first | ((with_reducible refine gate_builtin (b := .append) (xs := #[.tmp 54, .tmp 57]) rfl ?_); (try (refine gate_guard (by rfl) ?_; dsimp only)); at_builtin; refine Kd.R_append (Kd.int .i64) (w0 := w) w.heap.size rfl (.tmp 54) (.tmp 57) 35 3 (.int .i64 0) 8 rfl Try.underlying35 info3 rfl sq0 (by omega) (.slice Ao13 y214.length co13) y214 (wrap64 (x7_3 + 1)) [.int .i64 (wrap64 (x7_3 + 1))] (fun _ => True) (fun _ => False) rfl rfl ?aP (fun _ hk => hk.elim) ?aF ?aO ?aB ?aS ?aL ?_; (case aP => exact rfl); (case aB => exact sq55); (case aF => exact (fun _ _ => trivial)); (case aO => exact sq28); (case aS => exact (below_size sq55)); (case aL => have := LMc20.out; omega); intro v218 w22 ho hb hg hat; rw [← Ny217.out] at ho; have n0_ := Aside0.mk (hb); have n1_ := Aside0.mk (ho); clear HB; clear HO216; have HB := n0_; have HO219 := n1_; clear n0_ n1_; clear ho hb hg hat)); try go_wp2_with (first | ((with_reducible refine gate_builtin (b := .append) (xs := #[.tmp 54, .tmp 57]) rfl ?_); (try (refine gate_guard (by rfl) ?_; dsimp only)); at_builtin; refine Kd.R_append (Kd.int .i64) (w0 := w) w.heap.size rfl (.tmp 54) (.tmp 57) 35 3 (.int .i64 0) 8 rfl Try.underlying35 info3 rfl sq0 (by omega) (.slice Ao13 y214.length co13) y214 (wrap64 (x7_3 + 1)) [.int .i64 (wrap64 (x7_3 + 1))] (fun _ => True) (fun _ => False) rfl rfl ?aP (fun _ hk => hk.elim) ?aF ?aO ?aB ?aS ?aL ?_; (case aP => exact rfl); (case aB => exact sq55); (case aF => exact (fun _ _ => trivial)); (case aO => exact sq28); (case aS => exact (below_size sq55)); (case aL => have := LMc20.out; omega); intro v218 w22 ho hb hg hat; rw [← Ny217.out] at ho; have n0_ := Aside0.mk (hb); have n1_ := Aside0.mk (ho); clear HB; clear HO216; have HB := n0_; have HO219 := n1_; clear n0_ n1_; clear ho hb hg hat)))
             go_roundg k3
             case measure => have := HK1.out; have := HJ2.out; have := HK3.out; omega
             case rel => exact ⟨(y217), (wrap64 (x5_1 + 1)), sq4, H', ⟨by have := HK1.out; have := HJ2.out; have := HK3.out; omega⟩, ⟨by (with_reducible repeat (first | apply Kd.R_alloc | apply Kd.R_drewN | apply Kd.R_drew)); exact HO219.out⟩, ⟨sq55⟩⟩
            rw [if_neg c20] at H
            exact absurd H (by simp)
           rw [if_neg c19] at H
           exact absurd H (by simp)
          rw [if_neg c18] at H
          exact absurd H (by simp)
       rw [if_neg c12] at H
       exact absurd H (by simp)
      rw [if_neg c11] at H
      exact absurd H (by simp)
   rw [if_neg c2] at H
   have c2b0 : decide (x5_1 < (l0.length : Int)) = false := decide_eq_false c2; clear c2
   by_cases c23 : (x4_1.length : Int) = 1
   ·rw [if_pos c23] at H
    have c23b0 : ((x4_1.length : Int) == 1) = true := beq_iff_eq.mpr c23
    have c23b1 : ((x4_1.length : Int) != 1) = false := bne_eq_false_iff_eq.mpr c23
    clear c23
    by_cases c24 : (l0.length : Int) > 1024
    ·rw [if_pos c24] at H
     have c24b0 : decide (1024 < (l0.length : Int)) = true := decide_eq_true c24
     have c24b1 : decide (1024 < l0.length) = true := decide_eq_true (by omega)
     clear c24
     simp only [Option.some.injEq, Prod.mk.injEq] at H
     obtain ⟨rfl, rfl⟩ := H
     obtain ⟨Ao25, co25, eo25⟩ := Kd.R_slice HO_4.out
     subst eo25
     go_wp2
     repeat (go_quiet (fail); try go_wp2)
     go_ret2
     exact ⟨sq23, sq55⟩
    rw [if_neg c24] at H
    have c24b0 : decide (1024 < (l0.length : Int)) = false := decide_eq_false c24
    have c24b1 : decide (1024 < l0.length) = false := decide_eq_false (by omega)
    clear c24
    by_cases c26 : 0 < (x4_1.length : Int)
    ·rw [if_pos c26] at H
     have c26b0 : decide (0 < (x4_1.length : Int)) = true := decide_eq_true c26
     have c26b1 : decide (0 < x4_1.length) = true := decide_eq_true (by omega)
     clear c26
     simp only [Option.some.injEq, Prod.mk.injEq] at H
     obtain ⟨rfl, rfl⟩ := H
     obtain ⟨Ao27, co27, eo27⟩ := Kd.R_slice HO_4.out
     subst eo27
     have p208 : 0 ≤ (0 : Int) := (by omega)
     have q208 : 0 < (x4_1.length : Int) := of_decide_eq_true sq5
     obtain ⟨ad208, e208, hx208_0⟩ := Kd.at_int (Kd.R_reads' HO_4.out).2.2 0 p208 q208
     cases e208
     have qi208 : (0 < x4_1.length) = True := eq_true (by omega)
     (try rw [show ((0 : Int)).toNat = 0 from rfl] at hx208_0)
     (try rw [Addr.add_zero'] at hx208_0)
     replace p208 := eq_true p208
     replace q208 := eq_true q208
     go_wp2
     repeat (go_quiet (fail); try go_wp2)
     go_ret2
     exact ⟨sq23, sq55⟩
    rw [if_neg c26] at H
    exact absurd H (by simp)
   rw [if_neg c23] at H
   have c23b0 : ((x4_1.length : Int) == 1) = false := beq_eq_false_iff_ne.mpr c23
   have c23b1 : ((x4_1.length : Int) != 1) = true := bne_iff_ne.mpr c23
   simp only [Option.some.injEq, Prod.mk.injEq] at H
   obtain ⟨rfl, rfl⟩ := H
   obtain ⟨Ao28, co28, eo28⟩ := Kd.R_slice HO_4.out
   subst eo28
   go_wp2
   repeat (go_quiet (fail); try go_wp2)
   go_ret2
   exact ⟨sq23, sq55⟩

end Go.Proofs.Ytaogejkmkalnlaa.PAll
