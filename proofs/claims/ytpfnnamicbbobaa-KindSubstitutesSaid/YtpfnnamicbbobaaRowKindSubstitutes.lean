/- The row of KindSubstitutes: the walk (printed and by hand) and the plain law, joined. No condition. -/
import Derived.Test.YtpfnnamicbbobaaRows
import Derived.Test.YtpfnnamicbbobaaPL
import Derived.Test.YtpfnnamicbbobaaRN
import Derived.Test.YtpfnnamicbbobaaRW
import Derived.Test.YtpfnnamicbbobaaShelf
import Derived.WalkKit
import Derived.ProofKit
import Derived.OpenShut
import Derived.ShutString
import Derived.ChangeOld
import Derived.Below
import Derived.HandedShaped
namespace Go.Proofs.Ytpfnnamicbbobaa.kindSubstitutes
open Go.ChangeShapes Go.WideShapes Go.ChangeAt Go.RowKit Go.Proofs.YtpfnnamicbbobaaW.PrintWords
open Go.ChangeMaps (open_string shut_string)
set_option linter.unusedVariables false
theorem own : ownKnob Try.prog.godebug = none := by kernel_rfl
theorem laidOut : laidOutB Try.prog = true := by kernel_rfl
set_option maxRecDepth 100000 in
theorem lifted (os : Os) (started : os.Started) (H : Type) (enc : TypeId × Value → H) :
    ReturnsInHanded {} Try.checked os 6 .any (Rows.kindSubstitutesSpec.pre6 enc Try.prog Try.f6 Rows.kindSubstitutesRow.domain false) (Rows.kindSubstitutesSpec.post enc Try.prog Try.f6 false true false false) := by
  refine returnsInHanded_of_change_shaped (C := Try.checked) own started (by kernel_rfl) Try.func6
    (ChangeSpec.witness6 (enc := enc) (C := Try.checked) false ⟨#[], #[.slice none 0 0, .slice none 0 0, .slice none 0 0], []⟩ 8 (by kernel_rfl) (by kernel_rfl) (by kernel_rfl) (by kernel_rfl)) ?_
  intro W base args ds gs before hval0 hW hcnd hsz0 hsh _
  have hsz : (DataW.weightsEach Try.prog (Try.f6.params.toList ++ Rows.kindSubstitutesSpec.plain.varTypes Try.prog) (ds ++ gs)).all (· ≤ reachBytes) = true := hsz0
  have hval : ∀ (j : Nat) t v, Try.f6.params[j]? = some t → args[j]? = some v → Value.okWide Try.prog W .any base t v := hval0
  have hW' := hW
  obtain ⟨p, q, hA0, hV, rfl, hfz, hnd⟩ := hW
  have hA : DataW.TrodAll enc Try.prog W 0 (fun _ => true) true Try.f6.params.toList args.toList ds p := hA0
  rw [Try.params6] at hA hval hsz
  obtain ⟨v0, vs0, d0, ds0, p0, q0, hargs0, rfl, rfl, h0, r0⟩ := trodAll_cons hA
  obtain ⟨v1, vs1, d1, ds1, p1, q1, rfl, rfl, rfl, h1, r1⟩ := trodAll_cons r0
  obtain ⟨v2, vs2, d2, ds2, p2, q2, rfl, rfl, rfl, h2, r2⟩ := trodAll_cons r1
  obtain ⟨rfl, rfl, rfl⟩ := trodAll_nil r2
  obtain rfl : args = #[v0, v1, v2] := by cases args; simp_all
  obtain ⟨rfl, rfl⟩ := trodVars_none hV
  obtain ⟨a0, len0, cap0, rfl⟩ := okWide_slice Try.underlying23 (hval 0 23 v0 rfl rfl)
  obtain ⟨a1, len1, cap1, rfl⟩ := okWide_slice Try.underlying23 (hval 1 23 v1 rfl rfl)
  obtain ⟨a2, len2, cap2, rfl⟩ := okWide_slice Try.underlying24 (hval 2 24 v2 rfl rfl)
  have k0 := h0
  have k1 := h1
  have k2 := h2
  have lt0 : ∀ x ∈ p0, x.block < W.heap.size := by obtain ⟨m, hm⟩ := k0; exact DataW.trod_lt m _ _ _ hm
  have lt1 : ∀ x ∈ p1, x.block < W.heap.size := by obtain ⟨m, hm⟩ := k1; exact DataW.trod_lt m _ _ _ hm
  have lt2 : ∀ x ∈ p2, x.block < W.heap.size := by obtain ⟨m, hm⟩ := k2; exact DataW.trod_lt m _ _ _ hm
  have z0 : ∀ n ∈ d0.weights Try.prog 23, n ≤ reachBytes := fun n hn => of_decide_eq_true (List.all_eq_true.1 hsz n (DataW.weights_mem_each (j := 0) rfl rfl n hn))
  have z1 : ∀ n ∈ d1.weights Try.prog 23, n ≤ reachBytes := fun n hn => of_decide_eq_true (List.all_eq_true.1 hsz n (DataW.weights_mem_each (j := 1) rfl rfl n hn))
  have z2 : ∀ n ∈ d2.weights Try.prog 24, n ≤ reachBytes := fun n hn => of_decide_eq_true (List.all_eq_true.1 hsz n (DataW.weights_mem_each (j := 2) rfl rfl n hn))
  obtain ⟨xs0, rfl, c0, sm0, cl0, bd0⟩ : ∃ xs : List RN.Nd, xs.length = len0 ∧ Kd.C PAll.k56 W a0 xs.length xs ∧ (∀ y ∈ xs, y.f2.size ≤ 9223372036854775806) ∧ xs.length ≤ cap0 ∧ xs.length < 4398046511104 := by
    obtain ⟨fuel, hf⟩ := h0
    exact RN.open_nodes Try.underlying23 hf z0
  obtain ⟨xs1, rfl, c1, sm1, cl1, bd1⟩ : ∃ xs : List RN.Nd, xs.length = len1 ∧ Kd.C PAll.k56 W a1 xs.length xs ∧ (∀ y ∈ xs, y.f2.size ≤ 9223372036854775806) ∧ xs.length ≤ cap1 ∧ xs.length < 4398046511104 := by
    obtain ⟨fuel, hf⟩ := h1
    exact RN.open_nodes Try.underlying23 hf z1
  obtain ⟨xs2, rfl, c2, sm2, cl2, bd2⟩ : ∃ xs : List RN.Wd, xs.length = len2 ∧ Kd.C PAll.k59 W a2 xs.length xs ∧ (∀ y ∈ xs, y.f0.size ≤ 9223372036854775806) ∧ xs.length ≤ cap2 ∧ xs.length < 5864062014805 := by
    obtain ⟨fuel, hf⟩ := h2
    exact RN.open_words Try.underlying24 hf z2
  have hG : Glob W := ⟨Try.laysM144.s1_3 W hsh⟩
  clear hA0 hval0 hsz0 hsz z0 z1 z2
  obtain ⟨k, hk⟩ := (PL.kindSubstitutes_ev xs0 xs1 xs2 sm0 sm1 sm2 bd2).get
  refine (PAll.tontinelaw18_KindSubstitutes.calls k a0 cap0 xs0 a1 cap1 xs1 a2 cap2 xs2 true W hG c0 cl0 c1 cl1 c2 cl2 hk).mono fun e W' ⟨he, bel⟩ => ?_
  subst he
  exact ⟨_, rfl, _, _, _, [], _, [], hW', trodAll_mk1 (shut_bool Try.underlying4 _), (trodAll_cons_mk (Below.trod laidOut (by kernel_rfl) (of_decide_eq_true (by kernel_rfl)) k0 bel lt0) (trodAll_cons_mk (Below.trod laidOut (by kernel_rfl) (of_decide_eq_true (by kernel_rfl)) k1 bel lt1) (trodAll_cons_mk (Below.trod laidOut (by kernel_rfl) (of_decide_eq_true (by kernel_rfl)) k2 bel lt2) trodAll_mk0))), rfl, bel.frame _, fun h => by cases h⟩
theorem over : Rows.kindSubstitutesRow.holds Try.pinned (OpenSpec.ofChange Rows.kindSubstitutesSpec) :=
  OpenClaim.holds_of_wide 6 Try.f6 rfl rfl rfl rfl rfl rfl rfl ⟨rfl, rfl, rfl, rfl, rfl⟩ rfl rfl rfl rfl rfl (by kernel_rfl) Try.func6 (by kernel_rfl)
    (of_decide_eq_true (by kernel_rfl)) (by unfold Func.isWrapper; first | (rw [if_pos (by decide +kernel)]; kernel_rfl) | (rw [if_neg (by decide +kernel)]; exact ⟨rfl, rfl⟩))
    (fun os started H enc _ => lifted os started H enc)
theorem proved : Rows.KindSubstitutesSaid := over
#print axioms proved
end Go.Proofs.Ytpfnnamicbbobaa.kindSubstitutes
namespace Go.Proofs.Ytpfnnamicbbobaa
/-- The row, under a short name, for the claim. -/
theorem kindSubstitutes_holds : Rows.KindSubstitutesSaid := kindSubstitutes.proved
end Go.Proofs.Ytpfnnamicbbobaa
