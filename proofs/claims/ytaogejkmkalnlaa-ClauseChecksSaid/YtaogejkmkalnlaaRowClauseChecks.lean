/- The row of ClauseChecks: the walk (printed and by hand) and the plain law, joined. No condition. -/
import Derived.Test.YtaogejkmkalnlaaRows
import Derived.Test.YtaogejkmkalnlaaPL
import Derived.Test.YtaogejkmkalnlaaRL
import Derived.Test.YtaogejkmkalnlaaShelf
import Derived.WalkKit
import Derived.ProofKit
import Derived.OpenShut
import Derived.ShutString
import Derived.ChangeOld
import Derived.Below
import Derived.HandedShaped
namespace Go.Proofs.Ytaogejkmkalnlaa.clauseChecks
open Go.ChangeShapes Go.WideShapes Go.ChangeAt Go.RowKit Go.Proofs.YtaogejkmkalnlaaW.PrintWords
open Go.ChangeMaps (open_string shut_string)
set_option linter.unusedVariables false
theorem own : ownKnob Try.prog.godebug = none := by kernel_rfl
theorem laidOut : laidOutB Try.prog = true := by kernel_rfl
set_option maxRecDepth 100000 in
theorem lifted (os : Os) (started : os.Started) (H : Type) (enc : TypeId × Value → H) :
    ReturnsInHanded {} Try.checked os 3 .any (Rows.clauseChecksSpec.pre6 enc Try.prog Try.f3 Rows.clauseChecksRow.domain false) (Rows.clauseChecksSpec.post enc Try.prog Try.f3 false true false false) := by
  refine returnsInHanded_of_change_shaped (C := Try.checked) own started (by kernel_rfl) Try.func3
    (ChangeSpec.witness6 (enc := enc) (C := Try.checked) false ⟨#[], #[.agg #[.string ⟨#[]⟩, .slice none 0 0], .slice none 0 0, .int .i64 0], []⟩ 8 (by kernel_rfl) (by kernel_rfl) (by kernel_rfl) (by kernel_rfl)) ?_
  intro W base args ds gs before hval0 hW hcnd hsz0 hsh _
  have hsz : (DataW.weightsEach Try.prog (Try.f3.params.toList ++ Rows.clauseChecksSpec.plain.varTypes Try.prog) (ds ++ gs)).all (· ≤ reachBytes) = true := hsz0
  have hval : ∀ (j : Nat) t v, Try.f3.params[j]? = some t → args[j]? = some v → Value.okWide Try.prog W .any base t v := hval0
  have hW' := hW
  obtain ⟨p, q, hA0, hV, rfl, hfz, hnd⟩ := hW
  have hA : DataW.TrodAll enc Try.prog W 0 (fun _ => true) true Try.f3.params.toList args.toList ds p := hA0
  rw [Try.params3] at hA hval hsz
  obtain ⟨v0, vs0, d0, ds0, p0, q0, hargs0, rfl, rfl, h0, r0⟩ := trodAll_cons hA
  obtain ⟨v1, vs1, d1, ds1, p1, q1, rfl, rfl, rfl, h1, r1⟩ := trodAll_cons r0
  obtain ⟨v2, vs2, d2, ds2, p2, q2, rfl, rfl, rfl, h2, r2⟩ := trodAll_cons r1
  obtain ⟨rfl, rfl, rfl⟩ := trodAll_nil r2
  obtain rfl : args = #[v0, v1, v2] := by cases args; simp_all
  obtain ⟨rfl, rfl⟩ := trodVars_none hV
  obtain ⟨cs0, rfl, hcs0⟩ := okWide_struct Try.underlying24 (hval 0 24 v0 rfl rfl)
  obtain ⟨a1, len1, cap1, rfl⟩ := okWide_slice Try.underlying26 (hval 1 26 v1 rfl rfl)
  obtain ⟨n2, rfl, hd2, hp2, hw2⟩ := open_int Try.underlying3 (hval 2 3 v2 rfl rfl) h2
  have k0 := h0
  have k1 := h1
  have k2 := h2
  have lt0 : ∀ x ∈ p0, x.block < W.heap.size := by obtain ⟨m, hm⟩ := k0; exact DataW.trod_lt m _ _ _ hm
  have lt1 : ∀ x ∈ p1, x.block < W.heap.size := by obtain ⟨m, hm⟩ := k1; exact DataW.trod_lt m _ _ _ hm
  have lt2 : ∀ x ∈ p2, x.block < W.heap.size := by rw [hp2]; intro x hx; cases hx
  have z0 : ∀ n ∈ d0.weights Try.prog 24, n ≤ reachBytes := fun n hn => of_decide_eq_true (List.all_eq_true.1 hsz n (DataW.weights_mem_each (j := 0) rfl rfl n hn))
  have z1 : ∀ n ∈ d1.weights Try.prog 26, n ≤ reachBytes := fun n hn => of_decide_eq_true (List.all_eq_true.1 hsz n (DataW.weights_mem_each (j := 1) rfl rfl n hn))
  obtain ⟨nm, ls, A0, c0, hy, hn0, cl0, hC0, bd0, ok0⟩ : ∃ (nm : ByteArray) (ls : List RN.Ln) (A : Option Addr) (c : Nat), cs0.toList = [.string nm, .slice A ls.length c] ∧ nm.size ≤ 9223372036854775806 ∧ ls.length ≤ c ∧ Kd.C PAll.k41 W A ls.length ls ∧ ls.length < 1353245080339 ∧ ∀ y ∈ ls, RN.okL y := by
    obtain ⟨fuel, hf⟩ := h0
    exact RN.open_product hf z0
  obtain rfl : cs0 = #[.string nm, .slice A0 ls.length c0] := Array.toList_inj.mp hy
  obtain ⟨xs1, rfl, c1, sm1, cl1, bd1⟩ : ∃ xs : List RN.Nd, xs.length = len1 ∧ Kd.C PAll.k43 W a1 xs.length xs ∧ (∀ y ∈ xs, y.f2.size ≤ 9223372036854775806) ∧ xs.length ≤ cap1 ∧ xs.length < 4398046511104 := by
    obtain ⟨fuel, hf⟩ := h1
    exact RN.open_nodes Try.underlying26 hf z1
  have hG : Glob W := ⟨Try.laysM144.s1_3 W hsh⟩
  clear hA0 hval0 hsz0 hsz z0 z1 hy
  obtain ⟨k, hk⟩ := (PL.clauseChecks_ev nm ls xs1 n2 (by omega) ⟨bd0, ok0⟩ sm1 bd1).get
  refine (PAll.tontinelaw17_ClauseChecks.calls k nm A0 c0 ls a1 cap1 xs1 n2 true W hG hC0 cl0 c1 cl1 hk).mono fun e W' ⟨he, bel⟩ => ?_
  subst he
  exact ⟨_, rfl, _, _, _, [], _, [], hW', trodAll_mk1 (shut_bool Try.underlying4 _), (trodAll_cons_mk (Below.trod laidOut (by kernel_rfl) (of_decide_eq_true (by kernel_rfl)) k0 bel lt0) (trodAll_cons_mk (Below.trod laidOut (by kernel_rfl) (of_decide_eq_true (by kernel_rfl)) k1 bel lt1) (trodAll_cons_mk (Below.trod laidOut (by kernel_rfl) (of_decide_eq_true (by kernel_rfl)) k2 bel lt2) trodAll_mk0))), rfl, bel.frame _, fun h => by cases h⟩
theorem over : Rows.clauseChecksRow.holds Try.pinned (OpenSpec.ofChange Rows.clauseChecksSpec) :=
  OpenClaim.holds_of_wide 3 Try.f3 rfl rfl rfl rfl rfl rfl rfl ⟨rfl, rfl, rfl, rfl, rfl⟩ rfl rfl rfl rfl rfl (by kernel_rfl) Try.func3 (by kernel_rfl)
    (of_decide_eq_true (by kernel_rfl)) (by unfold Func.isWrapper; first | (rw [if_pos (by decide +kernel)]; kernel_rfl) | (rw [if_neg (by decide +kernel)]; exact ⟨rfl, rfl⟩))
    (fun os started H enc _ => lifted os started H enc)
theorem proved : Rows.ClauseChecksSaid := over
#print axioms proved
end Go.Proofs.Ytaogejkmkalnlaa.clauseChecks
namespace Go.Proofs.Ytaogejkmkalnlaa
/-- The row, under a short name, for the claim. -/
theorem clauseChecks_holds : Rows.ClauseChecksSaid := clauseChecks.proved
end Go.Proofs.Ytaogejkmkalnlaa
