/-
  No cell of these rows narrows 'for every input' (looked for: loops, veiled, ifaces, maps, wideKeys, modest, calm, conditions, laid).
  DERIVED. THE GIVEN ROWS OF THIS SEAT. 6 by the template 'for every input the law returns true; each argument reads behind the call as it read before'; 0 by the template 'total and deterministic' (their statements: YtpfnnamicbbobaaTotals.lean).
  GIVEN WITH THE SEED: the statements are not yours to turn. If you find one false, say at which input.
  Laid BY PROGRAM, IN A SANDBOX (cutbox-rows.mjs): the forced cells as the released guide's own fill.sh prints them over the translation 97c04fbcc04f128b… (all of the seat's roots in one cut). By AI agents, Wed Nov 11 2026. No macro, syntax, notation, axiom, sorry.
-/
import Derived.Test.YtpfnnamicbbobaaChecked
import GoSem.Claim
import GoSem.ClaimJoined
import GoSem.ClaimMapViews
import Derived.JoinedTies
import Derived.KernelRfl
namespace Go.Proofs.Ytpfnnamicbbobaa
/- THE CELL 'sum', in the pinned program and in every row, IS THE sha256 OF THE DUMP (.gsa) THAT YtpfnnamicbbobaaProg.lean LOADS. Nothing in Lean hashes anything: it is a label: what it is worth is what the hold of that sum in a sandbox is worth. -/
noncomputable def Try.pinned : Pinned := { name := "ytpfnnamicbbobaa", sum := "97c04fbcc04f128bd88606719adcb93ea336968c5f40b9af1c99259951e51f02", checked := Try.checked }
namespace Rows
def none {H : Type} : Left H := { results := [], args := [] }

/-- 'tontinelaw18.KindFormulas': WHATEVER THE INPUT: true; the input reads as it did. -/
def kindFormulasSpec : ChangeSpec := { name := "kindFormulas", fn := fun _ => fun
  | [d1, d2] => { results := [.lit (.bool true)], args := [d1, d2] }
  | _ => none }
def kindFormulasRow : OpenClaim := { program := "ytpfnnamicbbobaa", sum := "97c04fbcc04f128bd88606719adcb93ea336968c5f40b9af1c99259951e51f02", func := "tontine/tontinelaw18.KindFormulas", spec := "kindFormulas", inPlace := ["internal/bytealg.CountString", "internal/bytealg.IndexByteString", "internal/bytealg.IndexString"], unfollowed := true, recurses := true, named := ["internal/bytealg.MaxLen"], apart := false }
def KindFormulasSaid : Prop := kindFormulasRow.holds Try.pinned (OpenSpec.ofChange kindFormulasSpec)

/-- ITS FALSE NEIGHBOUR: 'it returns false'. Refute it at one input. -/
def kindFormulasWrong : ChangeSpec := { name := "kindFormulas", fn := fun _ => fun
  | [d1, d2] => { results := [.lit (.bool false)], args := [d1, d2] }
  | _ => none }
def KindFormulasWrongFalsely : Prop := kindFormulasRow.holds Try.pinned (OpenSpec.ofChange kindFormulasWrong)

/-- 'tontinelaw18.KindPuts': WHATEVER THE INPUT: true; the input reads as it did. -/
def kindPutsSpec : ChangeSpec := { name := "kindPuts", fn := fun _ => fun
  | [d1, d2, d3] => { results := [.lit (.bool true)], args := [d1, d2, d3] }
  | _ => none }
def kindPutsRow : OpenClaim := { program := "ytpfnnamicbbobaa", sum := "97c04fbcc04f128bd88606719adcb93ea336968c5f40b9af1c99259951e51f02", func := "tontine/tontinelaw18.KindPuts", spec := "kindPuts", inPlace := ["internal/bytealg.CountString", "internal/bytealg.IndexByteString", "internal/bytealg.IndexString"], unfollowed := true, recurses := true, named := ["internal/bytealg.MaxLen"], apart := false }
def KindPutsSaid : Prop := kindPutsRow.holds Try.pinned (OpenSpec.ofChange kindPutsSpec)

/-- ITS FALSE NEIGHBOUR: 'it returns false'. Refute it at one input. -/
def kindPutsWrong : ChangeSpec := { name := "kindPuts", fn := fun _ => fun
  | [d1, d2, d3] => { results := [.lit (.bool false)], args := [d1, d2, d3] }
  | _ => none }
def KindPutsWrongFalsely : Prop := kindPutsRow.holds Try.pinned (OpenSpec.ofChange kindPutsWrong)

/-- 'tontinelaw18.KindWords': WHATEVER THE INPUT: true; the input reads as it did. -/
def kindWordsSpec : ChangeSpec := { name := "kindWords", fn := fun _ => fun
  | [d1, d2, d3] => { results := [.lit (.bool true)], args := [d1, d2, d3] }
  | _ => none }
def kindWordsRow : OpenClaim := { program := "ytpfnnamicbbobaa", sum := "97c04fbcc04f128bd88606719adcb93ea336968c5f40b9af1c99259951e51f02", func := "tontine/tontinelaw18.KindWords", spec := "kindWords", inPlace := ["internal/bytealg.CountString", "internal/bytealg.IndexByteString", "internal/bytealg.IndexString"], unfollowed := true, recurses := true, named := ["internal/bytealg.MaxLen"], apart := false }
def KindWordsSaid : Prop := kindWordsRow.holds Try.pinned (OpenSpec.ofChange kindWordsSpec)

/-- ITS FALSE NEIGHBOUR: 'it returns false'. Refute it at one input. -/
def kindWordsWrong : ChangeSpec := { name := "kindWords", fn := fun _ => fun
  | [d1, d2, d3] => { results := [.lit (.bool false)], args := [d1, d2, d3] }
  | _ => none }
def KindWordsWrongFalsely : Prop := kindWordsRow.holds Try.pinned (OpenSpec.ofChange kindWordsWrong)

/-- 'tontinelaw18.KindSubstitutes': WHATEVER THE INPUT: true; the input reads as it did. -/
def kindSubstitutesSpec : ChangeSpec := { name := "kindSubstitutes", fn := fun _ => fun
  | [d1, d2, d3] => { results := [.lit (.bool true)], args := [d1, d2, d3] }
  | _ => none }
def kindSubstitutesRow : OpenClaim := { program := "ytpfnnamicbbobaa", sum := "97c04fbcc04f128bd88606719adcb93ea336968c5f40b9af1c99259951e51f02", func := "tontine/tontinelaw18.KindSubstitutes", spec := "kindSubstitutes", inPlace := ["internal/bytealg.CountString", "internal/bytealg.IndexByteString", "internal/bytealg.IndexString"], unfollowed := true, recurses := true, named := ["internal/bytealg.MaxLen"], apart := false }
def KindSubstitutesSaid : Prop := kindSubstitutesRow.holds Try.pinned (OpenSpec.ofChange kindSubstitutesSpec)

/-- ITS FALSE NEIGHBOUR: 'it returns false'. Refute it at one input. -/
def kindSubstitutesWrong : ChangeSpec := { name := "kindSubstitutes", fn := fun _ => fun
  | [d1, d2, d3] => { results := [.lit (.bool false)], args := [d1, d2, d3] }
  | _ => none }
def KindSubstitutesWrongFalsely : Prop := kindSubstitutesRow.holds Try.pinned (OpenSpec.ofChange kindSubstitutesWrong)

/-- 'tontinelaw18.KindParts': WHATEVER THE INPUT: true; the input reads as it did. -/
def kindPartsSpec : ChangeSpec := { name := "kindParts", fn := fun _ => fun
  | [d1, d2] => { results := [.lit (.bool true)], args := [d1, d2] }
  | _ => none }
def kindPartsRow : OpenClaim := { program := "ytpfnnamicbbobaa", sum := "97c04fbcc04f128bd88606719adcb93ea336968c5f40b9af1c99259951e51f02", func := "tontine/tontinelaw18.KindParts", spec := "kindParts", inPlace := ["internal/bytealg.CountString", "internal/bytealg.IndexByteString", "internal/bytealg.IndexString"], unfollowed := true, recurses := true, named := ["internal/bytealg.MaxLen"], apart := false }
def KindPartsSaid : Prop := kindPartsRow.holds Try.pinned (OpenSpec.ofChange kindPartsSpec)

/-- ITS FALSE NEIGHBOUR: 'it returns false'. Refute it at one input. -/
def kindPartsWrong : ChangeSpec := { name := "kindParts", fn := fun _ => fun
  | [d1, d2] => { results := [.lit (.bool false)], args := [d1, d2] }
  | _ => none }
def KindPartsWrongFalsely : Prop := kindPartsRow.holds Try.pinned (OpenSpec.ofChange kindPartsWrong)

/-- 'tontinelaw18.KindIdle': WHATEVER THE INPUT: true; the input reads as it did. -/
def kindIdleSpec : ChangeSpec := { name := "kindIdle", fn := fun _ => fun
  | [d] => { results := [.lit (.bool true)], args := [d] }
  | _ => none }
def kindIdleRow : OpenClaim := { program := "ytpfnnamicbbobaa", sum := "97c04fbcc04f128bd88606719adcb93ea336968c5f40b9af1c99259951e51f02", func := "tontine/tontinelaw18.KindIdle", spec := "kindIdle", inPlace := ["internal/bytealg.CountString", "internal/bytealg.IndexByteString", "internal/bytealg.IndexString"], unfollowed := true, recurses := true, named := ["internal/bytealg.MaxLen"], apart := false }
def KindIdleSaid : Prop := kindIdleRow.holds Try.pinned (OpenSpec.ofChange kindIdleSpec)

/-- ITS FALSE NEIGHBOUR: 'it returns false'. Refute it at one input. -/
def kindIdleWrong : ChangeSpec := { name := "kindIdle", fn := fun _ => fun
  | [d] => { results := [.lit (.bool false)], args := [d] }
  | _ => none }
def KindIdleWrongFalsely : Prop := kindIdleRow.holds Try.pinned (OpenSpec.ofChange kindIdleWrong)

/- THE SECOND FORM. 'bulk': how many values and letters a reading holds, each counted each time it is reached (what is shared counts as often as it is met; a slice's spare places count too). A statement '..UptoSaid' is the law's where the arguments, and the package variables that the reading takes, are together of bulk at most 1048576: NARROWER than '..Said'. Prove '..Said' where nothing that the law and all that it calls make is longer than what came in: it says more and counts as full. Else prove '..UptoSaid'. A law counts once. -/
mutual
def uptoBulk {H : Type} : DataW H → Nat
  | .lit (.string bytes) => bytes.length + 1
  | .lit _ => 1
  | .nil => 1
  | .ptr d => uptoBulk d + 1
  | .slice elems spare => uptoBulkAll elems + uptoBulkAll spare + 1
  | .agg parts => uptoBulkAll parts + 1
  | .iface _ d => uptoBulk d + 1
  | .map entries => uptoBulkEntries entries + 1
  | .held _ => 1
def uptoBulkAll {H : Type} : List (DataW H) → Nat
  | [] => 0
  | d :: r => uptoBulk d + uptoBulkAll r
def uptoBulkEntries {H : Type} : List (Lit × DataW H) → Nat
  | [] => 0
  | x :: r => uptoBulkEntry x + uptoBulkEntries r
def uptoBulkEntry {H : Type} : Lit × DataW H → Nat
  | (.string bytes, d) => bytes.length + uptoBulk d + 1
  | (_, d) => uptoBulk d + 1
 end
def uptoSmall : (H : Type) → List (DataW H) → Bool := fun _ ds => decide (uptoBulkAll ds ≤ 1048576)
def OpenSpec.upto (s : _root_.Go.ChangeSpec) : _root_.Go.OpenSpec := { _root_.Go.OpenSpec.ofChange s with cond := some uptoSmall }

/-- 'tontinelaw18.KindFormulas', WHERE WHAT IT READS IS OF BULK AT MOST 1048576: true; the input reads as it did. -/
def kindFormulasUptoRow : OpenClaim := { program := "ytpfnnamicbbobaa", sum := "97c04fbcc04f128bd88606719adcb93ea336968c5f40b9af1c99259951e51f02", func := "tontine/tontinelaw18.KindFormulas", spec := "kindFormulas", inPlace := ["internal/bytealg.CountString", "internal/bytealg.IndexByteString", "internal/bytealg.IndexString"], unfollowed := true, recurses := true, named := ["internal/bytealg.MaxLen"], apart := false, narrowed := true }
def KindFormulasUptoSaid : Prop := kindFormulasUptoRow.holds Try.pinned (OpenSpec.upto kindFormulasSpec)

/-- 'tontinelaw18.KindPuts', WHERE WHAT IT READS IS OF BULK AT MOST 1048576: true; the input reads as it did. -/
def kindPutsUptoRow : OpenClaim := { program := "ytpfnnamicbbobaa", sum := "97c04fbcc04f128bd88606719adcb93ea336968c5f40b9af1c99259951e51f02", func := "tontine/tontinelaw18.KindPuts", spec := "kindPuts", inPlace := ["internal/bytealg.CountString", "internal/bytealg.IndexByteString", "internal/bytealg.IndexString"], unfollowed := true, recurses := true, named := ["internal/bytealg.MaxLen"], apart := false, narrowed := true }
def KindPutsUptoSaid : Prop := kindPutsUptoRow.holds Try.pinned (OpenSpec.upto kindPutsSpec)

/-- 'tontinelaw18.KindWords', WHERE WHAT IT READS IS OF BULK AT MOST 1048576: true; the input reads as it did. -/
def kindWordsUptoRow : OpenClaim := { program := "ytpfnnamicbbobaa", sum := "97c04fbcc04f128bd88606719adcb93ea336968c5f40b9af1c99259951e51f02", func := "tontine/tontinelaw18.KindWords", spec := "kindWords", inPlace := ["internal/bytealg.CountString", "internal/bytealg.IndexByteString", "internal/bytealg.IndexString"], unfollowed := true, recurses := true, named := ["internal/bytealg.MaxLen"], apart := false, narrowed := true }
def KindWordsUptoSaid : Prop := kindWordsUptoRow.holds Try.pinned (OpenSpec.upto kindWordsSpec)

/-- 'tontinelaw18.KindSubstitutes', WHERE WHAT IT READS IS OF BULK AT MOST 1048576: true; the input reads as it did. -/
def kindSubstitutesUptoRow : OpenClaim := { program := "ytpfnnamicbbobaa", sum := "97c04fbcc04f128bd88606719adcb93ea336968c5f40b9af1c99259951e51f02", func := "tontine/tontinelaw18.KindSubstitutes", spec := "kindSubstitutes", inPlace := ["internal/bytealg.CountString", "internal/bytealg.IndexByteString", "internal/bytealg.IndexString"], unfollowed := true, recurses := true, named := ["internal/bytealg.MaxLen"], apart := false, narrowed := true }
def KindSubstitutesUptoSaid : Prop := kindSubstitutesUptoRow.holds Try.pinned (OpenSpec.upto kindSubstitutesSpec)

/-- 'tontinelaw18.KindParts', WHERE WHAT IT READS IS OF BULK AT MOST 1048576: true; the input reads as it did. -/
def kindPartsUptoRow : OpenClaim := { program := "ytpfnnamicbbobaa", sum := "97c04fbcc04f128bd88606719adcb93ea336968c5f40b9af1c99259951e51f02", func := "tontine/tontinelaw18.KindParts", spec := "kindParts", inPlace := ["internal/bytealg.CountString", "internal/bytealg.IndexByteString", "internal/bytealg.IndexString"], unfollowed := true, recurses := true, named := ["internal/bytealg.MaxLen"], apart := false, narrowed := true }
def KindPartsUptoSaid : Prop := kindPartsUptoRow.holds Try.pinned (OpenSpec.upto kindPartsSpec)

/-- 'tontinelaw18.KindIdle', WHERE WHAT IT READS IS OF BULK AT MOST 1048576: true; the input reads as it did. -/
def kindIdleUptoRow : OpenClaim := { program := "ytpfnnamicbbobaa", sum := "97c04fbcc04f128bd88606719adcb93ea336968c5f40b9af1c99259951e51f02", func := "tontine/tontinelaw18.KindIdle", spec := "kindIdle", inPlace := ["internal/bytealg.CountString", "internal/bytealg.IndexByteString", "internal/bytealg.IndexString"], unfollowed := true, recurses := true, named := ["internal/bytealg.MaxLen"], apart := false, narrowed := true }
def KindIdleUptoSaid : Prop := kindIdleUptoRow.holds Try.pinned (OpenSpec.upto kindIdleSpec)

end Rows
end Go.Proofs.Ytpfnnamicbbobaa
