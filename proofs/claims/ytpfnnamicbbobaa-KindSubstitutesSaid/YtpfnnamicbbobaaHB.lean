-- What a program of the kit printed for this seat, without what this claim does not use (struck by wip/tools/prune.py).
/- clause.isKept, and the document's Kept: contracts typed by hand. -/
import Derived.Test.YtpfnnamicbbobaaHS
import Derived.Test.YtpfnnamicbbobaaShelf
import Derived.Deep.WholeRow
import Derived.KernelRfl
import Derived.Lib.Hide
namespace Go.Proofs.Ytpfnnamicbbobaa.HB
open Go.RowKit Go.Proofs.Ytpfnnamicbbobaa.HS
def keptText : List UInt8 := [32, 112, 114, 111, 100, 117, 99, 116, 32, 103, 105, 118, 101, 110, 32, 108, 101, 116, 32, 121, 101, 97, 114, 115, 32, 112, 114, 101, 109, 105, 117, 109, 32, 99, 111, 115, 116, 32, 100, 101, 97, 116, 104, 32, 108, 105, 118, 101, 32, 110, 117, 109, 98, 101, 114, 32, 109, 111, 110, 101, 121, 32, 116, 114, 117, 116, 104, 32, 102, 114, 111, 109, 32, 116, 111, 32, 105, 115, 32, 105, 102, 32, 116, 104, 101, 110, 32, 101, 108, 115, 101, 32, 97, 110, 100, 32, 111, 114, 32, 110, 111, 116, 32, 116, 114, 117, 101, 32, 102, 97, 108, 115, 101, 32, 109, 105, 110, 32, 109, 97, 120, 32, 114, 111, 117, 110, 100, 32]
set_option maxHeartbeats 1000000 in
set_option maxRecDepth 100000 in
theorem isKept_any (s : ByteArray) (w : World) (m : Int) (hs : s.size ≤ 24) (hm : w.cell? ⟨0, 0, none⟩ = some (.int .i64 m)) :
    Calls Try.prog 91 #[.string s] w fun e w' => e = .returned (.bool (Lib.contains keptText (32 :: (s.data.toList ++ [32])))) ∧ w = w' := by
  go_enter Try.func91, Try.ntmps91
  go_wp2_with fail
  refine (Try.strings_Contains ⟨keptText.toArray⟩ _ m w (by decide) hm).mono ?_
  rintro e w' ⟨rfl, rfl⟩
  go_wp2_with fail
  go_ret
  refine ⟨ret_bool ?_, rfl⟩
  congr 1
/-- The document's kept words. -/
def keptWs : List ByteArray := [⟨#[112, 114, 111, 100, 117, 99, 116]⟩, ⟨#[103, 105, 118, 101, 110]⟩, ⟨#[108, 101, 116]⟩, ⟨#[121, 101, 97, 114, 115]⟩, ⟨#[112, 114, 101, 109, 105, 117, 109]⟩, ⟨#[99, 111, 115, 116]⟩, ⟨#[100, 101, 97, 116, 104]⟩, ⟨#[108, 105, 118, 101]⟩, ⟨#[110, 117, 109, 98, 101, 114]⟩, ⟨#[109, 111, 110, 101, 121]⟩, ⟨#[116, 114, 117, 116, 104]⟩, ⟨#[102, 114, 111, 109]⟩, ⟨#[116, 111]⟩, ⟨#[105, 115]⟩, ⟨#[105, 102]⟩, ⟨#[116, 104, 101, 110]⟩, ⟨#[101, 108, 115, 101]⟩, ⟨#[97, 110, 100]⟩, ⟨#[111, 114]⟩, ⟨#[110, 111, 116]⟩, ⟨#[116, 114, 117, 101]⟩, ⟨#[102, 97, 108, 115, 101]⟩, ⟨#[109, 105, 110]⟩, ⟨#[109, 97, 120]⟩, ⟨#[114, 111, 117, 110, 100]⟩]
def keptB (s : ByteArray) : Bool := keptWs.any fun x => x.toList == s.toList
end Go.Proofs.Ytpfnnamicbbobaa.HB
