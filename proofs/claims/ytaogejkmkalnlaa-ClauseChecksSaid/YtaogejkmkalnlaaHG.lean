/- A fact on the world that contracts hand on: internal/bytealg.MaxLen holds some int. -/
import Derived.Test.YtaogejkmkalnlaaProg
import Derived.Test.YtaogejkmkalnlaaWWords
import Derived.Test.YtaogejkmkalnlaaHM
namespace Go.Proofs.YtaogejkmkalnlaaW.PrintWords
open Go.RowKit
structure Glob (w : World) : Prop where mk :: (out : ∃ m, w.cell? ⟨0, 0, none⟩ = some (.int .i64 m))
theorem Glob.below {w w1 : World} (h : Glob w) (hb : Below w.heap.size w w1) : Glob w1 := by
  obtain ⟨m, hm⟩ := h
  exact ⟨m, pw_cell_below hb hm⟩
theorem Glob.drawn {w w1 : World} (h : Glob w) (hb : Drawn0 w w1) : Glob w1 := h.below hb.below
/-- A map from strings to ints that came in: its block, and what it holds. -/
structure MapV where
  b : Nat
  l : List (ByteArray × Int)
structure MapAt (w : World) (m : MapV) : Prop where mk :: (out : Ytaogejkmkalnlaa.HM.MapIs Value.string w m.b m.l)
theorem MapAt.below {w w1 : World} {m : MapV} (h : MapAt w m) (hb : Below w.heap.size w w1) : MapAt w1 m := ⟨h.out.below hb⟩
theorem MapAt.drawn {w w1 : World} {m : MapV} (h : MapAt w m) (hb : Drawn0 w w1) : MapAt w1 m := h.below hb.below
def mgetD (m : MapV) (s : ByteArray) : Int := (Ytaogejkmkalnlaa.HM.mget m.l s).getD 0
theorem wpList_mlook {P : Program} {ops : Array Oper} {rest : List Oper} {o : Oper} {a : Act} {w : World} {Q : Exit → Act → World → Prop} (hgd : o.guard = none) (m x : Operand) (t : TypeId) (hop : o.op = .lookup t m x false)
    {key elem : TypeId} (ht : P.underlying t = some (.map key elem)) (hk : P.underlying key = some .string) (hz : ∀ w, (zeroValue elem).run P w = .ok (.int .i64 0) w)
    {v : MapV} (h : MapAt w v) (hm : a.eval m = .map (some v.b)) (k : ByteArray) (hx : a.eval x = .string k) (hK : wpList P ops Q rest (a.put o.dst (.int .i64 (mgetD v k))) w) : wpList P ops Q (o :: rest) a w :=
  Ytaogejkmkalnlaa.HM.wpList_look hgd m x t hop (.inl rfl) Ytaogejkmkalnlaa.HM.string_law ht hk hz h.out hm k hx hK
/-- The next operation is a look-up in a map: fails fast where it is another. -/
theorem gate_lookup {P : Program} {ops : Array Oper} {rest : List Oper} {o : Oper} {a : Act} {w : World} {Q : Exit → Act → World → Prop} {t : TypeId} {m x : Operand} {b : Bool} (_ : o.op = .lookup t m x b) (h : wpList P ops Q (o :: rest) a w) : wpList P ops Q (o :: rest) a w := h
theorem gate_update {P : Program} {ops : Array Oper} {rest : List Oper} {o : Oper} {a : Act} {w : World} {Q : Exit → Act → World → Prop} {t : TypeId} {m x y : Operand} (_ : o.op = .mapUpdate t m x y) (h : wpList P ops Q (o :: rest) a w) : wpList P ops Q (o :: rest) a w := h
theorem own_len (A : Option Addr) (n m c : Nat) : (Value.slice A n c).ownBlock = (Value.slice A m c).ownBlock := by cases A <;> rfl
end Go.Proofs.YtaogejkmkalnlaaW.PrintWords
