/-
  NARROWER THAN 'FOR EVERY INPUT', by the rows' own cells (each row's printed sentence says how): FlagDisables: loops · OrmapKeys: loops · RegisterValues: loops.
  DERIVED. THE GIVEN ROWS OF THIS SEAT. 3 by the template 'for every input the law returns true; each argument reads behind the call as it read before'; 0 by the template 'total and deterministic' (their statements: YtdmhfiofgioihaaTotals.lean).
  GIVEN WITH THE SEED: the statements are not yours to turn. If you find one false, say at which input.
  Laid BY PROGRAM, IN A SANDBOX (cutbox-rows.mjs): the forced cells as the released guide's own fill.sh prints them over the translation 6ed34dff9eb44c5c… (all of the seat's roots in one cut). By AI agents, Wed Nov 11 2026. No macro, syntax, notation, axiom, sorry.
-/
import Derived.Test.YtdmhfiofgioihaaChecked
import GoSem.Claim
import GoSem.ClaimJoined
import GoSem.ClaimMapViews
import Derived.JoinedTies
import Derived.KernelRfl
namespace Go.Proofs.Ytdmhfiofgioihaa
/- THE CELL 'sum', in the pinned program and in every row, IS THE sha256 OF THE DUMP (.gsa) THAT YtdmhfiofgioihaaProg.lean LOADS. Nothing in Lean hashes anything: it is a label: what it is worth is what the hold of that sum in a sandbox is worth. -/
noncomputable def Try.pinned : Pinned := { name := "ytdmhfiofgioihaa", sum := "6ed34dff9eb44c5c373385132781b249d0ca9d7ed182cf6f29ba12edb07fa9c0", checked := Try.checked }
namespace Rows
def none {H : Type} : Left H := { results := [], args := [] }

/-- 'tributarylaw10.FlagDisables': WHATEVER THE INPUT: true; the input reads as it did. -/
def flagDisablesSpec : ChangeSpec := { name := "flagDisables", fn := fun _ => fun
  | [d1, d2] => { results := [.lit (.bool true)], args := [d1, d2] }
  | _ => none }
def flagDisablesRow : OpenClaim := { program := "ytdmhfiofgioihaa", sum := "6ed34dff9eb44c5c373385132781b249d0ca9d7ed182cf6f29ba12edb07fa9c0", func := "tributary/tributarylaw10.FlagDisables", spec := "flagDisables", unfollowed := true, recurses := true, loops := true, apart := false }
def FlagDisablesSaid : Prop := flagDisablesRow.holds Try.pinned (OpenSpec.ofChange flagDisablesSpec)

/-- ITS FALSE NEIGHBOUR: 'it returns false'. Refute it at one input. -/
def flagDisablesWrong : ChangeSpec := { name := "flagDisables", fn := fun _ => fun
  | [d1, d2] => { results := [.lit (.bool false)], args := [d1, d2] }
  | _ => none }
def FlagDisablesWrongFalsely : Prop := flagDisablesRow.holds Try.pinned (OpenSpec.ofChange flagDisablesWrong)

/-- 'tributarylaw14.OrmapKeys': WHATEVER THE INPUT: true; the input reads as it did. -/
def ormapKeysSpec : ChangeSpec := { name := "ormapKeys", fn := fun _ => fun
  | [d] => { results := [.lit (.bool true)], args := [d] }
  | _ => none }
def ormapKeysRow : OpenClaim := { program := "ytdmhfiofgioihaa", sum := "6ed34dff9eb44c5c373385132781b249d0ca9d7ed182cf6f29ba12edb07fa9c0", func := "tributary/tributarylaw14.OrmapKeys", spec := "ormapKeys", unfollowed := true, recurses := true, loops := true, apart := false }
def OrmapKeysSaid : Prop := ormapKeysRow.holds Try.pinned (OpenSpec.ofChange ormapKeysSpec)

/-- ITS FALSE NEIGHBOUR: 'it returns false'. Refute it at one input. -/
def ormapKeysWrong : ChangeSpec := { name := "ormapKeys", fn := fun _ => fun
  | [d] => { results := [.lit (.bool false)], args := [d] }
  | _ => none }
def OrmapKeysWrongFalsely : Prop := ormapKeysRow.holds Try.pinned (OpenSpec.ofChange ormapKeysWrong)

/-- 'tributarylaw13.RegisterValues': WHATEVER THE INPUT: true; the input reads as it did. -/
def registerValuesSpec : ChangeSpec := { name := "registerValues", fn := fun _ => fun
  | [d] => { results := [.lit (.bool true)], args := [d] }
  | _ => none }
def registerValuesRow : OpenClaim := { program := "ytdmhfiofgioihaa", sum := "6ed34dff9eb44c5c373385132781b249d0ca9d7ed182cf6f29ba12edb07fa9c0", func := "tributary/tributarylaw13.RegisterValues", spec := "registerValues", unfollowed := true, recurses := true, loops := true, apart := false }
def RegisterValuesSaid : Prop := registerValuesRow.holds Try.pinned (OpenSpec.ofChange registerValuesSpec)

/-- ITS FALSE NEIGHBOUR: 'it returns false'. Refute it at one input. -/
def registerValuesWrong : ChangeSpec := { name := "registerValues", fn := fun _ => fun
  | [d] => { results := [.lit (.bool false)], args := [d] }
  | _ => none }
def RegisterValuesWrongFalsely : Prop := registerValuesRow.holds Try.pinned (OpenSpec.ofChange registerValuesWrong)

/- THE SECOND FORM. 'bulk': how many values and letters a reading holds, each counted each time it is reached (what is shared counts as often as it is met; a slice's spare places count too). A statement '..UptoSaid' is the law's where the arguments, and the package variables that the reading takes, are together of bulk at most 1048576: NARROWER than '..Said'. Prove '..Said' where nothing that the law and all that it calls make is longer than what came in: it says more and counts as full. Else prove '..UptoSaid'. A law counts once. -/
mutual
def uptoBulk {H : Type} : DataW H → Nat
  | .lit (.string bytes) => bytes.length + 1
  | .lit _ => 1
  | .nil => 1
  | .ptr d => uptoBulk d + 1
  | .slice elems spare => uptoBulkAll elems + uptoBulkAll spare + 1
  | .agg parts => uptoBulkAll parts + 1
  | .iface _ d => uptoBulk d + 1
  | .map entries => uptoBulkEntries entries + 1
  | .held _ => 1
def uptoBulkAll {H : Type} : List (DataW H) → Nat
  | [] => 0
  | d :: r => uptoBulk d + uptoBulkAll r
def uptoBulkEntries {H : Type} : List (Lit × DataW H) → Nat
  | [] => 0
  | x :: r => uptoBulkEntry x + uptoBulkEntries r
def uptoBulkEntry {H : Type} : Lit × DataW H → Nat
  | (.string bytes, d) => bytes.length + uptoBulk d + 1
  | (_, d) => uptoBulk d + 1
 end
def uptoSmall : (H : Type) → List (DataW H) → Bool := fun _ ds => decide (uptoBulkAll ds ≤ 1048576)
def OpenSpec.upto (s : _root_.Go.ChangeSpec) : _root_.Go.OpenSpec := { _root_.Go.OpenSpec.ofChange s with cond := some uptoSmall }

/-- 'tributarylaw10.FlagDisables', WHERE WHAT IT READS IS OF BULK AT MOST 1048576: true; the input reads as it did. -/
def flagDisablesUptoRow : OpenClaim := { program := "ytdmhfiofgioihaa", sum := "6ed34dff9eb44c5c373385132781b249d0ca9d7ed182cf6f29ba12edb07fa9c0", func := "tributary/tributarylaw10.FlagDisables", spec := "flagDisables", unfollowed := true, recurses := true, loops := true, apart := false, narrowed := true }
def FlagDisablesUptoSaid : Prop := flagDisablesUptoRow.holds Try.pinned (OpenSpec.upto flagDisablesSpec)

/-- 'tributarylaw14.OrmapKeys', WHERE WHAT IT READS IS OF BULK AT MOST 1048576: true; the input reads as it did. -/
def ormapKeysUptoRow : OpenClaim := { program := "ytdmhfiofgioihaa", sum := "6ed34dff9eb44c5c373385132781b249d0ca9d7ed182cf6f29ba12edb07fa9c0", func := "tributary/tributarylaw14.OrmapKeys", spec := "ormapKeys", unfollowed := true, recurses := true, loops := true, apart := false, narrowed := true }
def OrmapKeysUptoSaid : Prop := ormapKeysUptoRow.holds Try.pinned (OpenSpec.upto ormapKeysSpec)

/-- 'tributarylaw13.RegisterValues', WHERE WHAT IT READS IS OF BULK AT MOST 1048576: true; the input reads as it did. -/
def registerValuesUptoRow : OpenClaim := { program := "ytdmhfiofgioihaa", sum := "6ed34dff9eb44c5c373385132781b249d0ca9d7ed182cf6f29ba12edb07fa9c0", func := "tributary/tributarylaw13.RegisterValues", spec := "registerValues", unfollowed := true, recurses := true, loops := true, apart := false, narrowed := true }
def RegisterValuesUptoSaid : Prop := registerValuesUptoRow.holds Try.pinned (OpenSpec.upto registerValuesSpec)

end Rows
end Go.Proofs.Ytdmhfiofgioihaa
