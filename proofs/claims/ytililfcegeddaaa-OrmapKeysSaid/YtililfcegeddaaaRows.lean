/-
  NARROWER THAN 'FOR EVERY INPUT', by the rows' own cells (each row's printed sentence says how): CounterIncs: loops · CounterValue: loops · FlagCheck: loops · FlagEnables: loops · FlagOn: loops · FlagDisables: loops · OrmapKeys: loops.
  DERIVED. THE GIVEN ROWS OF THIS SEAT. 7 by the template 'for every input the law returns true; each argument reads behind the call as it read before'; 0 by the template 'total and deterministic' (their statements: YtililfcegeddaaaTotals.lean).
  GIVEN WITH THE SEED: the statements are not yours to turn. If you find one false, say at which input.
  Laid BY PROGRAM, IN A SANDBOX (cutbox-rows.mjs): the forced cells as the released guide's own fill.sh prints them over the translation a5a766754e3ddc26… (all of the seat's roots in one cut). By AI agents, Wed Nov 11 2026. No macro, syntax, notation, axiom, sorry.
-/
import Derived.Test.YtililfcegeddaaaChecked
import GoSem.Claim
import GoSem.ClaimJoined
import GoSem.ClaimMapViews
import Derived.JoinedTies
import Derived.KernelRfl
namespace Go.Proofs.Ytililfcegeddaaa
/- THE CELL 'sum', in the pinned program and in every row, IS THE sha256 OF THE DUMP (.gsa) THAT YtililfcegeddaaaProg.lean LOADS. Nothing in Lean hashes anything: it is a label: what it is worth is what the hold of that sum in a sandbox is worth. -/
noncomputable def Try.pinned : Pinned := { name := "ytililfcegeddaaa", sum := "a5a766754e3ddc268016d88c72224319ebc7384b3eaf7d97a1137066a9332895", checked := Try.checked }
namespace Rows
def none {H : Type} : Left H := { results := [], args := [] }

/-- 'tributarylaw12.CounterIncs': WHATEVER THE INPUT: true; the input reads as it did. -/
def counterIncsSpec : ChangeSpec := { name := "counterIncs", fn := fun _ => fun
  | [d1, d2, d3] => { results := [.lit (.bool true)], args := [d1, d2, d3] }
  | _ => none }
def counterIncsRow : OpenClaim := { program := "ytililfcegeddaaa", sum := "a5a766754e3ddc268016d88c72224319ebc7384b3eaf7d97a1137066a9332895", func := "tributary/tributarylaw12.CounterIncs", spec := "counterIncs", unfollowed := true, recurses := true, loops := true, apart := false }
def CounterIncsSaid : Prop := counterIncsRow.holds Try.pinned (OpenSpec.ofChange counterIncsSpec)

/-- ITS FALSE NEIGHBOUR: 'it returns false'. Refute it at one input. -/
def counterIncsWrong : ChangeSpec := { name := "counterIncs", fn := fun _ => fun
  | [d1, d2, d3] => { results := [.lit (.bool false)], args := [d1, d2, d3] }
  | _ => none }
def CounterIncsWrongFalsely : Prop := counterIncsRow.holds Try.pinned (OpenSpec.ofChange counterIncsWrong)

/-- 'tributarylaw12.CounterValue': WHATEVER THE INPUT: true; the input reads as it did. -/
def counterValueSpec : ChangeSpec := { name := "counterValue", fn := fun _ => fun
  | [d] => { results := [.lit (.bool true)], args := [d] }
  | _ => none }
def counterValueRow : OpenClaim := { program := "ytililfcegeddaaa", sum := "a5a766754e3ddc268016d88c72224319ebc7384b3eaf7d97a1137066a9332895", func := "tributary/tributarylaw12.CounterValue", spec := "counterValue", unfollowed := true, recurses := true, loops := true, apart := false }
def CounterValueSaid : Prop := counterValueRow.holds Try.pinned (OpenSpec.ofChange counterValueSpec)

/-- ITS FALSE NEIGHBOUR: 'it returns false'. Refute it at one input. -/
def counterValueWrong : ChangeSpec := { name := "counterValue", fn := fun _ => fun
  | [d] => { results := [.lit (.bool false)], args := [d] }
  | _ => none }
def CounterValueWrongFalsely : Prop := counterValueRow.holds Try.pinned (OpenSpec.ofChange counterValueWrong)

/-- 'tributarylaw10.FlagCheck': WHATEVER THE INPUT: true; the input reads as it did. -/
def flagCheckSpec : ChangeSpec := { name := "flagCheck", fn := fun _ => fun
  | [d1, d2] => { results := [.lit (.bool true)], args := [d1, d2] }
  | _ => none }
def flagCheckRow : OpenClaim := { program := "ytililfcegeddaaa", sum := "a5a766754e3ddc268016d88c72224319ebc7384b3eaf7d97a1137066a9332895", func := "tributary/tributarylaw10.FlagCheck", spec := "flagCheck", unfollowed := true, recurses := true, loops := true, apart := false }
def FlagCheckSaid : Prop := flagCheckRow.holds Try.pinned (OpenSpec.ofChange flagCheckSpec)

/-- ITS FALSE NEIGHBOUR: 'it returns false'. Refute it at one input. -/
def flagCheckWrong : ChangeSpec := { name := "flagCheck", fn := fun _ => fun
  | [d1, d2] => { results := [.lit (.bool false)], args := [d1, d2] }
  | _ => none }
def FlagCheckWrongFalsely : Prop := flagCheckRow.holds Try.pinned (OpenSpec.ofChange flagCheckWrong)

/-- 'tributarylaw10.FlagEnables': WHATEVER THE INPUT: true; the input reads as it did. -/
def flagEnablesSpec : ChangeSpec := { name := "flagEnables", fn := fun _ => fun
  | [d1, d2] => { results := [.lit (.bool true)], args := [d1, d2] }
  | _ => none }
def flagEnablesRow : OpenClaim := { program := "ytililfcegeddaaa", sum := "a5a766754e3ddc268016d88c72224319ebc7384b3eaf7d97a1137066a9332895", func := "tributary/tributarylaw10.FlagEnables", spec := "flagEnables", unfollowed := true, recurses := true, loops := true, apart := false }
def FlagEnablesSaid : Prop := flagEnablesRow.holds Try.pinned (OpenSpec.ofChange flagEnablesSpec)

/-- ITS FALSE NEIGHBOUR: 'it returns false'. Refute it at one input. -/
def flagEnablesWrong : ChangeSpec := { name := "flagEnables", fn := fun _ => fun
  | [d1, d2] => { results := [.lit (.bool false)], args := [d1, d2] }
  | _ => none }
def FlagEnablesWrongFalsely : Prop := flagEnablesRow.holds Try.pinned (OpenSpec.ofChange flagEnablesWrong)

/-- 'tributarylaw10.FlagOn': WHATEVER THE INPUT: true; the input reads as it did. -/
def flagOnSpec : ChangeSpec := { name := "flagOn", fn := fun _ => fun
  | [d] => { results := [.lit (.bool true)], args := [d] }
  | _ => none }
def flagOnRow : OpenClaim := { program := "ytililfcegeddaaa", sum := "a5a766754e3ddc268016d88c72224319ebc7384b3eaf7d97a1137066a9332895", func := "tributary/tributarylaw10.FlagOn", spec := "flagOn", unfollowed := true, recurses := true, loops := true, apart := false }
def FlagOnSaid : Prop := flagOnRow.holds Try.pinned (OpenSpec.ofChange flagOnSpec)

/-- ITS FALSE NEIGHBOUR: 'it returns false'. Refute it at one input. -/
def flagOnWrong : ChangeSpec := { name := "flagOn", fn := fun _ => fun
  | [d] => { results := [.lit (.bool false)], args := [d] }
  | _ => none }
def FlagOnWrongFalsely : Prop := flagOnRow.holds Try.pinned (OpenSpec.ofChange flagOnWrong)

/-- 'tributarylaw10.FlagDisables': WHATEVER THE INPUT: true; the input reads as it did. -/
def flagDisablesSpec : ChangeSpec := { name := "flagDisables", fn := fun _ => fun
  | [d1, d2] => { results := [.lit (.bool true)], args := [d1, d2] }
  | _ => none }
def flagDisablesRow : OpenClaim := { program := "ytililfcegeddaaa", sum := "a5a766754e3ddc268016d88c72224319ebc7384b3eaf7d97a1137066a9332895", func := "tributary/tributarylaw10.FlagDisables", spec := "flagDisables", unfollowed := true, recurses := true, loops := true, apart := false }
def FlagDisablesSaid : Prop := flagDisablesRow.holds Try.pinned (OpenSpec.ofChange flagDisablesSpec)

/-- ITS FALSE NEIGHBOUR: 'it returns false'. Refute it at one input. -/
def flagDisablesWrong : ChangeSpec := { name := "flagDisables", fn := fun _ => fun
  | [d1, d2] => { results := [.lit (.bool false)], args := [d1, d2] }
  | _ => none }
def FlagDisablesWrongFalsely : Prop := flagDisablesRow.holds Try.pinned (OpenSpec.ofChange flagDisablesWrong)

/-- 'tributarylaw14.OrmapKeys': WHATEVER THE INPUT: true; the input reads as it did. -/
def ormapKeysSpec : ChangeSpec := { name := "ormapKeys", fn := fun _ => fun
  | [d] => { results := [.lit (.bool true)], args := [d] }
  | _ => none }
def ormapKeysRow : OpenClaim := { program := "ytililfcegeddaaa", sum := "a5a766754e3ddc268016d88c72224319ebc7384b3eaf7d97a1137066a9332895", func := "tributary/tributarylaw14.OrmapKeys", spec := "ormapKeys", unfollowed := true, recurses := true, loops := true, apart := false }
def OrmapKeysSaid : Prop := ormapKeysRow.holds Try.pinned (OpenSpec.ofChange ormapKeysSpec)

/-- ITS FALSE NEIGHBOUR: 'it returns false'. Refute it at one input. -/
def ormapKeysWrong : ChangeSpec := { name := "ormapKeys", fn := fun _ => fun
  | [d] => { results := [.lit (.bool false)], args := [d] }
  | _ => none }
def OrmapKeysWrongFalsely : Prop := ormapKeysRow.holds Try.pinned (OpenSpec.ofChange ormapKeysWrong)

/- THE SECOND FORM. 'bulk': how many values and letters a reading holds, each counted each time it is reached (what is shared counts as often as it is met; a slice's spare places count too). A statement '..UptoSaid' is the law's where the arguments, and the package variables that the reading takes, are together of bulk at most 1048576: NARROWER than '..Said'. Prove '..Said' where nothing that the law and all that it calls make is longer than what came in: it says more and counts as full. Else prove '..UptoSaid'. A law counts once. -/
mutual
def uptoBulk {H : Type} : DataW H → Nat
  | .lit (.string bytes) => bytes.length + 1
  | .lit _ => 1
  | .nil => 1
  | .ptr d => uptoBulk d + 1
  | .slice elems spare => uptoBulkAll elems + uptoBulkAll spare + 1
  | .agg parts => uptoBulkAll parts + 1
  | .iface _ d => uptoBulk d + 1
  | .map entries => uptoBulkEntries entries + 1
  | .held _ => 1
def uptoBulkAll {H : Type} : List (DataW H) → Nat
  | [] => 0
  | d :: r => uptoBulk d + uptoBulkAll r
def uptoBulkEntries {H : Type} : List (Lit × DataW H) → Nat
  | [] => 0
  | x :: r => uptoBulkEntry x + uptoBulkEntries r
def uptoBulkEntry {H : Type} : Lit × DataW H → Nat
  | (.string bytes, d) => bytes.length + uptoBulk d + 1
  | (_, d) => uptoBulk d + 1
 end
def uptoSmall : (H : Type) → List (DataW H) → Bool := fun _ ds => decide (uptoBulkAll ds ≤ 1048576)
def OpenSpec.upto (s : _root_.Go.ChangeSpec) : _root_.Go.OpenSpec := { _root_.Go.OpenSpec.ofChange s with cond := some uptoSmall }

/-- 'tributarylaw12.CounterIncs', WHERE WHAT IT READS IS OF BULK AT MOST 1048576: true; the input reads as it did. -/
def counterIncsUptoRow : OpenClaim := { program := "ytililfcegeddaaa", sum := "a5a766754e3ddc268016d88c72224319ebc7384b3eaf7d97a1137066a9332895", func := "tributary/tributarylaw12.CounterIncs", spec := "counterIncs", unfollowed := true, recurses := true, loops := true, apart := false, narrowed := true }
def CounterIncsUptoSaid : Prop := counterIncsUptoRow.holds Try.pinned (OpenSpec.upto counterIncsSpec)

/-- 'tributarylaw12.CounterValue', WHERE WHAT IT READS IS OF BULK AT MOST 1048576: true; the input reads as it did. -/
def counterValueUptoRow : OpenClaim := { program := "ytililfcegeddaaa", sum := "a5a766754e3ddc268016d88c72224319ebc7384b3eaf7d97a1137066a9332895", func := "tributary/tributarylaw12.CounterValue", spec := "counterValue", unfollowed := true, recurses := true, loops := true, apart := false, narrowed := true }
def CounterValueUptoSaid : Prop := counterValueUptoRow.holds Try.pinned (OpenSpec.upto counterValueSpec)

/-- 'tributarylaw10.FlagCheck', WHERE WHAT IT READS IS OF BULK AT MOST 1048576: true; the input reads as it did. -/
def flagCheckUptoRow : OpenClaim := { program := "ytililfcegeddaaa", sum := "a5a766754e3ddc268016d88c72224319ebc7384b3eaf7d97a1137066a9332895", func := "tributary/tributarylaw10.FlagCheck", spec := "flagCheck", unfollowed := true, recurses := true, loops := true, apart := false, narrowed := true }
def FlagCheckUptoSaid : Prop := flagCheckUptoRow.holds Try.pinned (OpenSpec.upto flagCheckSpec)

/-- 'tributarylaw10.FlagEnables', WHERE WHAT IT READS IS OF BULK AT MOST 1048576: true; the input reads as it did. -/
def flagEnablesUptoRow : OpenClaim := { program := "ytililfcegeddaaa", sum := "a5a766754e3ddc268016d88c72224319ebc7384b3eaf7d97a1137066a9332895", func := "tributary/tributarylaw10.FlagEnables", spec := "flagEnables", unfollowed := true, recurses := true, loops := true, apart := false, narrowed := true }
def FlagEnablesUptoSaid : Prop := flagEnablesUptoRow.holds Try.pinned (OpenSpec.upto flagEnablesSpec)

/-- 'tributarylaw10.FlagOn', WHERE WHAT IT READS IS OF BULK AT MOST 1048576: true; the input reads as it did. -/
def flagOnUptoRow : OpenClaim := { program := "ytililfcegeddaaa", sum := "a5a766754e3ddc268016d88c72224319ebc7384b3eaf7d97a1137066a9332895", func := "tributary/tributarylaw10.FlagOn", spec := "flagOn", unfollowed := true, recurses := true, loops := true, apart := false, narrowed := true }
def FlagOnUptoSaid : Prop := flagOnUptoRow.holds Try.pinned (OpenSpec.upto flagOnSpec)

/-- 'tributarylaw10.FlagDisables', WHERE WHAT IT READS IS OF BULK AT MOST 1048576: true; the input reads as it did. -/
def flagDisablesUptoRow : OpenClaim := { program := "ytililfcegeddaaa", sum := "a5a766754e3ddc268016d88c72224319ebc7384b3eaf7d97a1137066a9332895", func := "tributary/tributarylaw10.FlagDisables", spec := "flagDisables", unfollowed := true, recurses := true, loops := true, apart := false, narrowed := true }
def FlagDisablesUptoSaid : Prop := flagDisablesUptoRow.holds Try.pinned (OpenSpec.upto flagDisablesSpec)

/-- 'tributarylaw14.OrmapKeys', WHERE WHAT IT READS IS OF BULK AT MOST 1048576: true; the input reads as it did. -/
def ormapKeysUptoRow : OpenClaim := { program := "ytililfcegeddaaa", sum := "a5a766754e3ddc268016d88c72224319ebc7384b3eaf7d97a1137066a9332895", func := "tributary/tributarylaw14.OrmapKeys", spec := "ormapKeys", unfollowed := true, recurses := true, loops := true, apart := false, narrowed := true }
def OrmapKeysUptoSaid : Prop := ormapKeysUptoRow.holds Try.pinned (OpenSpec.upto ormapKeysSpec)

end Rows
end Go.Proofs.Ytililfcegeddaaa
