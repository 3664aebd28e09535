/-
  NARROWER THAN 'FOR EVERY INPUT', by the rows' own cells (each row's printed sentence says how): CausalJoins: loops · CausalAll: loops · CausalTells: loops · CausalEntry: loops · CausalLattice: loops · CausalLeast: loops · CausalOrder: loops · CausalOnly: loops · CausalOwn: loops · FlagTurns: loops · FlagWins: loops · CounterTurns: loops · CounterAll: loops · RegisterTurns: loops · RegisterBoth: loops · SetTurns: loops · SetBoth: loops · SetWins: loops · OrmapBelow: loops · OrmapKeeps: loops.
  DERIVED. THE GIVEN ROWS OF THIS SEAT. 20 by the template 'for every input the law returns true; each argument reads behind the call as it read before'; 0 by the template 'total and deterministic' (their statements: YtkjijbogbelilaaGreatTotals.lean).
  GIVEN WITH THE SEED: the statements are not yours to turn. If you find one false, say at which input.
  Laid BY PROGRAM, IN A SANDBOX (cutbox-rows.mjs): the forced cells as the released guide's own fill.sh prints them over the translation 082a4d7ed15ef6e3… (all of the seat's roots in one cut). By AI agents, Wed Nov 11 2026. No macro, syntax, notation, axiom, sorry.
-/
import Derived.Test.YtkjijbogbelilaaGreatChecked
import GoSem.Claim
import GoSem.ClaimJoined
import GoSem.ClaimMapViews
import Derived.JoinedTies
import Derived.KernelRfl
namespace Go.Proofs.YtkjijbogbelilaaGreat
/- THE CELL 'sum', in the pinned program and in every row, IS THE sha256 OF THE DUMP (.gsa) THAT YtkjijbogbelilaaGreatProg.lean LOADS. Nothing in Lean hashes anything: it is a label: what it is worth is what the hold of that sum in a sandbox is worth. -/
noncomputable def Tryz.pinned : Pinned := { name := "ytkjijbogbelilaagreat", sum := "082a4d7ed15ef6e32576c7d9b4c085bcbd00e4c794f01c2eb09f7324d620d916", checked := Tryz.checked }
namespace Rows
def none {H : Type} : Left H := { results := [], args := [] }

/-- 'tributarylaw09.CausalJoins': WHATEVER THE INPUT: true; the input reads as it did. -/
def causalJoinsSpec : ChangeSpec := { name := "causalJoins", fn := fun _ => fun
  | [d1, d2] => { results := [.lit (.bool true)], args := [d1, d2] }
  | _ => none }
def causalJoinsRow : OpenClaim := { program := "ytkjijbogbelilaagreat", sum := "082a4d7ed15ef6e32576c7d9b4c085bcbd00e4c794f01c2eb09f7324d620d916", func := "tributary/tributarylaw09.CausalJoins", spec := "causalJoins", unfollowed := true, recurses := true, loops := true, apart := false }
def CausalJoinsSaid : Prop := causalJoinsRow.holds Tryz.pinned (OpenSpec.ofChange causalJoinsSpec)

/-- ITS FALSE NEIGHBOUR: 'it returns false'. Refute it at one input. -/
def causalJoinsWrong : ChangeSpec := { name := "causalJoins", fn := fun _ => fun
  | [d1, d2] => { results := [.lit (.bool false)], args := [d1, d2] }
  | _ => none }
def CausalJoinsWrongFalsely : Prop := causalJoinsRow.holds Tryz.pinned (OpenSpec.ofChange causalJoinsWrong)

/-- 'tributarylaw09.CausalAll': WHATEVER THE INPUT: true; the input reads as it did. -/
def causalAllSpec : ChangeSpec := { name := "causalAll", fn := fun _ => fun
  | [d] => { results := [.lit (.bool true)], args := [d] }
  | _ => none }
def causalAllRow : OpenClaim := { program := "ytkjijbogbelilaagreat", sum := "082a4d7ed15ef6e32576c7d9b4c085bcbd00e4c794f01c2eb09f7324d620d916", func := "tributary/tributarylaw09.CausalAll", spec := "causalAll", unfollowed := true, recurses := true, loops := true, apart := false }
def CausalAllSaid : Prop := causalAllRow.holds Tryz.pinned (OpenSpec.ofChange causalAllSpec)

/-- ITS FALSE NEIGHBOUR: 'it returns false'. Refute it at one input. -/
def causalAllWrong : ChangeSpec := { name := "causalAll", fn := fun _ => fun
  | [d] => { results := [.lit (.bool false)], args := [d] }
  | _ => none }
def CausalAllWrongFalsely : Prop := causalAllRow.holds Tryz.pinned (OpenSpec.ofChange causalAllWrong)

/-- 'tributarylaw09.CausalTells': WHATEVER THE INPUT: true; the input reads as it did. -/
def causalTellsSpec : ChangeSpec := { name := "causalTells", fn := fun _ => fun
  | [d1, d2] => { results := [.lit (.bool true)], args := [d1, d2] }
  | _ => none }
def causalTellsRow : OpenClaim := { program := "ytkjijbogbelilaagreat", sum := "082a4d7ed15ef6e32576c7d9b4c085bcbd00e4c794f01c2eb09f7324d620d916", func := "tributary/tributarylaw09.CausalTells", spec := "causalTells", unfollowed := true, recurses := true, loops := true, apart := false }
def CausalTellsSaid : Prop := causalTellsRow.holds Tryz.pinned (OpenSpec.ofChange causalTellsSpec)

/-- ITS FALSE NEIGHBOUR: 'it returns false'. Refute it at one input. -/
def causalTellsWrong : ChangeSpec := { name := "causalTells", fn := fun _ => fun
  | [d1, d2] => { results := [.lit (.bool false)], args := [d1, d2] }
  | _ => none }
def CausalTellsWrongFalsely : Prop := causalTellsRow.holds Tryz.pinned (OpenSpec.ofChange causalTellsWrong)

/-- 'tributarylaw09.CausalEntry': WHATEVER THE INPUT: true; the input reads as it did. -/
def causalEntrySpec : ChangeSpec := { name := "causalEntry", fn := fun _ => fun
  | [d1, d2, d3, d4] => { results := [.lit (.bool true)], args := [d1, d2, d3, d4] }
  | _ => none }
def causalEntryRow : OpenClaim := { program := "ytkjijbogbelilaagreat", sum := "082a4d7ed15ef6e32576c7d9b4c085bcbd00e4c794f01c2eb09f7324d620d916", func := "tributary/tributarylaw09.CausalEntry", spec := "causalEntry", unfollowed := true, recurses := true, loops := true, apart := false }
def CausalEntrySaid : Prop := causalEntryRow.holds Tryz.pinned (OpenSpec.ofChange causalEntrySpec)

/-- ITS FALSE NEIGHBOUR: 'it returns false'. Refute it at one input. -/
def causalEntryWrong : ChangeSpec := { name := "causalEntry", fn := fun _ => fun
  | [d1, d2, d3, d4] => { results := [.lit (.bool false)], args := [d1, d2, d3, d4] }
  | _ => none }
def CausalEntryWrongFalsely : Prop := causalEntryRow.holds Tryz.pinned (OpenSpec.ofChange causalEntryWrong)

/-- 'tributarylaw09.CausalLattice': WHATEVER THE INPUT: true; the input reads as it did. -/
def causalLatticeSpec : ChangeSpec := { name := "causalLattice", fn := fun _ => fun
  | [d1, d2, d3] => { results := [.lit (.bool true)], args := [d1, d2, d3] }
  | _ => none }
def causalLatticeRow : OpenClaim := { program := "ytkjijbogbelilaagreat", sum := "082a4d7ed15ef6e32576c7d9b4c085bcbd00e4c794f01c2eb09f7324d620d916", func := "tributary/tributarylaw09.CausalLattice", spec := "causalLattice", unfollowed := true, recurses := true, loops := true, apart := false }
def CausalLatticeSaid : Prop := causalLatticeRow.holds Tryz.pinned (OpenSpec.ofChange causalLatticeSpec)

/-- ITS FALSE NEIGHBOUR: 'it returns false'. Refute it at one input. -/
def causalLatticeWrong : ChangeSpec := { name := "causalLattice", fn := fun _ => fun
  | [d1, d2, d3] => { results := [.lit (.bool false)], args := [d1, d2, d3] }
  | _ => none }
def CausalLatticeWrongFalsely : Prop := causalLatticeRow.holds Tryz.pinned (OpenSpec.ofChange causalLatticeWrong)

/-- 'tributarylaw09.CausalLeast': WHATEVER THE INPUT: true; the input reads as it did. -/
def causalLeastSpec : ChangeSpec := { name := "causalLeast", fn := fun _ => fun
  | [d1, d2, d3] => { results := [.lit (.bool true)], args := [d1, d2, d3] }
  | _ => none }
def causalLeastRow : OpenClaim := { program := "ytkjijbogbelilaagreat", sum := "082a4d7ed15ef6e32576c7d9b4c085bcbd00e4c794f01c2eb09f7324d620d916", func := "tributary/tributarylaw09.CausalLeast", spec := "causalLeast", unfollowed := true, recurses := true, loops := true, apart := false }
def CausalLeastSaid : Prop := causalLeastRow.holds Tryz.pinned (OpenSpec.ofChange causalLeastSpec)

/-- ITS FALSE NEIGHBOUR: 'it returns false'. Refute it at one input. -/
def causalLeastWrong : ChangeSpec := { name := "causalLeast", fn := fun _ => fun
  | [d1, d2, d3] => { results := [.lit (.bool false)], args := [d1, d2, d3] }
  | _ => none }
def CausalLeastWrongFalsely : Prop := causalLeastRow.holds Tryz.pinned (OpenSpec.ofChange causalLeastWrong)

/-- 'tributarylaw09.CausalOrder': WHATEVER THE INPUT: true; the input reads as it did. -/
def causalOrderSpec : ChangeSpec := { name := "causalOrder", fn := fun _ => fun
  | [d1, d2, d3] => { results := [.lit (.bool true)], args := [d1, d2, d3] }
  | _ => none }
def causalOrderRow : OpenClaim := { program := "ytkjijbogbelilaagreat", sum := "082a4d7ed15ef6e32576c7d9b4c085bcbd00e4c794f01c2eb09f7324d620d916", func := "tributary/tributarylaw09.CausalOrder", spec := "causalOrder", unfollowed := true, recurses := true, loops := true, apart := false }
def CausalOrderSaid : Prop := causalOrderRow.holds Tryz.pinned (OpenSpec.ofChange causalOrderSpec)

/-- ITS FALSE NEIGHBOUR: 'it returns false'. Refute it at one input. -/
def causalOrderWrong : ChangeSpec := { name := "causalOrder", fn := fun _ => fun
  | [d1, d2, d3] => { results := [.lit (.bool false)], args := [d1, d2, d3] }
  | _ => none }
def CausalOrderWrongFalsely : Prop := causalOrderRow.holds Tryz.pinned (OpenSpec.ofChange causalOrderWrong)

/-- 'tributarylaw09.CausalOnly': WHATEVER THE INPUT: true; the input reads as it did. -/
def causalOnlySpec : ChangeSpec := { name := "causalOnly", fn := fun _ => fun
  | [d1, d2] => { results := [.lit (.bool true)], args := [d1, d2] }
  | _ => none }
def causalOnlyRow : OpenClaim := { program := "ytkjijbogbelilaagreat", sum := "082a4d7ed15ef6e32576c7d9b4c085bcbd00e4c794f01c2eb09f7324d620d916", func := "tributary/tributarylaw09.CausalOnly", spec := "causalOnly", unfollowed := true, recurses := true, loops := true, apart := false }
def CausalOnlySaid : Prop := causalOnlyRow.holds Tryz.pinned (OpenSpec.ofChange causalOnlySpec)

/-- ITS FALSE NEIGHBOUR: 'it returns false'. Refute it at one input. -/
def causalOnlyWrong : ChangeSpec := { name := "causalOnly", fn := fun _ => fun
  | [d1, d2] => { results := [.lit (.bool false)], args := [d1, d2] }
  | _ => none }
def CausalOnlyWrongFalsely : Prop := causalOnlyRow.holds Tryz.pinned (OpenSpec.ofChange causalOnlyWrong)

/-- 'tributarylaw09.CausalOwn': WHATEVER THE INPUT: true; the input reads as it did. -/
def causalOwnSpec : ChangeSpec := { name := "causalOwn", fn := fun _ => fun
  | [d1, d2, d3] => { results := [.lit (.bool true)], args := [d1, d2, d3] }
  | _ => none }
def causalOwnRow : OpenClaim := { program := "ytkjijbogbelilaagreat", sum := "082a4d7ed15ef6e32576c7d9b4c085bcbd00e4c794f01c2eb09f7324d620d916", func := "tributary/tributarylaw09.CausalOwn", spec := "causalOwn", unfollowed := true, recurses := true, loops := true, apart := false }
def CausalOwnSaid : Prop := causalOwnRow.holds Tryz.pinned (OpenSpec.ofChange causalOwnSpec)

/-- ITS FALSE NEIGHBOUR: 'it returns false'. Refute it at one input. -/
def causalOwnWrong : ChangeSpec := { name := "causalOwn", fn := fun _ => fun
  | [d1, d2, d3] => { results := [.lit (.bool false)], args := [d1, d2, d3] }
  | _ => none }
def CausalOwnWrongFalsely : Prop := causalOwnRow.holds Tryz.pinned (OpenSpec.ofChange causalOwnWrong)

/-- 'tributarylaw10.FlagTurns': WHATEVER THE INPUT: true; the input reads as it did. -/
def flagTurnsSpec : ChangeSpec := { name := "flagTurns", fn := fun _ => fun
  | [d1, d2] => { results := [.lit (.bool true)], args := [d1, d2] }
  | _ => none }
def flagTurnsRow : OpenClaim := { program := "ytkjijbogbelilaagreat", sum := "082a4d7ed15ef6e32576c7d9b4c085bcbd00e4c794f01c2eb09f7324d620d916", func := "tributary/tributarylaw10.FlagTurns", spec := "flagTurns", unfollowed := true, recurses := true, loops := true, apart := false }
def FlagTurnsSaid : Prop := flagTurnsRow.holds Tryz.pinned (OpenSpec.ofChange flagTurnsSpec)

/-- ITS FALSE NEIGHBOUR: 'it returns false'. Refute it at one input. -/
def flagTurnsWrong : ChangeSpec := { name := "flagTurns", fn := fun _ => fun
  | [d1, d2] => { results := [.lit (.bool false)], args := [d1, d2] }
  | _ => none }
def FlagTurnsWrongFalsely : Prop := flagTurnsRow.holds Tryz.pinned (OpenSpec.ofChange flagTurnsWrong)

/-- 'tributarylaw10.FlagWins': WHATEVER THE INPUT: true; the input reads as it did. -/
def flagWinsSpec : ChangeSpec := { name := "flagWins", fn := fun _ => fun
  | [d1, d2, d3] => { results := [.lit (.bool true)], args := [d1, d2, d3] }
  | _ => none }
def flagWinsRow : OpenClaim := { program := "ytkjijbogbelilaagreat", sum := "082a4d7ed15ef6e32576c7d9b4c085bcbd00e4c794f01c2eb09f7324d620d916", func := "tributary/tributarylaw10.FlagWins", spec := "flagWins", unfollowed := true, recurses := true, loops := true, apart := false }
def FlagWinsSaid : Prop := flagWinsRow.holds Tryz.pinned (OpenSpec.ofChange flagWinsSpec)

/-- ITS FALSE NEIGHBOUR: 'it returns false'. Refute it at one input. -/
def flagWinsWrong : ChangeSpec := { name := "flagWins", fn := fun _ => fun
  | [d1, d2, d3] => { results := [.lit (.bool false)], args := [d1, d2, d3] }
  | _ => none }
def FlagWinsWrongFalsely : Prop := flagWinsRow.holds Tryz.pinned (OpenSpec.ofChange flagWinsWrong)

/-- 'tributarylaw12.CounterTurns': WHATEVER THE INPUT: true; the input reads as it did. -/
def counterTurnsSpec : ChangeSpec := { name := "counterTurns", fn := fun _ => fun
  | [d1, d2, d3] => { results := [.lit (.bool true)], args := [d1, d2, d3] }
  | _ => none }
def counterTurnsRow : OpenClaim := { program := "ytkjijbogbelilaagreat", sum := "082a4d7ed15ef6e32576c7d9b4c085bcbd00e4c794f01c2eb09f7324d620d916", func := "tributary/tributarylaw12.CounterTurns", spec := "counterTurns", unfollowed := true, recurses := true, loops := true, apart := false }
def CounterTurnsSaid : Prop := counterTurnsRow.holds Tryz.pinned (OpenSpec.ofChange counterTurnsSpec)

/-- ITS FALSE NEIGHBOUR: 'it returns false'. Refute it at one input. -/
def counterTurnsWrong : ChangeSpec := { name := "counterTurns", fn := fun _ => fun
  | [d1, d2, d3] => { results := [.lit (.bool false)], args := [d1, d2, d3] }
  | _ => none }
def CounterTurnsWrongFalsely : Prop := counterTurnsRow.holds Tryz.pinned (OpenSpec.ofChange counterTurnsWrong)

/-- 'tributarylaw12.CounterAll': WHATEVER THE INPUT: true; the input reads as it did. -/
def counterAllSpec : ChangeSpec := { name := "counterAll", fn := fun _ => fun
  | [d1, d2] => { results := [.lit (.bool true)], args := [d1, d2] }
  | _ => none }
def counterAllRow : OpenClaim := { program := "ytkjijbogbelilaagreat", sum := "082a4d7ed15ef6e32576c7d9b4c085bcbd00e4c794f01c2eb09f7324d620d916", func := "tributary/tributarylaw12.CounterAll", spec := "counterAll", unfollowed := true, recurses := true, loops := true, apart := false }
def CounterAllSaid : Prop := counterAllRow.holds Tryz.pinned (OpenSpec.ofChange counterAllSpec)

/-- ITS FALSE NEIGHBOUR: 'it returns false'. Refute it at one input. -/
def counterAllWrong : ChangeSpec := { name := "counterAll", fn := fun _ => fun
  | [d1, d2] => { results := [.lit (.bool false)], args := [d1, d2] }
  | _ => none }
def CounterAllWrongFalsely : Prop := counterAllRow.holds Tryz.pinned (OpenSpec.ofChange counterAllWrong)

/-- 'tributarylaw13.RegisterTurns': WHATEVER THE INPUT: true; the input reads as it did. -/
def registerTurnsSpec : ChangeSpec := { name := "registerTurns", fn := fun _ => fun
  | [d1, d2, d3] => { results := [.lit (.bool true)], args := [d1, d2, d3] }
  | _ => none }
def registerTurnsRow : OpenClaim := { program := "ytkjijbogbelilaagreat", sum := "082a4d7ed15ef6e32576c7d9b4c085bcbd00e4c794f01c2eb09f7324d620d916", func := "tributary/tributarylaw13.RegisterTurns", spec := "registerTurns", unfollowed := true, recurses := true, loops := true, apart := false }
def RegisterTurnsSaid : Prop := registerTurnsRow.holds Tryz.pinned (OpenSpec.ofChange registerTurnsSpec)

/-- ITS FALSE NEIGHBOUR: 'it returns false'. Refute it at one input. -/
def registerTurnsWrong : ChangeSpec := { name := "registerTurns", fn := fun _ => fun
  | [d1, d2, d3] => { results := [.lit (.bool false)], args := [d1, d2, d3] }
  | _ => none }
def RegisterTurnsWrongFalsely : Prop := registerTurnsRow.holds Tryz.pinned (OpenSpec.ofChange registerTurnsWrong)

/-- 'tributarylaw13.RegisterBoth': WHATEVER THE INPUT: true; the input reads as it did. -/
def registerBothSpec : ChangeSpec := { name := "registerBoth", fn := fun _ => fun
  | [d1, d2, d3] => { results := [.lit (.bool true)], args := [d1, d2, d3] }
  | _ => none }
def registerBothRow : OpenClaim := { program := "ytkjijbogbelilaagreat", sum := "082a4d7ed15ef6e32576c7d9b4c085bcbd00e4c794f01c2eb09f7324d620d916", func := "tributary/tributarylaw13.RegisterBoth", spec := "registerBoth", unfollowed := true, recurses := true, loops := true, apart := false }
def RegisterBothSaid : Prop := registerBothRow.holds Tryz.pinned (OpenSpec.ofChange registerBothSpec)

/-- ITS FALSE NEIGHBOUR: 'it returns false'. Refute it at one input. -/
def registerBothWrong : ChangeSpec := { name := "registerBoth", fn := fun _ => fun
  | [d1, d2, d3] => { results := [.lit (.bool false)], args := [d1, d2, d3] }
  | _ => none }
def RegisterBothWrongFalsely : Prop := registerBothRow.holds Tryz.pinned (OpenSpec.ofChange registerBothWrong)

/-- 'tributarylaw11.SetTurns': WHATEVER THE INPUT: true; the input reads as it did. -/
def setTurnsSpec : ChangeSpec := { name := "setTurns", fn := fun _ => fun
  | [d1, d2, d3] => { results := [.lit (.bool true)], args := [d1, d2, d3] }
  | _ => none }
def setTurnsRow : OpenClaim := { program := "ytkjijbogbelilaagreat", sum := "082a4d7ed15ef6e32576c7d9b4c085bcbd00e4c794f01c2eb09f7324d620d916", func := "tributary/tributarylaw11.SetTurns", spec := "setTurns", unfollowed := true, recurses := true, loops := true, apart := false }
def SetTurnsSaid : Prop := setTurnsRow.holds Tryz.pinned (OpenSpec.ofChange setTurnsSpec)

/-- ITS FALSE NEIGHBOUR: 'it returns false'. Refute it at one input. -/
def setTurnsWrong : ChangeSpec := { name := "setTurns", fn := fun _ => fun
  | [d1, d2, d3] => { results := [.lit (.bool false)], args := [d1, d2, d3] }
  | _ => none }
def SetTurnsWrongFalsely : Prop := setTurnsRow.holds Tryz.pinned (OpenSpec.ofChange setTurnsWrong)

/-- 'tributarylaw11.SetBoth': WHATEVER THE INPUT: true; the input reads as it did. -/
def setBothSpec : ChangeSpec := { name := "setBoth", fn := fun _ => fun
  | [d1, d2, d3] => { results := [.lit (.bool true)], args := [d1, d2, d3] }
  | _ => none }
def setBothRow : OpenClaim := { program := "ytkjijbogbelilaagreat", sum := "082a4d7ed15ef6e32576c7d9b4c085bcbd00e4c794f01c2eb09f7324d620d916", func := "tributary/tributarylaw11.SetBoth", spec := "setBoth", unfollowed := true, recurses := true, loops := true, apart := false }
def SetBothSaid : Prop := setBothRow.holds Tryz.pinned (OpenSpec.ofChange setBothSpec)

/-- ITS FALSE NEIGHBOUR: 'it returns false'. Refute it at one input. -/
def setBothWrong : ChangeSpec := { name := "setBoth", fn := fun _ => fun
  | [d1, d2, d3] => { results := [.lit (.bool false)], args := [d1, d2, d3] }
  | _ => none }
def SetBothWrongFalsely : Prop := setBothRow.holds Tryz.pinned (OpenSpec.ofChange setBothWrong)

/-- 'tributarylaw11.SetWins': WHATEVER THE INPUT: true; the input reads as it did. -/
def setWinsSpec : ChangeSpec := { name := "setWins", fn := fun _ => fun
  | [d1, d2, d3, d4] => { results := [.lit (.bool true)], args := [d1, d2, d3, d4] }
  | _ => none }
def setWinsRow : OpenClaim := { program := "ytkjijbogbelilaagreat", sum := "082a4d7ed15ef6e32576c7d9b4c085bcbd00e4c794f01c2eb09f7324d620d916", func := "tributary/tributarylaw11.SetWins", spec := "setWins", unfollowed := true, recurses := true, loops := true, apart := false }
def SetWinsSaid : Prop := setWinsRow.holds Tryz.pinned (OpenSpec.ofChange setWinsSpec)

/-- ITS FALSE NEIGHBOUR: 'it returns false'. Refute it at one input. -/
def setWinsWrong : ChangeSpec := { name := "setWins", fn := fun _ => fun
  | [d1, d2, d3, d4] => { results := [.lit (.bool false)], args := [d1, d2, d3, d4] }
  | _ => none }
def SetWinsWrongFalsely : Prop := setWinsRow.holds Tryz.pinned (OpenSpec.ofChange setWinsWrong)

/-- 'tributarylaw14.OrmapBelow': WHATEVER THE INPUT: true; the input reads as it did. -/
def ormapBelowSpec : ChangeSpec := { name := "ormapBelow", fn := fun _ => fun
  | [d1, d2, d3] => { results := [.lit (.bool true)], args := [d1, d2, d3] }
  | _ => none }
def ormapBelowRow : OpenClaim := { program := "ytkjijbogbelilaagreat", sum := "082a4d7ed15ef6e32576c7d9b4c085bcbd00e4c794f01c2eb09f7324d620d916", func := "tributary/tributarylaw14.OrmapBelow", spec := "ormapBelow", unfollowed := true, recurses := true, loops := true, apart := false }
def OrmapBelowSaid : Prop := ormapBelowRow.holds Tryz.pinned (OpenSpec.ofChange ormapBelowSpec)

/-- ITS FALSE NEIGHBOUR: 'it returns false'. Refute it at one input. -/
def ormapBelowWrong : ChangeSpec := { name := "ormapBelow", fn := fun _ => fun
  | [d1, d2, d3] => { results := [.lit (.bool false)], args := [d1, d2, d3] }
  | _ => none }
def OrmapBelowWrongFalsely : Prop := ormapBelowRow.holds Tryz.pinned (OpenSpec.ofChange ormapBelowWrong)

/-- 'tributarylaw14.OrmapKeeps': WHATEVER THE INPUT: true; the input reads as it did. -/
def ormapKeepsSpec : ChangeSpec := { name := "ormapKeeps", fn := fun _ => fun
  | [d1, d2, d3, d4] => { results := [.lit (.bool true)], args := [d1, d2, d3, d4] }
  | _ => none }
def ormapKeepsRow : OpenClaim := { program := "ytkjijbogbelilaagreat", sum := "082a4d7ed15ef6e32576c7d9b4c085bcbd00e4c794f01c2eb09f7324d620d916", func := "tributary/tributarylaw14.OrmapKeeps", spec := "ormapKeeps", unfollowed := true, recurses := true, loops := true, apart := false }
def OrmapKeepsSaid : Prop := ormapKeepsRow.holds Tryz.pinned (OpenSpec.ofChange ormapKeepsSpec)

/-- ITS FALSE NEIGHBOUR: 'it returns false'. Refute it at one input. -/
def ormapKeepsWrong : ChangeSpec := { name := "ormapKeeps", fn := fun _ => fun
  | [d1, d2, d3, d4] => { results := [.lit (.bool false)], args := [d1, d2, d3, d4] }
  | _ => none }
def OrmapKeepsWrongFalsely : Prop := ormapKeepsRow.holds Tryz.pinned (OpenSpec.ofChange ormapKeepsWrong)

/- THE SECOND FORM. 'bulk': how many values and letters a reading holds, each counted each time it is reached (what is shared counts as often as it is met; a slice's spare places count too). A statement '..UptoSaid' is the law's where the arguments, and the package variables that the reading takes, are together of bulk at most 1048576: NARROWER than '..Said'. Prove '..Said' where nothing that the law and all that it calls make is longer than what came in: it says more and counts as full. Else prove '..UptoSaid'. A law counts once. -/
mutual
def uptoBulk {H : Type} : DataW H → Nat
  | .lit (.string bytes) => bytes.length + 1
  | .lit _ => 1
  | .nil => 1
  | .ptr d => uptoBulk d + 1
  | .slice elems spare => uptoBulkAll elems + uptoBulkAll spare + 1
  | .agg parts => uptoBulkAll parts + 1
  | .iface _ d => uptoBulk d + 1
  | .map entries => uptoBulkEntries entries + 1
  | .held _ => 1
def uptoBulkAll {H : Type} : List (DataW H) → Nat
  | [] => 0
  | d :: r => uptoBulk d + uptoBulkAll r
def uptoBulkEntries {H : Type} : List (Lit × DataW H) → Nat
  | [] => 0
  | x :: r => uptoBulkEntry x + uptoBulkEntries r
def uptoBulkEntry {H : Type} : Lit × DataW H → Nat
  | (.string bytes, d) => bytes.length + uptoBulk d + 1
  | (_, d) => uptoBulk d + 1
 end
def uptoSmall : (H : Type) → List (DataW H) → Bool := fun _ ds => decide (uptoBulkAll ds ≤ 1048576)
def OpenSpec.upto (s : _root_.Go.ChangeSpec) : _root_.Go.OpenSpec := { _root_.Go.OpenSpec.ofChange s with cond := some uptoSmall }

/-- 'tributarylaw09.CausalJoins', WHERE WHAT IT READS IS OF BULK AT MOST 1048576: true; the input reads as it did. -/
def causalJoinsUptoRow : OpenClaim := { program := "ytkjijbogbelilaagreat", sum := "082a4d7ed15ef6e32576c7d9b4c085bcbd00e4c794f01c2eb09f7324d620d916", func := "tributary/tributarylaw09.CausalJoins", spec := "causalJoins", unfollowed := true, recurses := true, loops := true, apart := false, narrowed := true }
def CausalJoinsUptoSaid : Prop := causalJoinsUptoRow.holds Tryz.pinned (OpenSpec.upto causalJoinsSpec)

/-- 'tributarylaw09.CausalAll', WHERE WHAT IT READS IS OF BULK AT MOST 1048576: true; the input reads as it did. -/
def causalAllUptoRow : OpenClaim := { program := "ytkjijbogbelilaagreat", sum := "082a4d7ed15ef6e32576c7d9b4c085bcbd00e4c794f01c2eb09f7324d620d916", func := "tributary/tributarylaw09.CausalAll", spec := "causalAll", unfollowed := true, recurses := true, loops := true, apart := false, narrowed := true }
def CausalAllUptoSaid : Prop := causalAllUptoRow.holds Tryz.pinned (OpenSpec.upto causalAllSpec)

/-- 'tributarylaw09.CausalTells', WHERE WHAT IT READS IS OF BULK AT MOST 1048576: true; the input reads as it did. -/
def causalTellsUptoRow : OpenClaim := { program := "ytkjijbogbelilaagreat", sum := "082a4d7ed15ef6e32576c7d9b4c085bcbd00e4c794f01c2eb09f7324d620d916", func := "tributary/tributarylaw09.CausalTells", spec := "causalTells", unfollowed := true, recurses := true, loops := true, apart := false, narrowed := true }
def CausalTellsUptoSaid : Prop := causalTellsUptoRow.holds Tryz.pinned (OpenSpec.upto causalTellsSpec)

/-- 'tributarylaw09.CausalEntry', WHERE WHAT IT READS IS OF BULK AT MOST 1048576: true; the input reads as it did. -/
def causalEntryUptoRow : OpenClaim := { program := "ytkjijbogbelilaagreat", sum := "082a4d7ed15ef6e32576c7d9b4c085bcbd00e4c794f01c2eb09f7324d620d916", func := "tributary/tributarylaw09.CausalEntry", spec := "causalEntry", unfollowed := true, recurses := true, loops := true, apart := false, narrowed := true }
def CausalEntryUptoSaid : Prop := causalEntryUptoRow.holds Tryz.pinned (OpenSpec.upto causalEntrySpec)

/-- 'tributarylaw09.CausalLattice', WHERE WHAT IT READS IS OF BULK AT MOST 1048576: true; the input reads as it did. -/
def causalLatticeUptoRow : OpenClaim := { program := "ytkjijbogbelilaagreat", sum := "082a4d7ed15ef6e32576c7d9b4c085bcbd00e4c794f01c2eb09f7324d620d916", func := "tributary/tributarylaw09.CausalLattice", spec := "causalLattice", unfollowed := true, recurses := true, loops := true, apart := false, narrowed := true }
def CausalLatticeUptoSaid : Prop := causalLatticeUptoRow.holds Tryz.pinned (OpenSpec.upto causalLatticeSpec)

/-- 'tributarylaw09.CausalLeast', WHERE WHAT IT READS IS OF BULK AT MOST 1048576: true; the input reads as it did. -/
def causalLeastUptoRow : OpenClaim := { program := "ytkjijbogbelilaagreat", sum := "082a4d7ed15ef6e32576c7d9b4c085bcbd00e4c794f01c2eb09f7324d620d916", func := "tributary/tributarylaw09.CausalLeast", spec := "causalLeast", unfollowed := true, recurses := true, loops := true, apart := false, narrowed := true }
def CausalLeastUptoSaid : Prop := causalLeastUptoRow.holds Tryz.pinned (OpenSpec.upto causalLeastSpec)

/-- 'tributarylaw09.CausalOrder', WHERE WHAT IT READS IS OF BULK AT MOST 1048576: true; the input reads as it did. -/
def causalOrderUptoRow : OpenClaim := { program := "ytkjijbogbelilaagreat", sum := "082a4d7ed15ef6e32576c7d9b4c085bcbd00e4c794f01c2eb09f7324d620d916", func := "tributary/tributarylaw09.CausalOrder", spec := "causalOrder", unfollowed := true, recurses := true, loops := true, apart := false, narrowed := true }
def CausalOrderUptoSaid : Prop := causalOrderUptoRow.holds Tryz.pinned (OpenSpec.upto causalOrderSpec)

/-- 'tributarylaw09.CausalOnly', WHERE WHAT IT READS IS OF BULK AT MOST 1048576: true; the input reads as it did. -/
def causalOnlyUptoRow : OpenClaim := { program := "ytkjijbogbelilaagreat", sum := "082a4d7ed15ef6e32576c7d9b4c085bcbd00e4c794f01c2eb09f7324d620d916", func := "tributary/tributarylaw09.CausalOnly", spec := "causalOnly", unfollowed := true, recurses := true, loops := true, apart := false, narrowed := true }
def CausalOnlyUptoSaid : Prop := causalOnlyUptoRow.holds Tryz.pinned (OpenSpec.upto causalOnlySpec)

/-- 'tributarylaw09.CausalOwn', WHERE WHAT IT READS IS OF BULK AT MOST 1048576: true; the input reads as it did. -/
def causalOwnUptoRow : OpenClaim := { program := "ytkjijbogbelilaagreat", sum := "082a4d7ed15ef6e32576c7d9b4c085bcbd00e4c794f01c2eb09f7324d620d916", func := "tributary/tributarylaw09.CausalOwn", spec := "causalOwn", unfollowed := true, recurses := true, loops := true, apart := false, narrowed := true }
def CausalOwnUptoSaid : Prop := causalOwnUptoRow.holds Tryz.pinned (OpenSpec.upto causalOwnSpec)

/-- 'tributarylaw10.FlagTurns', WHERE WHAT IT READS IS OF BULK AT MOST 1048576: true; the input reads as it did. -/
def flagTurnsUptoRow : OpenClaim := { program := "ytkjijbogbelilaagreat", sum := "082a4d7ed15ef6e32576c7d9b4c085bcbd00e4c794f01c2eb09f7324d620d916", func := "tributary/tributarylaw10.FlagTurns", spec := "flagTurns", unfollowed := true, recurses := true, loops := true, apart := false, narrowed := true }
def FlagTurnsUptoSaid : Prop := flagTurnsUptoRow.holds Tryz.pinned (OpenSpec.upto flagTurnsSpec)

/-- 'tributarylaw10.FlagWins', WHERE WHAT IT READS IS OF BULK AT MOST 1048576: true; the input reads as it did. -/
def flagWinsUptoRow : OpenClaim := { program := "ytkjijbogbelilaagreat", sum := "082a4d7ed15ef6e32576c7d9b4c085bcbd00e4c794f01c2eb09f7324d620d916", func := "tributary/tributarylaw10.FlagWins", spec := "flagWins", unfollowed := true, recurses := true, loops := true, apart := false, narrowed := true }
def FlagWinsUptoSaid : Prop := flagWinsUptoRow.holds Tryz.pinned (OpenSpec.upto flagWinsSpec)

/-- 'tributarylaw12.CounterTurns', WHERE WHAT IT READS IS OF BULK AT MOST 1048576: true; the input reads as it did. -/
def counterTurnsUptoRow : OpenClaim := { program := "ytkjijbogbelilaagreat", sum := "082a4d7ed15ef6e32576c7d9b4c085bcbd00e4c794f01c2eb09f7324d620d916", func := "tributary/tributarylaw12.CounterTurns", spec := "counterTurns", unfollowed := true, recurses := true, loops := true, apart := false, narrowed := true }
def CounterTurnsUptoSaid : Prop := counterTurnsUptoRow.holds Tryz.pinned (OpenSpec.upto counterTurnsSpec)

/-- 'tributarylaw12.CounterAll', WHERE WHAT IT READS IS OF BULK AT MOST 1048576: true; the input reads as it did. -/
def counterAllUptoRow : OpenClaim := { program := "ytkjijbogbelilaagreat", sum := "082a4d7ed15ef6e32576c7d9b4c085bcbd00e4c794f01c2eb09f7324d620d916", func := "tributary/tributarylaw12.CounterAll", spec := "counterAll", unfollowed := true, recurses := true, loops := true, apart := false, narrowed := true }
def CounterAllUptoSaid : Prop := counterAllUptoRow.holds Tryz.pinned (OpenSpec.upto counterAllSpec)

/-- 'tributarylaw13.RegisterTurns', WHERE WHAT IT READS IS OF BULK AT MOST 1048576: true; the input reads as it did. -/
def registerTurnsUptoRow : OpenClaim := { program := "ytkjijbogbelilaagreat", sum := "082a4d7ed15ef6e32576c7d9b4c085bcbd00e4c794f01c2eb09f7324d620d916", func := "tributary/tributarylaw13.RegisterTurns", spec := "registerTurns", unfollowed := true, recurses := true, loops := true, apart := false, narrowed := true }
def RegisterTurnsUptoSaid : Prop := registerTurnsUptoRow.holds Tryz.pinned (OpenSpec.upto registerTurnsSpec)

/-- 'tributarylaw13.RegisterBoth', WHERE WHAT IT READS IS OF BULK AT MOST 1048576: true; the input reads as it did. -/
def registerBothUptoRow : OpenClaim := { program := "ytkjijbogbelilaagreat", sum := "082a4d7ed15ef6e32576c7d9b4c085bcbd00e4c794f01c2eb09f7324d620d916", func := "tributary/tributarylaw13.RegisterBoth", spec := "registerBoth", unfollowed := true, recurses := true, loops := true, apart := false, narrowed := true }
def RegisterBothUptoSaid : Prop := registerBothUptoRow.holds Tryz.pinned (OpenSpec.upto registerBothSpec)

/-- 'tributarylaw11.SetTurns', WHERE WHAT IT READS IS OF BULK AT MOST 1048576: true; the input reads as it did. -/
def setTurnsUptoRow : OpenClaim := { program := "ytkjijbogbelilaagreat", sum := "082a4d7ed15ef6e32576c7d9b4c085bcbd00e4c794f01c2eb09f7324d620d916", func := "tributary/tributarylaw11.SetTurns", spec := "setTurns", unfollowed := true, recurses := true, loops := true, apart := false, narrowed := true }
def SetTurnsUptoSaid : Prop := setTurnsUptoRow.holds Tryz.pinned (OpenSpec.upto setTurnsSpec)

/-- 'tributarylaw11.SetBoth', WHERE WHAT IT READS IS OF BULK AT MOST 1048576: true; the input reads as it did. -/
def setBothUptoRow : OpenClaim := { program := "ytkjijbogbelilaagreat", sum := "082a4d7ed15ef6e32576c7d9b4c085bcbd00e4c794f01c2eb09f7324d620d916", func := "tributary/tributarylaw11.SetBoth", spec := "setBoth", unfollowed := true, recurses := true, loops := true, apart := false, narrowed := true }
def SetBothUptoSaid : Prop := setBothUptoRow.holds Tryz.pinned (OpenSpec.upto setBothSpec)

/-- 'tributarylaw11.SetWins', WHERE WHAT IT READS IS OF BULK AT MOST 1048576: true; the input reads as it did. -/
def setWinsUptoRow : OpenClaim := { program := "ytkjijbogbelilaagreat", sum := "082a4d7ed15ef6e32576c7d9b4c085bcbd00e4c794f01c2eb09f7324d620d916", func := "tributary/tributarylaw11.SetWins", spec := "setWins", unfollowed := true, recurses := true, loops := true, apart := false, narrowed := true }
def SetWinsUptoSaid : Prop := setWinsUptoRow.holds Tryz.pinned (OpenSpec.upto setWinsSpec)

/-- 'tributarylaw14.OrmapBelow', WHERE WHAT IT READS IS OF BULK AT MOST 1048576: true; the input reads as it did. -/
def ormapBelowUptoRow : OpenClaim := { program := "ytkjijbogbelilaagreat", sum := "082a4d7ed15ef6e32576c7d9b4c085bcbd00e4c794f01c2eb09f7324d620d916", func := "tributary/tributarylaw14.OrmapBelow", spec := "ormapBelow", unfollowed := true, recurses := true, loops := true, apart := false, narrowed := true }
def OrmapBelowUptoSaid : Prop := ormapBelowUptoRow.holds Tryz.pinned (OpenSpec.upto ormapBelowSpec)

/-- 'tributarylaw14.OrmapKeeps', WHERE WHAT IT READS IS OF BULK AT MOST 1048576: true; the input reads as it did. -/
def ormapKeepsUptoRow : OpenClaim := { program := "ytkjijbogbelilaagreat", sum := "082a4d7ed15ef6e32576c7d9b4c085bcbd00e4c794f01c2eb09f7324d620d916", func := "tributary/tributarylaw14.OrmapKeeps", spec := "ormapKeeps", unfollowed := true, recurses := true, loops := true, apart := false, narrowed := true }
def OrmapKeepsUptoSaid : Prop := ormapKeepsUptoRow.holds Tryz.pinned (OpenSpec.upto ormapKeepsSpec)

end Rows
end Go.Proofs.YtkjijbogbelilaaGreat
