/-
  NARROWER THAN 'FOR EVERY INPUT', by the rows' own cells (each row's printed sentence says how): OrmapUpdates: loops · OrmapResets: loops · SetAdds: loops · SetElems: loops · SetDels: loops · RegisterWrites: loops · CausalRight: loops · CausalJoins: loops · CausalAll: loops · FlagTurns: loops · CausalTells: loops.
  DERIVED. THE GIVEN ROWS OF THIS SEAT. 11 by the template 'for every input the law returns true; each argument reads behind the call as it read before'; 0 by the template 'total and deterministic' (their statements: YtdcmjmcipgadlaaGreatTotals.lean).
  GIVEN WITH THE SEED: the statements are not yours to turn. If you find one false, say at which input.
  Laid BY PROGRAM, IN A SANDBOX (cutbox-rows.mjs): the forced cells as the released guide's own fill.sh prints them over the translation a1c474a504146d1b… (all of the seat's roots in one cut). By AI agents, Wed Nov 11 2026. No macro, syntax, notation, axiom, sorry.
-/
import Derived.Test.YtdcmjmcipgadlaaGreatChecked
import GoSem.Claim
import GoSem.ClaimJoined
import GoSem.ClaimMapViews
import Derived.JoinedTies
import Derived.KernelRfl
namespace Go.Proofs.YtdcmjmcipgadlaaGreat
/- THE CELL 'sum', in the pinned program and in every row, IS THE sha256 OF THE DUMP (.gsa) THAT YtdcmjmcipgadlaaGreatProg.lean LOADS. Nothing in Lean hashes anything: it is a label: what it is worth is what the hold of that sum in a sandbox is worth. -/
noncomputable def Tryz.pinned : Pinned := { name := "ytdcmjmcipgadlaagreat", sum := "a1c474a504146d1bb7fd98599b3592ac9e4fe7ae04d1af69aea098e1d2b3302b", checked := Tryz.checked }
namespace Rows
def none {H : Type} : Left H := { results := [], args := [] }

/-- 'tributarylaw14.OrmapUpdates': WHATEVER THE INPUT: true; the input reads as it did. -/
def ormapUpdatesSpec : ChangeSpec := { name := "ormapUpdates", fn := fun _ => fun
  | [d1, d2, d3] => { results := [.lit (.bool true)], args := [d1, d2, d3] }
  | _ => none }
def ormapUpdatesRow : OpenClaim := { program := "ytdcmjmcipgadlaagreat", sum := "a1c474a504146d1bb7fd98599b3592ac9e4fe7ae04d1af69aea098e1d2b3302b", func := "tributary/tributarylaw14.OrmapUpdates", spec := "ormapUpdates", unfollowed := true, recurses := true, loops := true, apart := false }
def OrmapUpdatesSaid : Prop := ormapUpdatesRow.holds Tryz.pinned (OpenSpec.ofChange ormapUpdatesSpec)

/-- ITS FALSE NEIGHBOUR: 'it returns false'. Refute it at one input. -/
def ormapUpdatesWrong : ChangeSpec := { name := "ormapUpdates", fn := fun _ => fun
  | [d1, d2, d3] => { results := [.lit (.bool false)], args := [d1, d2, d3] }
  | _ => none }
def OrmapUpdatesWrongFalsely : Prop := ormapUpdatesRow.holds Tryz.pinned (OpenSpec.ofChange ormapUpdatesWrong)

/-- 'tributarylaw14.OrmapResets': WHATEVER THE INPUT: true; the input reads as it did. -/
def ormapResetsSpec : ChangeSpec := { name := "ormapResets", fn := fun _ => fun
  | [d1, d2] => { results := [.lit (.bool true)], args := [d1, d2] }
  | _ => none }
def ormapResetsRow : OpenClaim := { program := "ytdcmjmcipgadlaagreat", sum := "a1c474a504146d1bb7fd98599b3592ac9e4fe7ae04d1af69aea098e1d2b3302b", func := "tributary/tributarylaw14.OrmapResets", spec := "ormapResets", unfollowed := true, recurses := true, loops := true, apart := false }
def OrmapResetsSaid : Prop := ormapResetsRow.holds Tryz.pinned (OpenSpec.ofChange ormapResetsSpec)

/-- ITS FALSE NEIGHBOUR: 'it returns false'. Refute it at one input. -/
def ormapResetsWrong : ChangeSpec := { name := "ormapResets", fn := fun _ => fun
  | [d1, d2] => { results := [.lit (.bool false)], args := [d1, d2] }
  | _ => none }
def OrmapResetsWrongFalsely : Prop := ormapResetsRow.holds Tryz.pinned (OpenSpec.ofChange ormapResetsWrong)

/-- 'tributarylaw11.SetAdds': WHATEVER THE INPUT: true; the input reads as it did. -/
def setAddsSpec : ChangeSpec := { name := "setAdds", fn := fun _ => fun
  | [d1, d2, d3] => { results := [.lit (.bool true)], args := [d1, d2, d3] }
  | _ => none }
def setAddsRow : OpenClaim := { program := "ytdcmjmcipgadlaagreat", sum := "a1c474a504146d1bb7fd98599b3592ac9e4fe7ae04d1af69aea098e1d2b3302b", func := "tributary/tributarylaw11.SetAdds", spec := "setAdds", unfollowed := true, recurses := true, loops := true, apart := false }
def SetAddsSaid : Prop := setAddsRow.holds Tryz.pinned (OpenSpec.ofChange setAddsSpec)

/-- ITS FALSE NEIGHBOUR: 'it returns false'. Refute it at one input. -/
def setAddsWrong : ChangeSpec := { name := "setAdds", fn := fun _ => fun
  | [d1, d2, d3] => { results := [.lit (.bool false)], args := [d1, d2, d3] }
  | _ => none }
def SetAddsWrongFalsely : Prop := setAddsRow.holds Tryz.pinned (OpenSpec.ofChange setAddsWrong)

/-- 'tributarylaw11.SetElems': WHATEVER THE INPUT: true; the input reads as it did. -/
def setElemsSpec : ChangeSpec := { name := "setElems", fn := fun _ => fun
  | [d1, d2] => { results := [.lit (.bool true)], args := [d1, d2] }
  | _ => none }
def setElemsRow : OpenClaim := { program := "ytdcmjmcipgadlaagreat", sum := "a1c474a504146d1bb7fd98599b3592ac9e4fe7ae04d1af69aea098e1d2b3302b", func := "tributary/tributarylaw11.SetElems", spec := "setElems", unfollowed := true, recurses := true, loops := true, apart := false }
def SetElemsSaid : Prop := setElemsRow.holds Tryz.pinned (OpenSpec.ofChange setElemsSpec)

/-- ITS FALSE NEIGHBOUR: 'it returns false'. Refute it at one input. -/
def setElemsWrong : ChangeSpec := { name := "setElems", fn := fun _ => fun
  | [d1, d2] => { results := [.lit (.bool false)], args := [d1, d2] }
  | _ => none }
def SetElemsWrongFalsely : Prop := setElemsRow.holds Tryz.pinned (OpenSpec.ofChange setElemsWrong)

/-- 'tributarylaw11.SetDels': WHATEVER THE INPUT: true; the input reads as it did. -/
def setDelsSpec : ChangeSpec := { name := "setDels", fn := fun _ => fun
  | [d1, d2, d3] => { results := [.lit (.bool true)], args := [d1, d2, d3] }
  | _ => none }
def setDelsRow : OpenClaim := { program := "ytdcmjmcipgadlaagreat", sum := "a1c474a504146d1bb7fd98599b3592ac9e4fe7ae04d1af69aea098e1d2b3302b", func := "tributary/tributarylaw11.SetDels", spec := "setDels", unfollowed := true, recurses := true, loops := true, apart := false }
def SetDelsSaid : Prop := setDelsRow.holds Tryz.pinned (OpenSpec.ofChange setDelsSpec)

/-- ITS FALSE NEIGHBOUR: 'it returns false'. Refute it at one input. -/
def setDelsWrong : ChangeSpec := { name := "setDels", fn := fun _ => fun
  | [d1, d2, d3] => { results := [.lit (.bool false)], args := [d1, d2, d3] }
  | _ => none }
def SetDelsWrongFalsely : Prop := setDelsRow.holds Tryz.pinned (OpenSpec.ofChange setDelsWrong)

/-- 'tributarylaw13.RegisterWrites': WHATEVER THE INPUT: true; the input reads as it did. -/
def registerWritesSpec : ChangeSpec := { name := "registerWrites", fn := fun _ => fun
  | [d1, d2, d3] => { results := [.lit (.bool true)], args := [d1, d2, d3] }
  | _ => none }
def registerWritesRow : OpenClaim := { program := "ytdcmjmcipgadlaagreat", sum := "a1c474a504146d1bb7fd98599b3592ac9e4fe7ae04d1af69aea098e1d2b3302b", func := "tributary/tributarylaw13.RegisterWrites", spec := "registerWrites", unfollowed := true, recurses := true, loops := true, apart := false }
def RegisterWritesSaid : Prop := registerWritesRow.holds Tryz.pinned (OpenSpec.ofChange registerWritesSpec)

/-- ITS FALSE NEIGHBOUR: 'it returns false'. Refute it at one input. -/
def registerWritesWrong : ChangeSpec := { name := "registerWrites", fn := fun _ => fun
  | [d1, d2, d3] => { results := [.lit (.bool false)], args := [d1, d2, d3] }
  | _ => none }
def RegisterWritesWrongFalsely : Prop := registerWritesRow.holds Tryz.pinned (OpenSpec.ofChange registerWritesWrong)

/-- 'tributarylaw09.CausalRight': WHATEVER THE INPUT: true; the input reads as it did. -/
def causalRightSpec : ChangeSpec := { name := "causalRight", fn := fun _ => fun
  | [d] => { results := [.lit (.bool true)], args := [d] }
  | _ => none }
def causalRightRow : OpenClaim := { program := "ytdcmjmcipgadlaagreat", sum := "a1c474a504146d1bb7fd98599b3592ac9e4fe7ae04d1af69aea098e1d2b3302b", func := "tributary/tributarylaw09.CausalRight", spec := "causalRight", unfollowed := true, recurses := true, loops := true, apart := false }
def CausalRightSaid : Prop := causalRightRow.holds Tryz.pinned (OpenSpec.ofChange causalRightSpec)

/-- ITS FALSE NEIGHBOUR: 'it returns false'. Refute it at one input. -/
def causalRightWrong : ChangeSpec := { name := "causalRight", fn := fun _ => fun
  | [d] => { results := [.lit (.bool false)], args := [d] }
  | _ => none }
def CausalRightWrongFalsely : Prop := causalRightRow.holds Tryz.pinned (OpenSpec.ofChange causalRightWrong)

/-- 'tributarylaw09.CausalJoins': WHATEVER THE INPUT: true; the input reads as it did. -/
def causalJoinsSpec : ChangeSpec := { name := "causalJoins", fn := fun _ => fun
  | [d1, d2] => { results := [.lit (.bool true)], args := [d1, d2] }
  | _ => none }
def causalJoinsRow : OpenClaim := { program := "ytdcmjmcipgadlaagreat", sum := "a1c474a504146d1bb7fd98599b3592ac9e4fe7ae04d1af69aea098e1d2b3302b", func := "tributary/tributarylaw09.CausalJoins", spec := "causalJoins", unfollowed := true, recurses := true, loops := true, apart := false }
def CausalJoinsSaid : Prop := causalJoinsRow.holds Tryz.pinned (OpenSpec.ofChange causalJoinsSpec)

/-- ITS FALSE NEIGHBOUR: 'it returns false'. Refute it at one input. -/
def causalJoinsWrong : ChangeSpec := { name := "causalJoins", fn := fun _ => fun
  | [d1, d2] => { results := [.lit (.bool false)], args := [d1, d2] }
  | _ => none }
def CausalJoinsWrongFalsely : Prop := causalJoinsRow.holds Tryz.pinned (OpenSpec.ofChange causalJoinsWrong)

/-- 'tributarylaw09.CausalAll': WHATEVER THE INPUT: true; the input reads as it did. -/
def causalAllSpec : ChangeSpec := { name := "causalAll", fn := fun _ => fun
  | [d] => { results := [.lit (.bool true)], args := [d] }
  | _ => none }
def causalAllRow : OpenClaim := { program := "ytdcmjmcipgadlaagreat", sum := "a1c474a504146d1bb7fd98599b3592ac9e4fe7ae04d1af69aea098e1d2b3302b", func := "tributary/tributarylaw09.CausalAll", spec := "causalAll", unfollowed := true, recurses := true, loops := true, apart := false }
def CausalAllSaid : Prop := causalAllRow.holds Tryz.pinned (OpenSpec.ofChange causalAllSpec)

/-- ITS FALSE NEIGHBOUR: 'it returns false'. Refute it at one input. -/
def causalAllWrong : ChangeSpec := { name := "causalAll", fn := fun _ => fun
  | [d] => { results := [.lit (.bool false)], args := [d] }
  | _ => none }
def CausalAllWrongFalsely : Prop := causalAllRow.holds Tryz.pinned (OpenSpec.ofChange causalAllWrong)

/-- 'tributarylaw10.FlagTurns': WHATEVER THE INPUT: true; the input reads as it did. -/
def flagTurnsSpec : ChangeSpec := { name := "flagTurns", fn := fun _ => fun
  | [d1, d2] => { results := [.lit (.bool true)], args := [d1, d2] }
  | _ => none }
def flagTurnsRow : OpenClaim := { program := "ytdcmjmcipgadlaagreat", sum := "a1c474a504146d1bb7fd98599b3592ac9e4fe7ae04d1af69aea098e1d2b3302b", func := "tributary/tributarylaw10.FlagTurns", spec := "flagTurns", unfollowed := true, recurses := true, loops := true, apart := false }
def FlagTurnsSaid : Prop := flagTurnsRow.holds Tryz.pinned (OpenSpec.ofChange flagTurnsSpec)

/-- ITS FALSE NEIGHBOUR: 'it returns false'. Refute it at one input. -/
def flagTurnsWrong : ChangeSpec := { name := "flagTurns", fn := fun _ => fun
  | [d1, d2] => { results := [.lit (.bool false)], args := [d1, d2] }
  | _ => none }
def FlagTurnsWrongFalsely : Prop := flagTurnsRow.holds Tryz.pinned (OpenSpec.ofChange flagTurnsWrong)

/-- 'tributarylaw09.CausalTells': WHATEVER THE INPUT: true; the input reads as it did. -/
def causalTellsSpec : ChangeSpec := { name := "causalTells", fn := fun _ => fun
  | [d1, d2] => { results := [.lit (.bool true)], args := [d1, d2] }
  | _ => none }
def causalTellsRow : OpenClaim := { program := "ytdcmjmcipgadlaagreat", sum := "a1c474a504146d1bb7fd98599b3592ac9e4fe7ae04d1af69aea098e1d2b3302b", func := "tributary/tributarylaw09.CausalTells", spec := "causalTells", unfollowed := true, recurses := true, loops := true, apart := false }
def CausalTellsSaid : Prop := causalTellsRow.holds Tryz.pinned (OpenSpec.ofChange causalTellsSpec)

/-- ITS FALSE NEIGHBOUR: 'it returns false'. Refute it at one input. -/
def causalTellsWrong : ChangeSpec := { name := "causalTells", fn := fun _ => fun
  | [d1, d2] => { results := [.lit (.bool false)], args := [d1, d2] }
  | _ => none }
def CausalTellsWrongFalsely : Prop := causalTellsRow.holds Tryz.pinned (OpenSpec.ofChange causalTellsWrong)

/- THE SECOND FORM. 'bulk': how many values and letters a reading holds, each counted each time it is reached (what is shared counts as often as it is met; a slice's spare places count too). A statement '..UptoSaid' is the law's where the arguments, and the package variables that the reading takes, are together of bulk at most 1048576: NARROWER than '..Said'. Prove '..Said' where nothing that the law and all that it calls make is longer than what came in: it says more and counts as full. Else prove '..UptoSaid'. A law counts once. -/
mutual
def uptoBulk {H : Type} : DataW H → Nat
  | .lit (.string bytes) => bytes.length + 1
  | .lit _ => 1
  | .nil => 1
  | .ptr d => uptoBulk d + 1
  | .slice elems spare => uptoBulkAll elems + uptoBulkAll spare + 1
  | .agg parts => uptoBulkAll parts + 1
  | .iface _ d => uptoBulk d + 1
  | .map entries => uptoBulkEntries entries + 1
  | .held _ => 1
def uptoBulkAll {H : Type} : List (DataW H) → Nat
  | [] => 0
  | d :: r => uptoBulk d + uptoBulkAll r
def uptoBulkEntries {H : Type} : List (Lit × DataW H) → Nat
  | [] => 0
  | x :: r => uptoBulkEntry x + uptoBulkEntries r
def uptoBulkEntry {H : Type} : Lit × DataW H → Nat
  | (.string bytes, d) => bytes.length + uptoBulk d + 1
  | (_, d) => uptoBulk d + 1
 end
def uptoSmall : (H : Type) → List (DataW H) → Bool := fun _ ds => decide (uptoBulkAll ds ≤ 1048576)
def OpenSpec.upto (s : _root_.Go.ChangeSpec) : _root_.Go.OpenSpec := { _root_.Go.OpenSpec.ofChange s with cond := some uptoSmall }

/-- 'tributarylaw14.OrmapUpdates', WHERE WHAT IT READS IS OF BULK AT MOST 1048576: true; the input reads as it did. -/
def ormapUpdatesUptoRow : OpenClaim := { program := "ytdcmjmcipgadlaagreat", sum := "a1c474a504146d1bb7fd98599b3592ac9e4fe7ae04d1af69aea098e1d2b3302b", func := "tributary/tributarylaw14.OrmapUpdates", spec := "ormapUpdates", unfollowed := true, recurses := true, loops := true, apart := false, narrowed := true }
def OrmapUpdatesUptoSaid : Prop := ormapUpdatesUptoRow.holds Tryz.pinned (OpenSpec.upto ormapUpdatesSpec)

/-- 'tributarylaw14.OrmapResets', WHERE WHAT IT READS IS OF BULK AT MOST 1048576: true; the input reads as it did. -/
def ormapResetsUptoRow : OpenClaim := { program := "ytdcmjmcipgadlaagreat", sum := "a1c474a504146d1bb7fd98599b3592ac9e4fe7ae04d1af69aea098e1d2b3302b", func := "tributary/tributarylaw14.OrmapResets", spec := "ormapResets", unfollowed := true, recurses := true, loops := true, apart := false, narrowed := true }
def OrmapResetsUptoSaid : Prop := ormapResetsUptoRow.holds Tryz.pinned (OpenSpec.upto ormapResetsSpec)

/-- 'tributarylaw11.SetAdds', WHERE WHAT IT READS IS OF BULK AT MOST 1048576: true; the input reads as it did. -/
def setAddsUptoRow : OpenClaim := { program := "ytdcmjmcipgadlaagreat", sum := "a1c474a504146d1bb7fd98599b3592ac9e4fe7ae04d1af69aea098e1d2b3302b", func := "tributary/tributarylaw11.SetAdds", spec := "setAdds", unfollowed := true, recurses := true, loops := true, apart := false, narrowed := true }
def SetAddsUptoSaid : Prop := setAddsUptoRow.holds Tryz.pinned (OpenSpec.upto setAddsSpec)

/-- 'tributarylaw11.SetElems', WHERE WHAT IT READS IS OF BULK AT MOST 1048576: true; the input reads as it did. -/
def setElemsUptoRow : OpenClaim := { program := "ytdcmjmcipgadlaagreat", sum := "a1c474a504146d1bb7fd98599b3592ac9e4fe7ae04d1af69aea098e1d2b3302b", func := "tributary/tributarylaw11.SetElems", spec := "setElems", unfollowed := true, recurses := true, loops := true, apart := false, narrowed := true }
def SetElemsUptoSaid : Prop := setElemsUptoRow.holds Tryz.pinned (OpenSpec.upto setElemsSpec)

/-- 'tributarylaw11.SetDels', WHERE WHAT IT READS IS OF BULK AT MOST 1048576: true; the input reads as it did. -/
def setDelsUptoRow : OpenClaim := { program := "ytdcmjmcipgadlaagreat", sum := "a1c474a504146d1bb7fd98599b3592ac9e4fe7ae04d1af69aea098e1d2b3302b", func := "tributary/tributarylaw11.SetDels", spec := "setDels", unfollowed := true, recurses := true, loops := true, apart := false, narrowed := true }
def SetDelsUptoSaid : Prop := setDelsUptoRow.holds Tryz.pinned (OpenSpec.upto setDelsSpec)

/-- 'tributarylaw13.RegisterWrites', WHERE WHAT IT READS IS OF BULK AT MOST 1048576: true; the input reads as it did. -/
def registerWritesUptoRow : OpenClaim := { program := "ytdcmjmcipgadlaagreat", sum := "a1c474a504146d1bb7fd98599b3592ac9e4fe7ae04d1af69aea098e1d2b3302b", func := "tributary/tributarylaw13.RegisterWrites", spec := "registerWrites", unfollowed := true, recurses := true, loops := true, apart := false, narrowed := true }
def RegisterWritesUptoSaid : Prop := registerWritesUptoRow.holds Tryz.pinned (OpenSpec.upto registerWritesSpec)

/-- 'tributarylaw09.CausalRight', WHERE WHAT IT READS IS OF BULK AT MOST 1048576: true; the input reads as it did. -/
def causalRightUptoRow : OpenClaim := { program := "ytdcmjmcipgadlaagreat", sum := "a1c474a504146d1bb7fd98599b3592ac9e4fe7ae04d1af69aea098e1d2b3302b", func := "tributary/tributarylaw09.CausalRight", spec := "causalRight", unfollowed := true, recurses := true, loops := true, apart := false, narrowed := true }
def CausalRightUptoSaid : Prop := causalRightUptoRow.holds Tryz.pinned (OpenSpec.upto causalRightSpec)

/-- 'tributarylaw09.CausalJoins', WHERE WHAT IT READS IS OF BULK AT MOST 1048576: true; the input reads as it did. -/
def causalJoinsUptoRow : OpenClaim := { program := "ytdcmjmcipgadlaagreat", sum := "a1c474a504146d1bb7fd98599b3592ac9e4fe7ae04d1af69aea098e1d2b3302b", func := "tributary/tributarylaw09.CausalJoins", spec := "causalJoins", unfollowed := true, recurses := true, loops := true, apart := false, narrowed := true }
def CausalJoinsUptoSaid : Prop := causalJoinsUptoRow.holds Tryz.pinned (OpenSpec.upto causalJoinsSpec)

/-- 'tributarylaw09.CausalAll', WHERE WHAT IT READS IS OF BULK AT MOST 1048576: true; the input reads as it did. -/
def causalAllUptoRow : OpenClaim := { program := "ytdcmjmcipgadlaagreat", sum := "a1c474a504146d1bb7fd98599b3592ac9e4fe7ae04d1af69aea098e1d2b3302b", func := "tributary/tributarylaw09.CausalAll", spec := "causalAll", unfollowed := true, recurses := true, loops := true, apart := false, narrowed := true }
def CausalAllUptoSaid : Prop := causalAllUptoRow.holds Tryz.pinned (OpenSpec.upto causalAllSpec)

/-- 'tributarylaw10.FlagTurns', WHERE WHAT IT READS IS OF BULK AT MOST 1048576: true; the input reads as it did. -/
def flagTurnsUptoRow : OpenClaim := { program := "ytdcmjmcipgadlaagreat", sum := "a1c474a504146d1bb7fd98599b3592ac9e4fe7ae04d1af69aea098e1d2b3302b", func := "tributary/tributarylaw10.FlagTurns", spec := "flagTurns", unfollowed := true, recurses := true, loops := true, apart := false, narrowed := true }
def FlagTurnsUptoSaid : Prop := flagTurnsUptoRow.holds Tryz.pinned (OpenSpec.upto flagTurnsSpec)

/-- 'tributarylaw09.CausalTells', WHERE WHAT IT READS IS OF BULK AT MOST 1048576: true; the input reads as it did. -/
def causalTellsUptoRow : OpenClaim := { program := "ytdcmjmcipgadlaagreat", sum := "a1c474a504146d1bb7fd98599b3592ac9e4fe7ae04d1af69aea098e1d2b3302b", func := "tributary/tributarylaw09.CausalTells", spec := "causalTells", unfollowed := true, recurses := true, loops := true, apart := false, narrowed := true }
def CausalTellsUptoSaid : Prop := causalTellsUptoRow.holds Tryz.pinned (OpenSpec.upto causalTellsSpec)

end Rows
end Go.Proofs.YtdcmjmcipgadlaaGreat
