/-
  NARROWER THAN 'FOR EVERY INPUT', by the rows' own cells (each row's printed sentence says how): CausalOnly: loops · CausalOwn: loops · TxnPlays: loops · TxnOwn: loops · TxnDelta: loops.
  DERIVED. THE GIVEN ROWS OF THIS SEAT. 5 by the template 'for every input the law returns true; each argument reads behind the call as it read before'; 0 by the template 'total and deterministic' (their statements: YtbcoelggdikipaaGreatTotals.lean).
  GIVEN WITH THE SEED: the statements are not yours to turn. If you find one false, say at which input.
  Laid BY PROGRAM, IN A SANDBOX (cutbox-rows.mjs): the forced cells as the released guide's own fill.sh prints them over the translation fef527083077ca96… (all of the seat's roots in one cut). By AI agents, Wed Nov 11 2026. No macro, syntax, notation, axiom, sorry.
-/
import Derived.Test.YtbcoelggdikipaaGreatChecked
import GoSem.Claim
import GoSem.ClaimJoined
import GoSem.ClaimMapViews
import Derived.JoinedTies
import Derived.KernelRfl
namespace Go.Proofs.YtbcoelggdikipaaGreat
/- THE CELL 'sum', in the pinned program and in every row, IS THE sha256 OF THE DUMP (.gsa) THAT YtbcoelggdikipaaGreatProg.lean LOADS. Nothing in Lean hashes anything: it is a label: what it is worth is what the hold of that sum in a sandbox is worth. -/
noncomputable def Tryz.pinned : Pinned := { name := "ytbcoelggdikipaagreat", sum := "fef527083077ca9676c524cacf134d8ca3e2e611a9a8aab2a6efd180bba5cacd", checked := Tryz.checked }
namespace Rows
def none {H : Type} : Left H := { results := [], args := [] }

/-- 'tributarylaw09.CausalOnly': WHATEVER THE INPUT: true; the input reads as it did. -/
def causalOnlySpec : ChangeSpec := { name := "causalOnly", fn := fun _ => fun
  | [d1, d2] => { results := [.lit (.bool true)], args := [d1, d2] }
  | _ => none }
def causalOnlyRow : OpenClaim := { program := "ytbcoelggdikipaagreat", sum := "fef527083077ca9676c524cacf134d8ca3e2e611a9a8aab2a6efd180bba5cacd", func := "tributary/tributarylaw09.CausalOnly", spec := "causalOnly", unfollowed := true, recurses := true, loops := true, apart := false }
def CausalOnlySaid : Prop := causalOnlyRow.holds Tryz.pinned (OpenSpec.ofChange causalOnlySpec)

/-- ITS FALSE NEIGHBOUR: 'it returns false'. Refute it at one input. -/
def causalOnlyWrong : ChangeSpec := { name := "causalOnly", fn := fun _ => fun
  | [d1, d2] => { results := [.lit (.bool false)], args := [d1, d2] }
  | _ => none }
def CausalOnlyWrongFalsely : Prop := causalOnlyRow.holds Tryz.pinned (OpenSpec.ofChange causalOnlyWrong)

/-- 'tributarylaw09.CausalOwn': WHATEVER THE INPUT: true; the input reads as it did. -/
def causalOwnSpec : ChangeSpec := { name := "causalOwn", fn := fun _ => fun
  | [d1, d2, d3] => { results := [.lit (.bool true)], args := [d1, d2, d3] }
  | _ => none }
def causalOwnRow : OpenClaim := { program := "ytbcoelggdikipaagreat", sum := "fef527083077ca9676c524cacf134d8ca3e2e611a9a8aab2a6efd180bba5cacd", func := "tributary/tributarylaw09.CausalOwn", spec := "causalOwn", unfollowed := true, recurses := true, loops := true, apart := false }
def CausalOwnSaid : Prop := causalOwnRow.holds Tryz.pinned (OpenSpec.ofChange causalOwnSpec)

/-- ITS FALSE NEIGHBOUR: 'it returns false'. Refute it at one input. -/
def causalOwnWrong : ChangeSpec := { name := "causalOwn", fn := fun _ => fun
  | [d1, d2, d3] => { results := [.lit (.bool false)], args := [d1, d2, d3] }
  | _ => none }
def CausalOwnWrongFalsely : Prop := causalOwnRow.holds Tryz.pinned (OpenSpec.ofChange causalOwnWrong)

/-- 'tributarylaw20.TxnPlays': WHATEVER THE INPUT: true; the input reads as it did. -/
def txnPlaysSpec : ChangeSpec := { name := "txnPlays", fn := fun _ => fun
  | [d1, d2, d3] => { results := [.lit (.bool true)], args := [d1, d2, d3] }
  | _ => none }
def txnPlaysRow : OpenClaim := { program := "ytbcoelggdikipaagreat", sum := "fef527083077ca9676c524cacf134d8ca3e2e611a9a8aab2a6efd180bba5cacd", func := "tributary/tributarylaw20.TxnPlays", spec := "txnPlays", unfollowed := true, recurses := true, loops := true, apart := false }
def TxnPlaysSaid : Prop := txnPlaysRow.holds Tryz.pinned (OpenSpec.ofChange txnPlaysSpec)

/-- ITS FALSE NEIGHBOUR: 'it returns false'. Refute it at one input. -/
def txnPlaysWrong : ChangeSpec := { name := "txnPlays", fn := fun _ => fun
  | [d1, d2, d3] => { results := [.lit (.bool false)], args := [d1, d2, d3] }
  | _ => none }
def TxnPlaysWrongFalsely : Prop := txnPlaysRow.holds Tryz.pinned (OpenSpec.ofChange txnPlaysWrong)

/-- 'tributarylaw20.TxnOwn': WHATEVER THE INPUT: true; the input reads as it did. -/
def txnOwnSpec : ChangeSpec := { name := "txnOwn", fn := fun _ => fun
  | [d1, d2] => { results := [.lit (.bool true)], args := [d1, d2] }
  | _ => none }
def txnOwnRow : OpenClaim := { program := "ytbcoelggdikipaagreat", sum := "fef527083077ca9676c524cacf134d8ca3e2e611a9a8aab2a6efd180bba5cacd", func := "tributary/tributarylaw20.TxnOwn", spec := "txnOwn", unfollowed := true, recurses := true, loops := true, apart := false }
def TxnOwnSaid : Prop := txnOwnRow.holds Tryz.pinned (OpenSpec.ofChange txnOwnSpec)

/-- ITS FALSE NEIGHBOUR: 'it returns false'. Refute it at one input. -/
def txnOwnWrong : ChangeSpec := { name := "txnOwn", fn := fun _ => fun
  | [d1, d2] => { results := [.lit (.bool false)], args := [d1, d2] }
  | _ => none }
def TxnOwnWrongFalsely : Prop := txnOwnRow.holds Tryz.pinned (OpenSpec.ofChange txnOwnWrong)

/-- 'tributarylaw20.TxnDelta': WHATEVER THE INPUT: true; the input reads as it did. -/
def txnDeltaSpec : ChangeSpec := { name := "txnDelta", fn := fun _ => fun
  | [d1, d2, d3, d4] => { results := [.lit (.bool true)], args := [d1, d2, d3, d4] }
  | _ => none }
def txnDeltaRow : OpenClaim := { program := "ytbcoelggdikipaagreat", sum := "fef527083077ca9676c524cacf134d8ca3e2e611a9a8aab2a6efd180bba5cacd", func := "tributary/tributarylaw20.TxnDelta", spec := "txnDelta", unfollowed := true, recurses := true, loops := true, apart := false }
def TxnDeltaSaid : Prop := txnDeltaRow.holds Tryz.pinned (OpenSpec.ofChange txnDeltaSpec)

/-- ITS FALSE NEIGHBOUR: 'it returns false'. Refute it at one input. -/
def txnDeltaWrong : ChangeSpec := { name := "txnDelta", fn := fun _ => fun
  | [d1, d2, d3, d4] => { results := [.lit (.bool false)], args := [d1, d2, d3, d4] }
  | _ => none }
def TxnDeltaWrongFalsely : Prop := txnDeltaRow.holds Tryz.pinned (OpenSpec.ofChange txnDeltaWrong)

/- THE SECOND FORM. 'bulk': how many values and letters a reading holds, each counted each time it is reached (what is shared counts as often as it is met; a slice's spare places count too). A statement '..UptoSaid' is the law's where the arguments, and the package variables that the reading takes, are together of bulk at most 1048576: NARROWER than '..Said'. Prove '..Said' where nothing that the law and all that it calls make is longer than what came in: it says more and counts as full. Else prove '..UptoSaid'. A law counts once. -/
mutual
def uptoBulk {H : Type} : DataW H → Nat
  | .lit (.string bytes) => bytes.length + 1
  | .lit _ => 1
  | .nil => 1
  | .ptr d => uptoBulk d + 1
  | .slice elems spare => uptoBulkAll elems + uptoBulkAll spare + 1
  | .agg parts => uptoBulkAll parts + 1
  | .iface _ d => uptoBulk d + 1
  | .map entries => uptoBulkEntries entries + 1
  | .held _ => 1
def uptoBulkAll {H : Type} : List (DataW H) → Nat
  | [] => 0
  | d :: r => uptoBulk d + uptoBulkAll r
def uptoBulkEntries {H : Type} : List (Lit × DataW H) → Nat
  | [] => 0
  | x :: r => uptoBulkEntry x + uptoBulkEntries r
def uptoBulkEntry {H : Type} : Lit × DataW H → Nat
  | (.string bytes, d) => bytes.length + uptoBulk d + 1
  | (_, d) => uptoBulk d + 1
 end
def uptoSmall : (H : Type) → List (DataW H) → Bool := fun _ ds => decide (uptoBulkAll ds ≤ 1048576)
def OpenSpec.upto (s : _root_.Go.ChangeSpec) : _root_.Go.OpenSpec := { _root_.Go.OpenSpec.ofChange s with cond := some uptoSmall }

/-- 'tributarylaw09.CausalOnly', WHERE WHAT IT READS IS OF BULK AT MOST 1048576: true; the input reads as it did. -/
def causalOnlyUptoRow : OpenClaim := { program := "ytbcoelggdikipaagreat", sum := "fef527083077ca9676c524cacf134d8ca3e2e611a9a8aab2a6efd180bba5cacd", func := "tributary/tributarylaw09.CausalOnly", spec := "causalOnly", unfollowed := true, recurses := true, loops := true, apart := false, narrowed := true }
def CausalOnlyUptoSaid : Prop := causalOnlyUptoRow.holds Tryz.pinned (OpenSpec.upto causalOnlySpec)

/-- 'tributarylaw09.CausalOwn', WHERE WHAT IT READS IS OF BULK AT MOST 1048576: true; the input reads as it did. -/
def causalOwnUptoRow : OpenClaim := { program := "ytbcoelggdikipaagreat", sum := "fef527083077ca9676c524cacf134d8ca3e2e611a9a8aab2a6efd180bba5cacd", func := "tributary/tributarylaw09.CausalOwn", spec := "causalOwn", unfollowed := true, recurses := true, loops := true, apart := false, narrowed := true }
def CausalOwnUptoSaid : Prop := causalOwnUptoRow.holds Tryz.pinned (OpenSpec.upto causalOwnSpec)

/-- 'tributarylaw20.TxnPlays', WHERE WHAT IT READS IS OF BULK AT MOST 1048576: true; the input reads as it did. -/
def txnPlaysUptoRow : OpenClaim := { program := "ytbcoelggdikipaagreat", sum := "fef527083077ca9676c524cacf134d8ca3e2e611a9a8aab2a6efd180bba5cacd", func := "tributary/tributarylaw20.TxnPlays", spec := "txnPlays", unfollowed := true, recurses := true, loops := true, apart := false, narrowed := true }
def TxnPlaysUptoSaid : Prop := txnPlaysUptoRow.holds Tryz.pinned (OpenSpec.upto txnPlaysSpec)

/-- 'tributarylaw20.TxnOwn', WHERE WHAT IT READS IS OF BULK AT MOST 1048576: true; the input reads as it did. -/
def txnOwnUptoRow : OpenClaim := { program := "ytbcoelggdikipaagreat", sum := "fef527083077ca9676c524cacf134d8ca3e2e611a9a8aab2a6efd180bba5cacd", func := "tributary/tributarylaw20.TxnOwn", spec := "txnOwn", unfollowed := true, recurses := true, loops := true, apart := false, narrowed := true }
def TxnOwnUptoSaid : Prop := txnOwnUptoRow.holds Tryz.pinned (OpenSpec.upto txnOwnSpec)

/-- 'tributarylaw20.TxnDelta', WHERE WHAT IT READS IS OF BULK AT MOST 1048576: true; the input reads as it did. -/
def txnDeltaUptoRow : OpenClaim := { program := "ytbcoelggdikipaagreat", sum := "fef527083077ca9676c524cacf134d8ca3e2e611a9a8aab2a6efd180bba5cacd", func := "tributary/tributarylaw20.TxnDelta", spec := "txnDelta", unfollowed := true, recurses := true, loops := true, apart := false, narrowed := true }
def TxnDeltaUptoSaid : Prop := txnDeltaUptoRow.holds Tryz.pinned (OpenSpec.upto txnDeltaSpec)

end Rows
end Go.Proofs.YtbcoelggdikipaaGreat
