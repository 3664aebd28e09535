/- What the laws need, part 10: Facts on the program alone that a claim asks for, one by one. No condition. -/
import Derived.Test.YtlapdmgjfdelnaaGreatRt9
namespace Go.Proofs.YtlapdmgjfdelnaaGreat
open Go.ChangeShapes Go.WideShapes Go.ChangeAt Go.RowKit

theorem and2 {a b : Bool} (h : a = true) (k : b = true) : (a && b) = true := by rw [h, k]; rfl
theorem headText : Tryz.pinned.checked.prog.initOrder = "harness" ++ (" b48a6a6bc2b350bcb204ee7cd1225bd47f54fc20020de8669e10e3820ee61886" ++ (" cut" ++ (" at" ++ (" tributary/tributarylaw09.CausalOnly" ++ (" tributary/tributarylaw09.CausalOwn" ++ (" tributary/tributarylaw12.CounterAll" ++ (" tributary/tributarylaw15.OpSpec" ++ (" tributary/tributarylaw15.OpGrows" ++ (" tributary/tributarylaw15.OpMeets" ++ (" tributary/tributarylaw20.TxnSees" ++ (" tributary/tributarylaw20.TxnPlays" ++ (" tributary/tributarylaw20.TxnOwn" ++ (" tributary/tributarylaw20.TxnDelta" ++ (" tributary/tributarylaw20.TxnReads" ++ (" tributary/tributarylaw20.TxnNil"))))))))))))))) := by kernel_rfl
theorem headSigns : wordsSigns Tryz.pinned.checked.prog.initOrder.toList = ["harness".toList, "b48a6a6bc2b350bcb204ee7cd1225bd47f54fc20020de8669e10e3820ee61886".toList, "cut".toList, "at".toList, "tributary/tributarylaw09.CausalOnly".toList, "tributary/tributarylaw09.CausalOwn".toList, "tributary/tributarylaw12.CounterAll".toList, "tributary/tributarylaw15.OpSpec".toList, "tributary/tributarylaw15.OpGrows".toList, "tributary/tributarylaw15.OpMeets".toList, "tributary/tributarylaw20.TxnSees".toList, "tributary/tributarylaw20.TxnPlays".toList, "tributary/tributarylaw20.TxnOwn".toList, "tributary/tributarylaw20.TxnDelta".toList, "tributary/tributarylaw20.TxnReads".toList, "tributary/tributarylaw20.TxnNil".toList] := by
  rw [headText]
  simp only [String.toList_append]
  kernel_rfl
theorem headBehind : behindMainWord (wordsSigns Tryz.pinned.checked.prog.initOrder.toList) = "cut".toList :: ["at".toList, "tributary/tributarylaw09.CausalOnly".toList, "tributary/tributarylaw09.CausalOwn".toList, "tributary/tributarylaw12.CounterAll".toList, "tributary/tributarylaw15.OpSpec".toList, "tributary/tributarylaw15.OpGrows".toList, "tributary/tributarylaw15.OpMeets".toList, "tributary/tributarylaw20.TxnSees".toList, "tributary/tributarylaw20.TxnPlays".toList, "tributary/tributarylaw20.TxnOwn".toList, "tributary/tributarylaw20.TxnDelta".toList, "tributary/tributarylaw20.TxnReads".toList, "tributary/tributarylaw20.TxnNil".toList] := by
  rw [headSigns]
  kernel_rfl
theorem headStrip : stripLifts liftWords ("cut".toList :: ["at".toList, "tributary/tributarylaw09.CausalOnly".toList, "tributary/tributarylaw09.CausalOwn".toList, "tributary/tributarylaw12.CounterAll".toList, "tributary/tributarylaw15.OpSpec".toList, "tributary/tributarylaw15.OpGrows".toList, "tributary/tributarylaw15.OpMeets".toList, "tributary/tributarylaw20.TxnSees".toList, "tributary/tributarylaw20.TxnPlays".toList, "tributary/tributarylaw20.TxnOwn".toList, "tributary/tributarylaw20.TxnDelta".toList, "tributary/tributarylaw20.TxnReads".toList, "tributary/tributarylaw20.TxnNil".toList]) = ([], "cut".toList :: ["at".toList, "tributary/tributarylaw09.CausalOnly".toList, "tributary/tributarylaw09.CausalOwn".toList, "tributary/tributarylaw12.CounterAll".toList, "tributary/tributarylaw15.OpSpec".toList, "tributary/tributarylaw15.OpGrows".toList, "tributary/tributarylaw15.OpMeets".toList, "tributary/tributarylaw20.TxnSees".toList, "tributary/tributarylaw20.TxnPlays".toList, "tributary/tributarylaw20.TxnOwn".toList, "tributary/tributarylaw20.TxnDelta".toList, "tributary/tributarylaw20.TxnReads".toList, "tributary/tributarylaw20.TxnNil".toList]) := by kernel_rfl
theorem lifts_of {P : Program} {rest : List (List Char)} (h : behindMainWord (wordsSigns P.initOrder.toList) = "cut".toList :: rest) (h1 : stripLifts liftWords ("cut".toList :: rest) = ([], "cut".toList :: rest)) : P.headLifts = [] := by
  unfold Program.headLifts
  rw [h]
  dsimp only
  rw [h1]
  simp
theorem final_of {P : Program} {rest : List (List Char)} (h : behindMainWord (wordsSigns P.initOrder.toList) = "cut".toList :: rest) (hl : P.headLifts = []) : P.liftsFinal = false := by
  unfold Program.liftsFinal
  rw [h, hl]
  kernel_rfl
theorem make_of {P : Program} {rest : List (List Char)} (h : behindMainWord (wordsSigns P.initOrder.toList) = "cut".toList :: rest) : P.make = some .cut := by
  unfold Program.make
  rw [h]
  kernel_rfl
theorem headLifted : Tryz.pinned.checked.prog.headLifts = [] := lifts_of headBehind headStrip
theorem headFinal : Tryz.pinned.checked.prog.liftsFinal = false := final_of headBehind headLifted
theorem headMake : Tryz.pinned.checked.prog.make = some .cut := make_of headBehind
theorem closedP01 : (laidOutB Tryz.pinned.checked.prog) = true := by kernel_rfl
theorem closedP02 : (mapsRowed Tryz.pinned.checked.prog) = true := by kernel_rfl
theorem closedP06 : ((Tryz.pinned.checked.prog.stops == [])) = true := by kernel_rfl
theorem closedP08 : ((Tryz.pinned.checked.prog.stopKnobs == [])) = true := by kernel_rfl
theorem closedP24 : (Tryz.pinned.checked.prog.stopsHeard) = true := by kernel_rfl
theorem headLays : Tryz.pinned.checked.prog.laysLater = false := by kernel_rfl
theorem headReflect : Tryz.pinned.checked.prog.bearsReflect = false := by kernel_rfl
theorem headDoors : Tryz.pinned.checked.prog.doorRows = [] := by kernel_rfl
theorem headDoor : Tryz.pinned.checked.prog.doorFits [] = true := by
  unfold Program.doorFits
  rw [headDoors]
  kernel_rfl
theorem mayEnter_of {P : Program} {rest : List (List Char)} (h : behindMainWord (wordsSigns P.initOrder.toList) = "cut".toList :: rest) (h1 : stripLifts liftWords ("cut".toList :: rest) = ([], "cut".toList :: rest)) (h2 : P.doorFits [] = true) (h3 : P.laysLater = false) (h4 : P.bearsReflect = false) : P.mayEnter = true := by
  unfold Program.mayEnter
  rw [h]
  dsimp only
  rw [h1, h2, h3, h4]
  simp
theorem closedP25 : Tryz.pinned.checked.prog.mayEnter = true := mayEnter_of headBehind headStrip headDoor headLays headReflect
end Go.Proofs.YtlapdmgjfdelnaaGreat
