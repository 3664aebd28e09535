/- What the laws need. No condition but those that each lemma states. -/
import Derived.Test.YtidebdbjekijkaaGreatUm7
set_option maxRecDepth 100000
set_option maxHeartbeats 8000000
set_option linter.unusedSimpArgs false
namespace Go.Proofs.YtidebdbjekijkaaGreat
open Go.ChangeShapes Go.WideShapes Go.ChangeAt Go.RowKit
theorem and2 {a b:Bool}(h:a=true)(k:b=true):(a&&b)=true:=by rw[h,k];rfl
theorem qX1 : Tryz.pinned.checked.prog.initOrder = "harness" ++ (" ebfcfe4619b9c78f8ebb497f44a841614e288551111d2a72fb75b04ce2eb7713" ++ (" cut" ++ (" at" ++ (" tributary/tributarylaw09.CausalOnly" ++ (" tributary/tributarylaw09.CausalOwn" ++ (" tributary/tributarylaw12.CounterAll" ++ (" tributary/tributarylaw20.TxnSees" ++ (" tributary/tributarylaw20.TxnPlays" ++ (" tributary/tributarylaw20.TxnOwn" ++ (" tributary/tributarylaw20.TxnDelta" ++ (" tributary/tributarylaw20.TxnReads"))))))))))) := by kernel_rfl
theorem qZu : wordsSigns Tryz.pinned.checked.prog.initOrder.toList = ["harness".toList, "ebfcfe4619b9c78f8ebb497f44a841614e288551111d2a72fb75b04ce2eb7713".toList, "cut".toList, "at".toList, "tributary/tributarylaw09.CausalOnly".toList, "tributary/tributarylaw09.CausalOwn".toList, "tributary/tributarylaw12.CounterAll".toList, "tributary/tributarylaw20.TxnSees".toList, "tributary/tributarylaw20.TxnPlays".toList, "tributary/tributarylaw20.TxnOwn".toList, "tributary/tributarylaw20.TxnDelta".toList, "tributary/tributarylaw20.TxnReads".toList] := by
 rw[qX1]
 simp only[String.toList_append]
 kernel_rfl
theorem ZN : behindMainWord (wordsSigns Tryz.pinned.checked.prog.initOrder.toList) = "cut".toList :: ["at".toList, "tributary/tributarylaw09.CausalOnly".toList, "tributary/tributarylaw09.CausalOwn".toList, "tributary/tributarylaw12.CounterAll".toList, "tributary/tributarylaw20.TxnSees".toList, "tributary/tributarylaw20.TxnPlays".toList, "tributary/tributarylaw20.TxnOwn".toList, "tributary/tributarylaw20.TxnDelta".toList, "tributary/tributarylaw20.TxnReads".toList] := by
 rw[qZu]
 kernel_rfl
theorem JQ : stripLifts liftWords ("cut".toList :: ["at".toList, "tributary/tributarylaw09.CausalOnly".toList, "tributary/tributarylaw09.CausalOwn".toList, "tributary/tributarylaw12.CounterAll".toList, "tributary/tributarylaw20.TxnSees".toList, "tributary/tributarylaw20.TxnPlays".toList, "tributary/tributarylaw20.TxnOwn".toList, "tributary/tributarylaw20.TxnDelta".toList, "tributary/tributarylaw20.TxnReads".toList]) = ([], "cut".toList :: ["at".toList, "tributary/tributarylaw09.CausalOnly".toList, "tributary/tributarylaw09.CausalOwn".toList, "tributary/tributarylaw12.CounterAll".toList, "tributary/tributarylaw20.TxnSees".toList, "tributary/tributarylaw20.TxnPlays".toList, "tributary/tributarylaw20.TxnOwn".toList, "tributary/tributarylaw20.TxnDelta".toList, "tributary/tributarylaw20.TxnReads".toList]) := by kernel_rfl
theorem qX2 {P : Program} {rest : List (List Char)} (h : behindMainWord (wordsSigns P.initOrder.toList) = "cut".toList :: rest) (h1 : stripLifts liftWords ("cut".toList :: rest) = ([], "cut".toList :: rest)) : P.headLifts = [] := by
 unfold Program.headLifts
 rw[h]
 dsimp only
 rw[h1]
 simp
theorem qX3 {P : Program} {rest : List (List Char)} (h : behindMainWord (wordsSigns P.initOrder.toList) = "cut".toList :: rest) (hl : P.headLifts = []) : P.liftsFinal = false := by
 unfold Program.liftsFinal
 rw[h,hl]
 kernel_rfl
theorem qY7 {P : Program} {rest : List (List Char)} (h : behindMainWord (wordsSigns P.initOrder.toList) = "cut".toList :: rest) : P.make = some .cut := by
 unfold Program.make
 rw[h]
 kernel_rfl
theorem VN:Tryz.pinned.checked.prog.headLifts=[]:=qX2 ZN JQ
theorem qZv:Tryz.pinned.checked.prog.liftsFinal=false:=qX3 ZN VN
theorem qX4:Tryz.pinned.checked.prog.make=some .cut:=qY7 ZN
theorem qZw:(laidOutB Tryz.pinned.checked.prog)=true:=by kernel_rfl
theorem qZx:(mapsRowed Tryz.pinned.checked.prog)=true:=by kernel_rfl
theorem qZy:((Tryz.pinned.checked.prog.stops==[]))=true:=by kernel_rfl
theorem qZz:((Tryz.pinned.checked.prog.stopKnobs==[]))=true:=by kernel_rfl
theorem qZ0:(Tryz.pinned.checked.prog.stopsHeard)=true:=by kernel_rfl
theorem qX5:Tryz.pinned.checked.prog.laysLater=false:=by kernel_rfl
theorem Kl:Tryz.pinned.checked.prog.bearsReflect=false:=by kernel_rfl
theorem qZ1:Tryz.pinned.checked.prog.doorRows=[]:=by kernel_rfl
theorem qX6:Tryz.pinned.checked.prog.doorFits []=true:=by
 unfold Program.doorFits
 rw[qZ1]
 kernel_rfl
theorem Km {P : Program} {rest : List (List Char)} (h : behindMainWord (wordsSigns P.initOrder.toList) = "cut".toList :: rest) (h1 : stripLifts liftWords ("cut".toList :: rest) = ([], "cut".toList :: rest)) (h2 : P.doorFits [] = true) (h3 : P.laysLater = false) (h4 : P.bearsReflect = false) : P.mayEnter = true := by
 unfold Program.mayEnter
 rw[h]
 dsimp only
 rw[h1,h2,h3,h4]
 simp
theorem qZ2:Tryz.pinned.checked.prog.mayEnter=true:=Km ZN JQ qX6 qX5 Kl
end Go.Proofs.YtidebdbjekijkaaGreat
