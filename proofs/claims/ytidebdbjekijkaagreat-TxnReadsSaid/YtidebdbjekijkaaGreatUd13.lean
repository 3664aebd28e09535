/- What the laws need. No condition but those that each lemma states. -/
import Derived.Test.YtidebdbjekijkaaGreatUd12
set_option maxRecDepth 100000
set_option maxHeartbeats 8000000
set_option linter.unusedSimpArgs false
namespace Go.Proofs.YtidebdbjekijkaaGreat
open Go.ChangeShapes Go.WideShapes Go.ChangeAt Go.RowKit
theorem and2 {a b:Bool}(h:a=true)(k:b=true):(a&&b)=true:=by rw[h,k];rfl
theorem zXg : Tryz.pinned.checked.prog.initOrder = "harness" ++ (" ebfcfe4619b9c78f8ebb497f44a841614e288551111d2a72fb75b04ce2eb7713" ++ (" cut" ++ (" at" ++ (" tributary/tributarylaw09.CausalOnly" ++ (" tributary/tributarylaw09.CausalOwn" ++ (" tributary/tributarylaw12.CounterAll" ++ (" tributary/tributarylaw20.TxnSees" ++ (" tributary/tributarylaw20.TxnPlays" ++ (" tributary/tributarylaw20.TxnOwn" ++ (" tributary/tributarylaw20.TxnDelta" ++ (" tributary/tributarylaw20.TxnReads"))))))))))) := by kernel_rfl
theorem zQu : wordsSigns Tryz.pinned.checked.prog.initOrder.toList = ["harness".toList, "ebfcfe4619b9c78f8ebb497f44a841614e288551111d2a72fb75b04ce2eb7713".toList, "cut".toList, "at".toList, "tributary/tributarylaw09.CausalOnly".toList, "tributary/tributarylaw09.CausalOwn".toList, "tributary/tributarylaw12.CounterAll".toList, "tributary/tributarylaw20.TxnSees".toList, "tributary/tributarylaw20.TxnPlays".toList, "tributary/tributarylaw20.TxnOwn".toList, "tributary/tributarylaw20.TxnDelta".toList, "tributary/tributarylaw20.TxnReads".toList] := by
 rw[zXg]
 simp only[String.toList_append]
 kernel_rfl
theorem Xg : behindMainWord (wordsSigns Tryz.pinned.checked.prog.initOrder.toList) = "cut".toList :: ["at".toList, "tributary/tributarylaw09.CausalOnly".toList, "tributary/tributarylaw09.CausalOwn".toList, "tributary/tributarylaw12.CounterAll".toList, "tributary/tributarylaw20.TxnSees".toList, "tributary/tributarylaw20.TxnPlays".toList, "tributary/tributarylaw20.TxnOwn".toList, "tributary/tributarylaw20.TxnDelta".toList, "tributary/tributarylaw20.TxnReads".toList] := by
 rw[zQu]
 kernel_rfl
theorem qXc : stripLifts liftWords ("cut".toList :: ["at".toList, "tributary/tributarylaw09.CausalOnly".toList, "tributary/tributarylaw09.CausalOwn".toList, "tributary/tributarylaw12.CounterAll".toList, "tributary/tributarylaw20.TxnSees".toList, "tributary/tributarylaw20.TxnPlays".toList, "tributary/tributarylaw20.TxnOwn".toList, "tributary/tributarylaw20.TxnDelta".toList, "tributary/tributarylaw20.TxnReads".toList]) = ([], "cut".toList :: ["at".toList, "tributary/tributarylaw09.CausalOnly".toList, "tributary/tributarylaw09.CausalOwn".toList, "tributary/tributarylaw12.CounterAll".toList, "tributary/tributarylaw20.TxnSees".toList, "tributary/tributarylaw20.TxnPlays".toList, "tributary/tributarylaw20.TxnOwn".toList, "tributary/tributarylaw20.TxnDelta".toList, "tributary/tributarylaw20.TxnReads".toList]) := by kernel_rfl
theorem zXh {P : Program} {rest : List (List Char)} (h : behindMainWord (wordsSigns P.initOrder.toList) = "cut".toList :: rest) (h1 : stripLifts liftWords ("cut".toList :: rest) = ([], "cut".toList :: rest)) : P.headLifts = [] := by
 unfold Program.headLifts
 rw[h]
 dsimp only
 rw[h1]
 simp
theorem zXi {P : Program} {rest : List (List Char)} (h : behindMainWord (wordsSigns P.initOrder.toList) = "cut".toList :: rest) (hl : P.headLifts = []) : P.liftsFinal = false := by
 unfold Program.liftsFinal
 rw[h,hl]
 kernel_rfl
theorem zJe {P : Program} {rest : List (List Char)} (h : behindMainWord (wordsSigns P.initOrder.toList) = "cut".toList :: rest) : P.make = some .cut := by
 unfold Program.make
 rw[h]
 kernel_rfl
theorem qVx:Tryz.pinned.checked.prog.headLifts=[]:=zXh Xg qXc
theorem KX:Tryz.pinned.checked.prog.liftsFinal=false:=zXi Xg qVx
theorem qQj:Tryz.pinned.checked.prog.make=some .cut:=zJe Xg
theorem KY:(laidOutB Tryz.pinned.checked.prog)=true:=by kernel_rfl
theorem KZ:(mapsRowed Tryz.pinned.checked.prog)=true:=by kernel_rfl
theorem K4:((Tryz.pinned.checked.prog.stops==[]))=true:=by kernel_rfl
theorem K5:((Tryz.pinned.checked.prog.stopKnobs==[]))=true:=by kernel_rfl
theorem K6:(Tryz.pinned.checked.prog.stopsHeard)=true:=by kernel_rfl
theorem zXj:Tryz.pinned.checked.prog.laysLater=false:=by kernel_rfl
theorem qYo:Tryz.pinned.checked.prog.bearsReflect=false:=by kernel_rfl
theorem zQv:Tryz.pinned.checked.prog.doorRows=[]:=by kernel_rfl
theorem zXk:Tryz.pinned.checked.prog.doorFits []=true:=by
 unfold Program.doorFits
 rw[zQv]
 kernel_rfl
theorem qYp {P : Program} {rest : List (List Char)} (h : behindMainWord (wordsSigns P.initOrder.toList) = "cut".toList :: rest) (h1 : stripLifts liftWords ("cut".toList :: rest) = ([], "cut".toList :: rest)) (h2 : P.doorFits [] = true) (h3 : P.laysLater = false) (h4 : P.bearsReflect = false) : P.mayEnter = true := by
 unfold Program.mayEnter
 rw[h]
 dsimp only
 rw[h1,h2,h3,h4]
 simp
theorem K7:Tryz.pinned.checked.prog.mayEnter=true:=qYp Xg qXc zXk zXj qYo
end Go.Proofs.YtidebdbjekijkaaGreat
