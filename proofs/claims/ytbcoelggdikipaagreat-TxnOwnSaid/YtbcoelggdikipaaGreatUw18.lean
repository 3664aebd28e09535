/- What the laws need. No condition but those that each lemma states. -/
import Derived.Test.YtbcoelggdikipaaGreatUw17
set_option maxRecDepth 100000
set_option maxHeartbeats 8000000
set_option linter.unusedSimpArgs false
namespace Go.Proofs.YtbcoelggdikipaaGreat
open Go.ChangeShapes Go.WideShapes Go.ChangeAt Go.RowKit
theorem and2 {a b:Bool}(h:a=true)(k:b=true):(a&&b)=true:=by rw[h,k];rfl
theorem zZi : Tryz.pinned.checked.prog.initOrder = "harness" ++ (" e19d4ea1bceb4cccd7a5c4275f717ab282ff5bab52a897b9dcd5a6f8cb9c922f" ++ (" cut" ++ (" at" ++ (" tributary/tributarylaw09.CausalOnly" ++ (" tributary/tributarylaw09.CausalOwn" ++ (" tributary/tributarylaw20.TxnPlays" ++ (" tributary/tributarylaw20.TxnOwn" ++ (" tributary/tributarylaw20.TxnDelta")))))))) := by kernel_rfl
theorem qUu : wordsSigns Tryz.pinned.checked.prog.initOrder.toList = ["harness".toList, "e19d4ea1bceb4cccd7a5c4275f717ab282ff5bab52a897b9dcd5a6f8cb9c922f".toList, "cut".toList, "at".toList, "tributary/tributarylaw09.CausalOnly".toList, "tributary/tributarylaw09.CausalOwn".toList, "tributary/tributarylaw20.TxnPlays".toList, "tributary/tributarylaw20.TxnOwn".toList, "tributary/tributarylaw20.TxnDelta".toList] := by
 rw[zZi]
 simp only[String.toList_append]
 kernel_rfl
theorem Y5 : behindMainWord (wordsSigns Tryz.pinned.checked.prog.initOrder.toList) = "cut".toList :: ["at".toList, "tributary/tributarylaw09.CausalOnly".toList, "tributary/tributarylaw09.CausalOwn".toList, "tributary/tributarylaw20.TxnPlays".toList, "tributary/tributarylaw20.TxnOwn".toList, "tributary/tributarylaw20.TxnDelta".toList] := by
 rw[qUu]
 kernel_rfl
theorem qQ8 : stripLifts liftWords ("cut".toList :: ["at".toList, "tributary/tributarylaw09.CausalOnly".toList, "tributary/tributarylaw09.CausalOwn".toList, "tributary/tributarylaw20.TxnPlays".toList, "tributary/tributarylaw20.TxnOwn".toList, "tributary/tributarylaw20.TxnDelta".toList]) = ([], "cut".toList :: ["at".toList, "tributary/tributarylaw09.CausalOnly".toList, "tributary/tributarylaw09.CausalOwn".toList, "tributary/tributarylaw20.TxnPlays".toList, "tributary/tributarylaw20.TxnOwn".toList, "tributary/tributarylaw20.TxnDelta".toList]) := by kernel_rfl
theorem zZj {P : Program} {rest : List (List Char)} (h : behindMainWord (wordsSigns P.initOrder.toList) = "cut".toList :: rest) (h1 : stripLifts liftWords ("cut".toList :: rest) = ([], "cut".toList :: rest)) : P.headLifts = [] := by
 unfold Program.headLifts
 rw[h]
 dsimp only
 rw[h1]
 simp
theorem zZk {P : Program} {rest : List (List Char)} (h : behindMainWord (wordsSigns P.initOrder.toList) = "cut".toList :: rest) (hl : P.headLifts = []) : P.liftsFinal = false := by
 unfold Program.liftsFinal
 rw[h,hl]
 kernel_rfl
theorem zYh {P : Program} {rest : List (List Char)} (h : behindMainWord (wordsSigns P.initOrder.toList) = "cut".toList :: rest) : P.make = some .cut := by
 unfold Program.make
 rw[h]
 kernel_rfl
theorem qKq:Tryz.pinned.checked.prog.headLifts=[]:=zZj Y5 qQ8
theorem qUv:Tryz.pinned.checked.prog.liftsFinal=false:=zZk Y5 qKq
theorem zZl:Tryz.pinned.checked.prog.make=some .cut:=zYh Y5
theorem qUw:(laidOutB Tryz.pinned.checked.prog)=true:=by kernel_rfl
theorem qUx:(mapsRowed Tryz.pinned.checked.prog)=true:=by kernel_rfl
theorem qUy:((Tryz.pinned.checked.prog.stops==[]))=true:=by kernel_rfl
theorem qUz:((Tryz.pinned.checked.prog.stopKnobs==[]))=true:=by kernel_rfl
theorem qU0:(Tryz.pinned.checked.prog.stopsHeard)=true:=by kernel_rfl
theorem zZm:Tryz.pinned.checked.prog.laysLater=false:=by kernel_rfl
theorem qXi:Tryz.pinned.checked.prog.bearsReflect=false:=by kernel_rfl
theorem qU1:Tryz.pinned.checked.prog.doorRows=[]:=by kernel_rfl
theorem zZn:Tryz.pinned.checked.prog.doorFits []=true:=by
 unfold Program.doorFits
 rw[qU1]
 kernel_rfl
theorem qXj {P : Program} {rest : List (List Char)} (h : behindMainWord (wordsSigns P.initOrder.toList) = "cut".toList :: rest) (h1 : stripLifts liftWords ("cut".toList :: rest) = ([], "cut".toList :: rest)) (h2 : P.doorFits [] = true) (h3 : P.laysLater = false) (h4 : P.bearsReflect = false) : P.mayEnter = true := by
 unfold Program.mayEnter
 rw[h]
 dsimp only
 rw[h1,h2,h3,h4]
 simp
theorem qU2:Tryz.pinned.checked.prog.mayEnter=true:=qXj Y5 qQ8 zZn zZm qXi
end Go.Proofs.YtbcoelggdikipaaGreat
