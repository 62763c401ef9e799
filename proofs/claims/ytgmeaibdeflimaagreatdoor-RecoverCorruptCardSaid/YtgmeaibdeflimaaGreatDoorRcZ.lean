/- A closed run of garner/garnerlaw21.RecoverCorrupt: the whole. No conditions. -/
import Derived.Test.YtgmeaibdeflimaaGreatDoorRcS1
import Derived.Test.YtgmeaibdeflimaaGreatDoorRcS2
import Derived.Test.YtgmeaibdeflimaaGreatDoorRcS3
import Derived.Test.YtgmeaibdeflimaaGreatDoorRcS4
import Derived.Test.YtgmeaibdeflimaaGreatDoorRcS5
import Derived.Test.YtgmeaibdeflimaaGreatDoorRcS6
import Derived.Test.YtgmeaibdeflimaaGreatDoorRcS7
import Derived.Test.YtgmeaibdeflimaaGreatDoorRcS8
import Derived.Test.YtgmeaibdeflimaaGreatDoorRcS9
import Derived.Test.YtgmeaibdeflimaaGreatDoorRcS10
import Derived.Test.YtgmeaibdeflimaaGreatDoorRcS11
import Derived.Test.YtgmeaibdeflimaaGreatDoorRcS12
import Derived.Test.YtgmeaibdeflimaaGreatDoorRcS13
import Derived.Test.YtgmeaibdeflimaaGreatDoorRcS14
import Derived.Test.YtgmeaibdeflimaaGreatDoorRcS15
import Derived.Test.YtgmeaibdeflimaaGreatDoorRcS16
import Derived.Test.YtgmeaibdeflimaaGreatDoorRcS17
import Derived.Test.YtgmeaibdeflimaaGreatDoorRcS18
import Derived.Test.YtgmeaibdeflimaaGreatDoorRcS19
import Derived.Test.YtgmeaibdeflimaaGreatDoorRcS20
import Derived.Test.YtgmeaibdeflimaaGreatDoorRcS21
namespace Go.Proofs.YtgmeaibdeflimaaGreatDoor.Rc
open Go.Eng
theorem g1 : Goes Tryz.prog c0 c10 :=
  (((((((((Goes.pieceN fits mixedOn s1).trans
  (Goes.pieceN fits mixedOn s2)).trans
  (f3)).trans
  (Goes.pieceN fits mixedOn s4)).trans
  (f5)).trans
  (Goes.pieceN fits mixedOn s6)).trans
  (f7)).trans
  (Goes.pieceN fits mixedOn s8)).trans
  (Goes.pieceN fits mixedOn s9)).trans
  (f10)
theorem g2 : Goes Tryz.prog c10 c20 :=
  (((((((((Goes.pieceN fits mixedOn s11).trans
  (f12)).trans
  (Goes.pieceN fits mixedOn s13)).trans
  (f14)).trans
  (Goes.pieceN fits mixedOn s15)).trans
  (f16)).trans
  (Goes.pieceN fits mixedOn s17)).trans
  (f18)).trans
  (Goes.pieceN fits mixedOn s19)).trans
  (f20)
theorem g3 : Goes Tryz.prog c20 c30 :=
  (((((((((Goes.pieceN fits mixedOn s21).trans
  (f22)).trans
  (Goes.pieceN fits mixedOn s23)).trans
  (Goes.pieceN fits mixedOn s24)).trans
  (f25)).trans
  (Goes.pieceN fits mixedOn s26)).trans
  (f27)).trans
  (Goes.pieceN fits mixedOn s28)).trans
  (f29)).trans
  (Goes.pieceN fits mixedOn s30)
theorem g4 : Goes Tryz.prog c30 c40 :=
  (((((((((f31).trans
  (Goes.pieceN fits mixedOn s32)).trans
  (f33)).trans
  (Goes.pieceN fits mixedOn s34)).trans
  (f35)).trans
  (Goes.pieceN fits mixedOn s36)).trans
  (f37)).trans
  (Goes.pieceN fits mixedOn s38)).trans
  (f39)).trans
  (Goes.pieceN fits mixedOn s40)
theorem g5 : Goes Tryz.prog c40 c50 :=
  (((((((((f41).trans
  (Goes.pieceN fits mixedOn s42)).trans
  (f43)).trans
  (Goes.pieceN fits mixedOn s44)).trans
  (f45)).trans
  (Goes.pieceN fits mixedOn s46)).trans
  (Goes.pieceN fits mixedOn s47)).trans
  (f48)).trans
  (Goes.pieceN fits mixedOn s49)).trans
  (f50)
theorem g6 : Goes Tryz.prog c50 c60 :=
  (((((((((Goes.pieceN fits mixedOn s51).trans
  (Goes.pieceN fits mixedOn s52)).trans
  (f53)).trans
  (Goes.pieceN fits mixedOn s54)).trans
  (f55)).trans
  (Goes.pieceN fits mixedOn s56)).trans
  (f57)).trans
  (Goes.pieceN fits mixedOn s58)).trans
  (Goes.pieceN fits mixedOn s59)).trans
  (f60)
theorem g7 : Goes Tryz.prog c60 c70 :=
  (((((((((Goes.pieceN fits mixedOn s61).trans
  (f62)).trans
  (Goes.pieceN fits mixedOn s63)).trans
  (f64)).trans
  (Goes.pieceN fits mixedOn s65)).trans
  (f66)).trans
  (Goes.pieceN fits mixedOn s67)).trans
  (f68)).trans
  (Goes.pieceN fits mixedOn s69)).trans
  (f70)
theorem goes : Goes Tryz.prog c0 c70 :=
  ((((((g1).trans g2).trans g3).trans g4).trans g5).trans g6).trans g7
theorem isTrueOf (W : World) : Calls Tryz.prog 3 #[] W fun e W' => e = .returned (.bool true) ∧ Stays W W' :=
  calls_of_goesK (args := []) rfl (orNo_some starts) (goes.trans (Goes.runK fits mixedOn 11762 c70)) s71
end Go.Proofs.YtgmeaibdeflimaaGreatDoor.Rc
