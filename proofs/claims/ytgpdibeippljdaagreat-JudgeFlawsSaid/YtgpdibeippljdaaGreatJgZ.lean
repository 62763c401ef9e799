/- A closed run of garner/garnerlaw23.JudgeFlaws: the whole. No conditions. -/
import Derived.Test.YtgpdibeippljdaaGreatJgS1
import Derived.Test.YtgpdibeippljdaaGreatJgS2
import Derived.Test.YtgpdibeippljdaaGreatJgS3
import Derived.Test.YtgpdibeippljdaaGreatJgS4
import Derived.Test.YtgpdibeippljdaaGreatJgS5
import Derived.Test.YtgpdibeippljdaaGreatJgS6
namespace Go.Proofs.YtgpdibeippljdaaGreat.Jg
open Go.Eng
theorem g1 : Goes Tryz.prog c0 c5 :=
  ((((Goes.pieceN fits mixedOn s1).trans
  (Goes.pieceN fits mixedOn s2)).trans
  (Goes.pieceN fits mixedOn s3)).trans
  (Goes.pieceN fits mixedOn s4)).trans
  (Goes.pieceN fits mixedOn s5)
theorem goes : Goes Tryz.prog c0 c5 :=
  g1
theorem isTrueOf (W : World) : Calls Tryz.prog 6 #[] W fun e W' => e = .returned (.bool true) ∧ Stays W W' :=
  calls_of_goesK (args := []) rfl (orNo_some starts) (goes.trans (Goes.runK fits mixedOn 20541 c5)) s6
end Go.Proofs.YtgpdibeippljdaaGreat.Jg
