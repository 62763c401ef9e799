/- A closed run of garner/garnerlaw23.JudgeFlaws: the whole. No conditions. -/
import Derived.Test.YtgpdibeippljdaaGreatJfS1
import Derived.Test.YtgpdibeippljdaaGreatJfS2
import Derived.Test.YtgpdibeippljdaaGreatJfS3
import Derived.Test.YtgpdibeippljdaaGreatJfS4
import Derived.Test.YtgpdibeippljdaaGreatJfS5
import Derived.Test.YtgpdibeippljdaaGreatJfS6
import Derived.Test.YtgpdibeippljdaaGreatJfS7
import Derived.Test.YtgpdibeippljdaaGreatJfS8
import Derived.Test.YtgpdibeippljdaaGreatJfS9
import Derived.Test.YtgpdibeippljdaaGreatJfS10
import Derived.Test.YtgpdibeippljdaaGreatJfS11
import Derived.Test.YtgpdibeippljdaaGreatJfS12
import Derived.Test.YtgpdibeippljdaaGreatJfS13
import Derived.Test.YtgpdibeippljdaaGreatJfS14
import Derived.Test.YtgpdibeippljdaaGreatJfS15
namespace Go.Proofs.YtgpdibeippljdaaGreat.Jf
open Go.Eng
theorem goes : Goes Tryz.prog c0 c14 :=
  (((((((((((((Goes.piece fits mixedOn s1).trans
  (Goes.piece fits mixedOn s2)).trans
  (Goes.piece fits mixedOn s3)).trans
  (Goes.piece fits mixedOn s4)).trans
  (Goes.piece fits mixedOn s5)).trans
  (Goes.piece fits mixedOn s6)).trans
  (Goes.piece fits mixedOn s7)).trans
  (Goes.piece fits mixedOn s8)).trans
  (Goes.piece fits mixedOn s9)).trans
  (Goes.piece fits mixedOn s10)).trans
  (Goes.piece fits mixedOn s11)).trans
  (Goes.piece fits mixedOn s12)).trans
  (Goes.piece fits mixedOn s13)).trans
  (Goes.piece fits mixedOn s14)
theorem isTrueOf (W : World) : Calls Tryz.prog 6 #[] W fun e W' => e = .returned (.bool true) ∧ Stays W W' :=
  calls_of_goes (args := []) rfl (orNo_some starts) (goes.trans (Goes.run fits mixedOn 3274 c14)) s15
end Go.Proofs.YtgpdibeippljdaaGreat.Jf
