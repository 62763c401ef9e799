/- A closed run of garner/garnerlaw21.RecoverCorrupt: pieces, part 21. No conditions. -/
import Derived.Test.YtgmeaibdeflimaaGreatDoorRcD3
namespace Go.Proofs.YtgmeaibdeflimaaGreatDoor.Rc
open Go.Eng
set_option maxRecDepth 1000000
theorem s71 : isTrue (answerA theEnv 3 (runB theEnv 11762 c70)) = true := by kernel_rfl
end Go.Proofs.YtgmeaibdeflimaaGreatDoor.Rc
