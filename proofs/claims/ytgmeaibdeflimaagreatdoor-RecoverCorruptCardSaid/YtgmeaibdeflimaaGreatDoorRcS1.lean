/- A closed run of garner/garnerlaw21.RecoverCorrupt: pieces, part 1. No conditions. -/
import Derived.Test.YtgmeaibdeflimaaGreatDoorRcD3
namespace Go.Proofs.YtgmeaibdeflimaaGreatDoor.Rc
open Go.Eng
set_option maxRecDepth 1000000
theorem s1 : pieceN theEnv 40992 [0, 1, 2, 3, 4, 45, 46, 47, 84, 121, 122, 123, 160, 161, 198, 199, 203, 204, 205, 242, 279, 280, 281, 282, 283, 302, 306, 307, 308, 327, 331, 353, 354, 355, 356, 357, 371, 373, 394, 396, 400] [16, 83, 120, 159, 197, 202, 241, 278, 286, 305, 311, 330, 352, 399] 401 c0 = some c1 := by kernel_rfl
end Go.Proofs.YtgmeaibdeflimaaGreatDoor.Rc
