/- A closed run of garner/garnerlaw21.RecoverCorrupt: pieces, part 2. No conditions. -/
import Derived.Test.YtgmeaibdeflimaaGreatDoorRcD3
namespace Go.Proofs.YtgmeaibdeflimaaGreatDoor.Rc
open Go.Eng
set_option maxRecDepth 1000000
theorem s2 : pieceN theEnv 32138 [0, 1, 2, 3, 4, 45, 46, 47, 84, 121, 122, 123, 160, 161, 198, 199, 203, 204, 205, 242, 279, 280, 281, 282, 283, 302, 306, 307, 308, 327, 331, 353, 354, 542, 572, 573, 574, 575, 576, 590, 592, 613, 615, 619, 623, 624, 625, 626, 627, 628, 629, 630, 631, 632] [16, 83, 120, 159, 197, 202, 241, 278, 286, 305, 311, 330, 352, 571, 618] 633 c1 = some c2 := by kernel_rfl
theorem w3_0 : (waysL c2).length = 2 := by kernel_rfl
theorem s3_0 : pieceN theEnv 533 [0, 1, 2, 3, 4, 45, 46, 47, 84, 121, 122, 123, 160, 161, 198, 199, 203, 204, 205, 242, 279, 280, 281, 282, 283, 302, 306, 307, 308, 327, 331, 353, 354, 542, 572, 573, 574, 575, 576, 590, 592, 613, 615, 619, 623, 624, 625, 626, 627] [16, 83, 120, 159, 197, 202, 241, 278, 286, 305, 311, 330, 352, 571, 618] 641 (way c2 0) = some c3 := by kernel_rfl
theorem s3_1 : pieceN theEnv 481 [0, 1, 2, 3, 4, 45, 46, 47, 84, 121, 122, 123, 160, 161, 198, 199, 203, 204, 205, 242, 279, 280, 281, 282, 283, 302, 306, 307, 308, 327, 331, 353, 354, 542, 572, 573, 574, 575, 576, 590, 592, 613, 615, 619, 623, 624, 625, 626, 627] [16, 83, 120, 159, 197, 202, 241, 278, 286, 305, 311, 330, 352, 571, 618] 641 (way c2 1) = some c3 := by kernel_rfl
theorem f3 : Goes Tryz.prog c2 c3 := Goes.ways2 w3_0 (Goes.pieceN fits mixedOn s3_0) (Goes.pieceN fits mixedOn s3_1)
end Go.Proofs.YtgmeaibdeflimaaGreatDoor.Rc
