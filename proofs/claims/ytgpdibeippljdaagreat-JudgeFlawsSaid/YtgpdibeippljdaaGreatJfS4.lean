/- A closed run of garner/garnerlaw23.JudgeFlaws: pieces 4 to 4. No conditions. -/
import Derived.Test.YtgpdibeippljdaaGreatJfD2
namespace Go.Proofs.YtgpdibeippljdaaGreat.Jf
open Go.Eng
set_option maxRecDepth 1000000
theorem s4 : pieceA theEnv 17920 [1, 2, 3, 4, 5, 6, 7, 8, 9, 10, 11, 12, 13, 14, 15, 58, 102, 103, 104, 106, 107, 108, 109, 111, 112, 160, 161, 162, 205, 248, 286, 338, 372, 373, 374, 375, 376, 377, 411, 412, 445, 501, 548, 549, 550, 551, 552, 553, 633, 634, 635, 636, 637, 638, 697, 698, 699, 700, 701, 702, 840, 841, 842, 843, 844, 845, 961, 962, 1025, 1026, 1028, 1029, 1030, 1031, 1032, 1034, 1292, 1293, 1295, 1296, 1297, 1298, 1299, 1301, 1303, 1304] [] c3 = some c4 := by kernel_rfl
end Go.Proofs.YtgpdibeippljdaaGreat.Jf
