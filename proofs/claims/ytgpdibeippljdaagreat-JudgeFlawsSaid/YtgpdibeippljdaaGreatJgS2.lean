/- A closed run of garner/garnerlaw23.JudgeFlaws: pieces, part 2. No conditions. -/
import Derived.Test.YtgpdibeippljdaaGreatJgD1
namespace Go.Proofs.YtgpdibeippljdaaGreat.Jg
open Go.Eng
set_option maxRecDepth 1000000
theorem s2 : pieceN theEnv 45478 [1, 2, 3, 4, 5, 6, 7, 8, 9, 10, 11, 12, 13, 14, 15, 58, 102, 103, 104, 106, 107, 108, 109, 111, 112, 160, 161, 162, 205, 248, 286, 338, 372, 373, 374, 375, 376, 377, 411, 412, 445, 501, 548, 549, 550, 551, 552, 553, 633, 634, 635, 636, 637, 638, 697, 698, 699, 700, 701, 702, 840, 841, 842, 843, 844, 845, 961, 962, 1025, 1026, 1028, 1029, 1030, 1031, 1032, 1034, 1292, 1293, 1295, 1296, 1297, 1298, 1299, 1301, 1559, 1560, 1562, 1563, 1564, 1565, 1566, 1568, 1766, 1767, 1769, 1770, 1771, 1772, 1773, 1777, 1778, 1780, 1781, 1782, 1783, 1784, 1786] [] 1902 c1 = some c2 := by kernel_rfl
end Go.Proofs.YtgpdibeippljdaaGreat.Jg
