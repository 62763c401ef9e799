/- A closed run of garner/garnerlaw23.JudgeFlaws: pieces 3 to 3. No conditions. -/
import Derived.Test.YtgpdibeippljdaaGreatJfD2
namespace Go.Proofs.YtgpdibeippljdaaGreat.Jf
open Go.Eng
set_option maxRecDepth 1000000
theorem s3 : pieceA theEnv 16696 [1, 2, 3, 4, 5, 6, 7, 8, 9, 10, 11, 12, 13, 14, 15, 58, 102, 103, 104, 106, 107, 108, 109, 111, 112, 160, 161, 162, 205, 248, 286, 338, 372, 373, 374, 375, 376, 377, 411, 412, 445, 501, 548, 549, 550, 551, 552, 553, 633, 634, 635, 636, 637, 638, 697, 698, 699, 700, 701, 702, 840, 841, 842, 843, 844, 845, 961, 962, 1025, 1026, 1028, 1029, 1030, 1031, 1032, 1034, 1036, 1037, 1038, 1043, 1044, 1045, 1047, 1049, 1051, 1052, 1053, 1054, 1082, 1084, 1086, 1088, 1090, 1115, 1117, 1119, 1121, 1124, 1126, 1128, 1130, 1132, 1133, 1134, 1136, 1140, 1142, 1168, 1187, 1189] [] c2 = some c3 := by kernel_rfl
end Go.Proofs.YtgpdibeippljdaaGreat.Jf
