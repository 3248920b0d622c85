/- Packed by wip/tools/pack.py out of Fwharfref07Of. -/
import Derived.Test.YtpgfhbdnlojdfaaGreatDoorQ07
import Derived.Test.YtpgfhbdnlojdfaaGreatDoorQ13
namespace Go.Proofs.YtpgfhbdnlojdfaaGreatDoor.P
open Go.RowKit Go.Proofs.YtpgfhbdnlojdfaaGreatDoorW.PrintWords Go.Proofs.YtpgfhbdnlojdfaaGreatDoorW.PrintLast Go.Proofs.YtpgfhbdnlojdfaaGreatDoorW.PrintMore
attribute [local go_sem] max2_int min2_int max_two min_two max_three min_three max_four min_four
set_option linter.unusedVariables false
set_option linter.unusedSimpArgs false
end Go.Proofs.YtpgfhbdnlojdfaaGreatDoor.P
