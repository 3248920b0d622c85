/- Packed by wip/tools/pack.py out of Fwharfref08Same. -/
import Derived.Test.YtpgfhbdnlojdfaaGreatDoorR07
import Derived.Test.YtpgfhbdnlojdfaaGreatDoorR37
import Derived.Test.YtpgfhbdnlojdfaaGreatDoorR47
import Derived.Test.YtpgfhbdnlojdfaaGreatDoorR31
import Derived.Test.YtpgfhbdnlojdfaaGreatDoorR33
namespace Go.Proofs.YtpgfhbdnlojdfaaGreatDoor.P
open Go.RowKit Go.Proofs.YtpgfhbdnlojdfaaGreatDoorW.PrintWords Go.Proofs.YtpgfhbdnlojdfaaGreatDoorW.PrintLast Go.Proofs.YtpgfhbdnlojdfaaGreatDoorW.PrintMore
attribute [local go_sem] max2_int min2_int max_two min_two max_three min_three max_four min_four
set_option linter.unusedVariables false
set_option linter.unusedSimpArgs false
mutual
def wharfref08_Same.l0 : Nat → List (S26) → List (S26) → Int → Option (Bool)
  | 0, _, _, _ => none
  | k + 1, x0, x1, x5 => if x5 < (x0.length : Int) then (if 0 ≤ x5 then (if x5 < (x1.length : Int) then (if ((rd_T26 x0 x5).f0) = ((rd_T26 x1 x5).f0) then ((wharfref01_Same.f k ((rd_T26 x0 x5).f1) ((rd_T26 x1 x5).f1)).bind fun t410 => (if t410 = true then ((wharfref08_Same.f k ((rd_T26 x0 x5).f2) ((rd_T26 x1 x5).f2)).bind fun t413 => (if t413 = true then (wharfref08_Same.l0 k x0 x1 (wrap64 (x5 + 1))) else (some false))) else (some false))) else (some false)) else (none)) else (none)) else (some true)
def wharfref08_Same.f : Nat → List (S26) → List (S26) → Option (Bool)
  | 0, _, _ => none
  | k + 1, l0, l1 => if (l0.length : Int) = (l1.length : Int) then (wharfref08_Same.l0 k l0 l1 0) else (some false)
end
end Go.Proofs.YtpgfhbdnlojdfaaGreatDoor.P
