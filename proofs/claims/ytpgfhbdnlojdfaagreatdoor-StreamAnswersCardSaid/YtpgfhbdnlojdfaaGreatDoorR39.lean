/- Packed by wip/tools/pack.py out of MLaid. -/
import Derived.Test.YtpgfhbdnlojdfaaGreatDoorR07
namespace Go.Proofs.YtpgfhbdnlojdfaaGreatDoor.P
open Go.RowKit Go.Proofs.YtpgfhbdnlojdfaaGreatDoorW.PrintWords Go.Proofs.YtpgfhbdnlojdfaaGreatDoorW.PrintLast Go.Proofs.YtpgfhbdnlojdfaaGreatDoorW.PrintMore
set_option linter.unusedVariables false
def kTab : List S94 := [⟨0, (⟨#[100, 97, 116, 97]⟩ : ByteArray), 15, 13, 65531, 1, 0⟩,
  ⟨1, (⟨#[105, 110, 105, 116]⟩ : ByteArray), 0, 16, 16, 1, 2⟩,
  ⟨2, (⟨#[105, 110, 105, 116, 45, 97, 99, 107]⟩ : ByteArray), 0, 16, 16, 1, 2⟩,
  ⟨3, (⟨#[115, 97, 99, 107]⟩ : ByteArray), 0, 12, 65531, 4, 0⟩,
  ⟨4, (⟨#[104, 101, 97, 114, 116, 98, 101, 97, 116]⟩ : ByteArray), 0, 0, 0, 1, 1⟩,
  ⟨5, (⟨#[104, 101, 97, 114, 116, 98, 101, 97, 116, 45, 97, 99, 107]⟩ : ByteArray), 0, 0, 0, 1, 1⟩,
  ⟨6, (⟨#[97, 98, 111, 114, 116]⟩ : ByteArray), 1, 0, 0, 1, 3⟩,
  ⟨7, (⟨#[115, 104, 117, 116, 100, 111, 119, 110]⟩ : ByteArray), 0, 4, 4, 1, 0⟩,
  ⟨8, (⟨#[115, 104, 117, 116, 100, 111, 119, 110, 45, 97, 99, 107]⟩ : ByteArray), 0, 0, 0, 1, 0⟩,
  ⟨9, (⟨#[101, 114, 114, 111, 114]⟩ : ByteArray), 0, 0, 0, 1, 4⟩,
  ⟨10, (⟨#[99, 111, 111, 107, 105, 101, 45, 101, 99, 104, 111]⟩ : ByteArray), 0, 1, 65531, 1, 0⟩,
  ⟨11, (⟨#[99, 111, 111, 107, 105, 101, 45, 97, 99, 107]⟩ : ByteArray), 0, 0, 0, 1, 0⟩,
  ⟨12, (⟨#[101, 99, 110, 101]⟩ : ByteArray), 0, 4, 4, 1, 0⟩,
  ⟨13, (⟨#[99, 119, 114]⟩ : ByteArray), 0, 4, 4, 1, 0⟩,
  ⟨14, (⟨#[115, 104, 117, 116, 100, 111, 119, 110, 45, 99, 111, 109, 112, 108, 101, 116, 101]⟩ : ByteArray), 1, 0, 0, 1, 0⟩,
  ⟨15, (⟨#[97, 117, 116, 104]⟩ : ByteArray), 0, 5, 65531, 1, 0⟩,
  ⟨64, (⟨#[105, 45, 100, 97, 116, 97]⟩ : ByteArray), 15, 17, 65531, 1, 0⟩,
  ⟨128, (⟨#[97, 115, 99, 111, 110, 102, 45, 97, 99, 107]⟩ : ByteArray), 0, 4, 4, 1, 2⟩,
  ⟨130, (⟨#[114, 101, 45, 99, 111, 110, 102, 105, 103]⟩ : ByteArray), 0, 0, 0, 1, 5⟩,
  ⟨132, (⟨#[112, 97, 100]⟩ : ByteArray), 0, 0, 65531, 1, 0⟩,
  ⟨192, (⟨#[102, 111, 114, 119, 97, 114, 100, 45, 116, 115, 110]⟩ : ByteArray), 0, 4, 65531, 4, 0⟩,
  ⟨193, (⟨#[97, 115, 99, 111, 110, 102]⟩ : ByteArray), 0, 4, 4, 1, 6⟩,
  ⟨194, (⟨#[105, 45, 102, 111, 114, 119, 97, 114, 100, 45, 116, 115, 110]⟩ : ByteArray), 0, 4, 65531, 8, 0⟩]
def kIns : List Int := [0, 0, 0, 1, 1, 1, 1, 0, 16384, 2, 0, 16384, 2, 1, 16384, 1, 1, 2, 1, 2, 16384]
structure Laid (w : World) : Prop where
  tab : Kd.C k94 w (some ⟨0, 0, none⟩) kTab.length kTab
  ins : Kd.C (Kd.int .i64) w (some ⟨1, 0, none⟩) kIns.length kIns
  err : w.cell? ⟨2, 0, none⟩ = some (.iface 172 (.agg #[.pointer (some ⟨3, 65, none⟩)]))
theorem Laid.below {w w' : World} (h : Laid w) (hb : Below w.heap.size w w') : Laid w' := ⟨Kd.C_below h.tab hb, Kd.C_below h.ins hb, cell_up hb h.err⟩
end Go.Proofs.YtpgfhbdnlojdfaaGreatDoor.P
