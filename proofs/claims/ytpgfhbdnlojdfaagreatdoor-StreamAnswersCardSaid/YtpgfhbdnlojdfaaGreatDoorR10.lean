/- Packed by wip/tools/pack.py out of MTables, MForms. -/
import Derived.Maps.OwnSet
import Derived.Maps.Views
import Derived.Carry
import Derived.Test.YtpgfhbdnlojdfaaGreatDoorR07
import Derived.Test.YtpgfhbdnlojdfaaGreatDoorR09
namespace Go.Proofs.YtpgfhbdnlojdfaaGreatDoor.P
open Go.RowKit Go.Proofs.YtpgfhbdnlojdfaaGreatDoorW.PrintWords Go.Proofs.YtpgfhbdnlojdfaaGreatDoorW.PrintLast Go.Proofs.YtpgfhbdnlojdfaaGreatDoorW.PrintMore Go.Proofs.YtpgfhbdnlojdfaaGreatDoor.Lit
set_option linter.unusedVariables false
theorem reps_flat {α : Type} (R : α → List Value → Prop) {size : Nat} (enc : α → List Value) (hl : ∀ x, (enc x).length = size) (hR : ∀ x, R x (enc x)) : ∀ xs : List α, Reps R size xs (xs.flatMap enc)
  | [] => Reps.none _ _
  | x :: xs => by
    have h := Kd.reps_append (Reps.snoc (Reps.none R size) (hR x) (hl x)) (reps_flat R enc hl hR xs)
    simpa using h
theorem lit_R {α : Type} (d : Kd α) (W : World) (e : Nat) (xs : List α) (inner : List Value) (hrep : Reps (d.M W W.heap.size (fun _ => True)) d.sz xs inner) (hm : xs.length ≤ 9223372036854775807) :
    d.R e (W.alloc (.cells inner.toArray e)) W.heap.size (fun _ => True) (.slice (some ⟨W.heap.size, 0, none⟩) xs.length xs.length) xs := by
  refine ⟨fun _ _ => trivial, inner, ?_, ?_⟩
  · have h2 := World.ownsRow_lit (base := W.heap.size) (e := e) (size := d.sz) W inner.toArray xs.length (Nat.le_refl _) (by simpa [maxLen] using hm) (by simpa using hrep.1)
    simpa using h2
  · refine hrep.imp_ (fun p c hp => d.M_mono (fun k hk => ⟨trivial, fun he => ?_⟩) (Kd.M_below (d.M_bound hp) (below_alloc (Below.refl _ _) _)))
    have h3 : k = W.heap.size := by simpa [Value.ownBlock] using he
    have := hk.2.2.1
    omega
def wharfref07_Table.tab : List S106 := [⟨1, 1, (⟨#[104, 101, 97, 114, 116, 98, 101, 97, 116, 45, 105, 110, 102, 111]⟩ : ByteArray), 0, 65531, 1, 0⟩,
  ⟨1, 5, (⟨#[105, 112, 118, 52]⟩ : ByteArray), 4, 4, 1, 0⟩,
  ⟨1, 6, (⟨#[105, 112, 118, 54]⟩ : ByteArray), 16, 16, 1, 0⟩,
  ⟨1, 7, (⟨#[115, 116, 97, 116, 101, 45, 99, 111, 111, 107, 105, 101]⟩ : ByteArray), 0, 65531, 1, 0⟩,
  ⟨1, 8, (⟨#[117, 110, 114, 101, 99, 111, 103, 110, 105, 122, 101, 100]⟩ : ByteArray), 0, 0, 1, 1⟩,
  ⟨1, 9, (⟨#[99, 111, 111, 107, 105, 101, 45, 112, 114, 101, 115, 101, 114, 118, 97, 116, 105, 118, 101]⟩ : ByteArray), 4, 4, 1, 0⟩,
  ⟨1, 11, (⟨#[104, 111, 115, 116, 45, 110, 97, 109, 101]⟩ : ByteArray), 1, 65531, 1, 0⟩,
  ⟨1, 12, (⟨#[97, 100, 100, 114, 101, 115, 115, 45, 116, 121, 112, 101, 115]⟩ : ByteArray), 2, 65531, 2, 0⟩,
  ⟨1, 13, (⟨#[111, 117, 116, 103, 111, 105, 110, 103, 45, 114, 101, 115, 101, 116]⟩ : ByteArray), 12, 65531, 2, 0⟩,
  ⟨1, 14, (⟨#[105, 110, 99, 111, 109, 105, 110, 103, 45, 114, 101, 115, 101, 116]⟩ : ByteArray), 4, 65531, 2, 0⟩,
  ⟨1, 15, (⟨#[116, 115, 110, 45, 114, 101, 115, 101, 116]⟩ : ByteArray), 4, 4, 1, 0⟩,
  ⟨1, 16, (⟨#[114, 101, 99, 111, 110, 102, 105, 103, 45, 114, 101, 115, 112, 111, 110, 115, 101]⟩ : ByteArray), 8, 16, 8, 0⟩,
  ⟨1, 17, (⟨#[97, 100, 100, 45, 111, 117, 116, 103, 111, 105, 110, 103]⟩ : ByteArray), 8, 8, 1, 0⟩,
  ⟨1, 18, (⟨#[97, 100, 100, 45, 105, 110, 99, 111, 109, 105, 110, 103]⟩ : ByteArray), 8, 8, 1, 0⟩,
  ⟨1, 32768, (⟨#[101, 99, 110]⟩ : ByteArray), 0, 0, 1, 0⟩,
  ⟨1, 32770, (⟨#[114, 97, 110, 100, 111, 109]⟩ : ByteArray), 1, 65531, 1, 0⟩,
  ⟨1, 32771, (⟨#[99, 104, 117, 110, 107, 45, 108, 105, 115, 116]⟩ : ByteArray), 0, 65531, 1, 0⟩,
  ⟨1, 32772, (⟨#[104, 109, 97, 99, 45, 97, 108, 103, 111, 114, 105, 116, 104, 109, 115]⟩ : ByteArray), 2, 65531, 2, 0⟩,
  ⟨1, 32773, (⟨#[112, 97, 100, 100, 105, 110, 103]⟩ : ByteArray), 0, 65531, 1, 0⟩,
  ⟨1, 32776, (⟨#[101, 120, 116, 101, 110, 115, 105, 111, 110, 115]⟩ : ByteArray), 0, 65531, 1, 0⟩,
  ⟨1, 49152, (⟨#[102, 111, 114, 119, 97, 114, 100, 45, 116, 115, 110]⟩ : ByteArray), 0, 0, 1, 0⟩,
  ⟨1, 49153, (⟨#[97, 100, 100, 45, 105, 112]⟩ : ByteArray), 4, 4, 1, 4⟩,
  ⟨1, 49154, (⟨#[100, 101, 108, 101, 116, 101, 45, 105, 112]⟩ : ByteArray), 4, 4, 1, 4⟩,
  ⟨1, 49155, (⟨#[101, 114, 114, 111, 114, 45, 105, 110, 100, 105, 99, 97, 116, 105, 111, 110]⟩ : ByteArray), 4, 4, 1, 3⟩,
  ⟨1, 49156, (⟨#[115, 101, 116, 45, 112, 114, 105, 109, 97, 114, 121]⟩ : ByteArray), 4, 4, 1, 4⟩,
  ⟨1, 49157, (⟨#[115, 117, 99, 99, 101, 115, 115]⟩ : ByteArray), 4, 4, 1, 0⟩,
  ⟨1, 49158, (⟨#[97, 100, 97, 112, 116, 97, 116, 105, 111, 110]⟩ : ByteArray), 4, 4, 1, 0⟩,
  ⟨2, 1, (⟨#[105, 110, 118, 97, 108, 105, 100, 45, 115, 116, 114, 101, 97, 109]⟩ : ByteArray), 4, 4, 1, 0⟩,
  ⟨2, 2, (⟨#[109, 105, 115, 115, 105, 110, 103, 45, 112, 97, 114, 97, 109, 101, 116, 101, 114]⟩ : ByteArray), 6, 65531, 2, 0⟩,
  ⟨2, 3, (⟨#[115, 116, 97, 108, 101, 45, 99, 111, 111, 107, 105, 101]⟩ : ByteArray), 4, 4, 1, 0⟩,
  ⟨2, 4, (⟨#[111, 117, 116, 45, 111, 102, 45, 114, 101, 115, 111, 117, 114, 99, 101]⟩ : ByteArray), 0, 0, 1, 0⟩,
  ⟨2, 5, (⟨#[117, 110, 114, 101, 115, 111, 108, 118, 97, 98, 108, 101, 45, 97, 100, 100, 114, 101, 115, 115]⟩ : ByteArray), 0, 0, 1, 1⟩,
  ⟨2, 6, (⟨#[117, 110, 114, 101, 99, 111, 103, 110, 105, 122, 101, 100, 45, 99, 104, 117, 110, 107]⟩ : ByteArray), 4, 65531, 1, 0⟩,
  ⟨2, 7, (⟨#[105, 110, 118, 97, 108, 105, 100, 45, 112, 97, 114, 97, 109, 101, 116, 101, 114]⟩ : ByteArray), 0, 0, 1, 0⟩,
  ⟨2, 8, (⟨#[117, 110, 114, 101, 99, 111, 103, 110, 105, 122, 101, 100, 45, 112, 97, 114, 97, 109, 101, 116, 101, 114, 115]⟩ : ByteArray), 0, 0, 1, 2⟩,
  ⟨2, 9, (⟨#[110, 111, 45, 117, 115, 101, 114, 45, 100, 97, 116, 97]⟩ : ByteArray), 4, 4, 1, 0⟩,
  ⟨2, 10, (⟨#[99, 111, 111, 107, 105, 101, 45, 119, 104, 105, 108, 101, 45, 115, 104, 117, 116, 116, 105, 110, 103, 45, 100, 111, 119, 110]⟩ : ByteArray), 0, 0, 1, 0⟩,
  ⟨2, 11, (⟨#[114, 101, 115, 116, 97, 114, 116]⟩ : ByteArray), 0, 0, 1, 2⟩,
  ⟨2, 12, (⟨#[117, 115, 101, 114, 45, 97, 98, 111, 114, 116]⟩ : ByteArray), 0, 65531, 1, 0⟩,
  ⟨2, 13, (⟨#[112, 114, 111, 116, 111, 99, 111, 108, 45, 118, 105, 111, 108, 97, 116, 105, 111, 110]⟩ : ByteArray), 0, 65531, 1, 0⟩,
  ⟨2, 160, (⟨#[100, 101, 108, 101, 116, 101, 45, 108, 97, 115, 116, 45, 97, 100, 100, 114, 101, 115, 115]⟩ : ByteArray), 0, 0, 1, 1⟩,
  ⟨2, 161, (⟨#[114, 101, 115, 111, 117, 114, 99, 101, 45, 115, 104, 111, 114, 116, 97, 103, 101]⟩ : ByteArray), 0, 65531, 1, 0⟩,
  ⟨2, 162, (⟨#[100, 101, 108, 101, 116, 101, 45, 115, 111, 117, 114, 99, 101, 45, 97, 100, 100, 114, 101, 115, 115]⟩ : ByteArray), 0, 0, 1, 1⟩,
  ⟨2, 163, (⟨#[105, 108, 108, 101, 103, 97, 108, 45, 97, 115, 99, 111, 110, 102, 45, 97, 99, 107]⟩ : ByteArray), 0, 65531, 1, 0⟩,
  ⟨2, 164, (⟨#[110, 111, 45, 97, 117, 116, 104, 111, 114, 105, 122, 97, 116, 105, 111, 110]⟩ : ByteArray), 0, 65531, 1, 0⟩,
  ⟨2, 261, (⟨#[117, 110, 115, 117, 112, 112, 111, 114, 116, 101, 100, 45, 104, 109, 97, 99]⟩ : ByteArray), 2, 2, 1, 0⟩]
def wharfref07_Table.f : Option (List S106) := some wharfref07_Table.tab
def enc106 (x : S106) : List Value := [.int .i64 x.f0, .int .u16 x.f1, .string x.f2, .int .i64 x.f3, .int .i64 x.f4, .int .i64 x.f5, .int .i64 x.f6]
theorem wharfref07_Table.any (w : World) : Calls Tryz.prog 95 #[] w fun e w' => e = .returned (.slice (some ⟨w.heap.size, 0, none⟩) wharfref07_Table.tab.length wharfref07_Table.tab.length) ∧ w' = w.alloc (.cells (wharfref07_Table.tab.flatMap enc106).toArray 106) := by
  have h := calls_lit (P := Tryz.prog) (w := w) (v := .slice (some ⟨w.heap.size, 0, none⟩) wharfref07_Table.tab.length wharfref07_Table.tab.length) (objs := #[.cells (wharfref07_Table.tab.flatMap enc106).toArray 106]) Tryz.func95 rfl rfl (by kernel_rfl)
  rw [grow_one] at h
  exact h
theorem wharfref07_Table.calls (r : List S106) (w : World) (h : wharfref07_Table.f = some r) :
    Calls Tryz.prog 95 #[] w fun e w' => ∃ v0_ : Value, e = .returned (v0_) ∧ Kd.R k106 106 w' w.heap.size (fun _ => True) v0_ r ∧ Below w.heap.size w w' := by
  obtain rfl := Option.some.inj h
  refine (wharfref07_Table.any w).mono ?_
  rintro e w' ⟨rfl, rfl⟩
  exact ⟨_, rfl, lit_R k106 w 106 _ _ (reps_flat (size := k106.sz) _ enc106 (fun _ => rfl) (fun x => k106_mkM _ _ _ x) _) (by decide), (Below.refl _ w).alloc (Nat.le_refl _) _⟩
end Go.Proofs.YtpgfhbdnlojdfaaGreatDoor.P
namespace Go.Proofs.YtpgfhbdnlojdfaaGreatDoor.P
open Go.RowKit Go.Proofs.YtpgfhbdnlojdfaaGreatDoorW.PrintWords Go.Proofs.YtpgfhbdnlojdfaaGreatDoorW.PrintLast Go.Proofs.YtpgfhbdnlojdfaaGreatDoorW.PrintMore Go.Proofs.YtpgfhbdnlojdfaaGreatDoor.Lit
set_option linter.unusedVariables false
set_option linter.unusedSimpArgs false
def tabP : List S143 := [⟨0, 1, (⟨#[104, 101, 97, 114, 116, 98, 101, 97, 116, 45, 105, 110, 102, 111]⟩ : ByteArray), 0, 65531, 1, 0⟩,
  ⟨0, 5, (⟨#[105, 112, 118, 52]⟩ : ByteArray), 4, 4, 1, 0⟩,
  ⟨0, 6, (⟨#[105, 112, 118, 54]⟩ : ByteArray), 16, 16, 1, 0⟩,
  ⟨0, 7, (⟨#[115, 116, 97, 116, 101, 45, 99, 111, 111, 107, 105, 101]⟩ : ByteArray), 0, 65531, 1, 0⟩,
  ⟨0, 8, (⟨#[117, 110, 114, 101, 99, 111, 103, 110, 105, 122, 101, 100]⟩ : ByteArray), 0, 0, 1, 1⟩,
  ⟨0, 9, (⟨#[99, 111, 111, 107, 105, 101, 45, 112, 114, 101, 115, 101, 114, 118, 97, 116, 105, 118, 101]⟩ : ByteArray), 4, 4, 1, 0⟩,
  ⟨0, 11, (⟨#[104, 111, 115, 116, 45, 110, 97, 109, 101]⟩ : ByteArray), 1, 65531, 1, 0⟩,
  ⟨0, 12, (⟨#[97, 100, 100, 114, 101, 115, 115, 45, 116, 121, 112, 101, 115]⟩ : ByteArray), 2, 65531, 2, 0⟩,
  ⟨0, 13, (⟨#[111, 117, 116, 103, 111, 105, 110, 103, 45, 114, 101, 115, 101, 116]⟩ : ByteArray), 12, 65531, 2, 0⟩,
  ⟨0, 14, (⟨#[105, 110, 99, 111, 109, 105, 110, 103, 45, 114, 101, 115, 101, 116]⟩ : ByteArray), 4, 65531, 2, 0⟩,
  ⟨0, 15, (⟨#[116, 115, 110, 45, 114, 101, 115, 101, 116]⟩ : ByteArray), 4, 4, 1, 0⟩,
  ⟨0, 16, (⟨#[114, 101, 99, 111, 110, 102, 105, 103, 45, 114, 101, 115, 112, 111, 110, 115, 101]⟩ : ByteArray), 8, 16, 8, 0⟩,
  ⟨0, 17, (⟨#[97, 100, 100, 45, 111, 117, 116, 103, 111, 105, 110, 103]⟩ : ByteArray), 8, 8, 1, 0⟩,
  ⟨0, 18, (⟨#[97, 100, 100, 45, 105, 110, 99, 111, 109, 105, 110, 103]⟩ : ByteArray), 8, 8, 1, 0⟩,
  ⟨0, 32768, (⟨#[101, 99, 110]⟩ : ByteArray), 0, 0, 1, 0⟩,
  ⟨0, 32770, (⟨#[114, 97, 110, 100, 111, 109]⟩ : ByteArray), 1, 65531, 1, 0⟩,
  ⟨0, 32771, (⟨#[99, 104, 117, 110, 107, 45, 108, 105, 115, 116]⟩ : ByteArray), 0, 65531, 1, 0⟩,
  ⟨0, 32772, (⟨#[104, 109, 97, 99, 45, 97, 108, 103, 111, 114, 105, 116, 104, 109, 115]⟩ : ByteArray), 2, 65531, 2, 0⟩,
  ⟨0, 32773, (⟨#[112, 97, 100, 100, 105, 110, 103]⟩ : ByteArray), 0, 65531, 1, 0⟩,
  ⟨0, 32776, (⟨#[101, 120, 116, 101, 110, 115, 105, 111, 110, 115]⟩ : ByteArray), 0, 65531, 1, 0⟩,
  ⟨0, 49152, (⟨#[102, 111, 114, 119, 97, 114, 100, 45, 116, 115, 110]⟩ : ByteArray), 0, 0, 1, 0⟩,
  ⟨0, 49153, (⟨#[97, 100, 100, 45, 105, 112]⟩ : ByteArray), 4, 4, 1, 4⟩,
  ⟨0, 49154, (⟨#[100, 101, 108, 101, 116, 101, 45, 105, 112]⟩ : ByteArray), 4, 4, 1, 4⟩,
  ⟨0, 49155, (⟨#[101, 114, 114, 111, 114, 45, 105, 110, 100, 105, 99, 97, 116, 105, 111, 110]⟩ : ByteArray), 4, 4, 1, 3⟩,
  ⟨0, 49156, (⟨#[115, 101, 116, 45, 112, 114, 105, 109, 97, 114, 121]⟩ : ByteArray), 4, 4, 1, 4⟩,
  ⟨0, 49157, (⟨#[115, 117, 99, 99, 101, 115, 115]⟩ : ByteArray), 4, 4, 1, 0⟩,
  ⟨0, 49158, (⟨#[97, 100, 97, 112, 116, 97, 116, 105, 111, 110]⟩ : ByteArray), 4, 4, 1, 0⟩]
def tabC : List S143 := [⟨0, 1, (⟨#[105, 110, 118, 97, 108, 105, 100, 45, 115, 116, 114, 101, 97, 109]⟩ : ByteArray), 4, 4, 1, 0⟩,
  ⟨0, 2, (⟨#[109, 105, 115, 115, 105, 110, 103, 45, 112, 97, 114, 97, 109, 101, 116, 101, 114]⟩ : ByteArray), 6, 65531, 2, 0⟩,
  ⟨0, 3, (⟨#[115, 116, 97, 108, 101, 45, 99, 111, 111, 107, 105, 101]⟩ : ByteArray), 4, 4, 1, 0⟩,
  ⟨0, 4, (⟨#[111, 117, 116, 45, 111, 102, 45, 114, 101, 115, 111, 117, 114, 99, 101]⟩ : ByteArray), 0, 0, 1, 0⟩,
  ⟨0, 5, (⟨#[117, 110, 114, 101, 115, 111, 108, 118, 97, 98, 108, 101, 45, 97, 100, 100, 114, 101, 115, 115]⟩ : ByteArray), 0, 0, 1, 1⟩,
  ⟨0, 6, (⟨#[117, 110, 114, 101, 99, 111, 103, 110, 105, 122, 101, 100, 45, 99, 104, 117, 110, 107]⟩ : ByteArray), 4, 65531, 1, 0⟩,
  ⟨0, 7, (⟨#[105, 110, 118, 97, 108, 105, 100, 45, 112, 97, 114, 97, 109, 101, 116, 101, 114]⟩ : ByteArray), 0, 0, 1, 0⟩,
  ⟨0, 8, (⟨#[117, 110, 114, 101, 99, 111, 103, 110, 105, 122, 101, 100, 45, 112, 97, 114, 97, 109, 101, 116, 101, 114, 115]⟩ : ByteArray), 0, 0, 1, 2⟩,
  ⟨0, 9, (⟨#[110, 111, 45, 117, 115, 101, 114, 45, 100, 97, 116, 97]⟩ : ByteArray), 4, 4, 1, 0⟩,
  ⟨0, 10, (⟨#[99, 111, 111, 107, 105, 101, 45, 119, 104, 105, 108, 101, 45, 115, 104, 117, 116, 116, 105, 110, 103, 45, 100, 111, 119, 110]⟩ : ByteArray), 0, 0, 1, 0⟩,
  ⟨0, 11, (⟨#[114, 101, 115, 116, 97, 114, 116]⟩ : ByteArray), 0, 0, 1, 2⟩,
  ⟨0, 12, (⟨#[117, 115, 101, 114, 45, 97, 98, 111, 114, 116]⟩ : ByteArray), 0, 65531, 1, 0⟩,
  ⟨0, 13, (⟨#[112, 114, 111, 116, 111, 99, 111, 108, 45, 118, 105, 111, 108, 97, 116, 105, 111, 110]⟩ : ByteArray), 0, 65531, 1, 0⟩,
  ⟨0, 160, (⟨#[100, 101, 108, 101, 116, 101, 45, 108, 97, 115, 116, 45, 97, 100, 100, 114, 101, 115, 115]⟩ : ByteArray), 0, 0, 1, 1⟩,
  ⟨0, 161, (⟨#[114, 101, 115, 111, 117, 114, 99, 101, 45, 115, 104, 111, 114, 116, 97, 103, 101]⟩ : ByteArray), 0, 65531, 1, 0⟩,
  ⟨0, 162, (⟨#[100, 101, 108, 101, 116, 101, 45, 115, 111, 117, 114, 99, 101, 45, 97, 100, 100, 114, 101, 115, 115]⟩ : ByteArray), 0, 0, 1, 1⟩,
  ⟨0, 163, (⟨#[105, 108, 108, 101, 103, 97, 108, 45, 97, 115, 99, 111, 110, 102, 45, 97, 99, 107]⟩ : ByteArray), 0, 65531, 1, 0⟩,
  ⟨0, 164, (⟨#[110, 111, 45, 97, 117, 116, 104, 111, 114, 105, 122, 97, 116, 105, 111, 110]⟩ : ByteArray), 0, 65531, 1, 0⟩,
  ⟨0, 261, (⟨#[117, 110, 115, 117, 112, 112, 111, 114, 116, 101, 100, 45, 104, 109, 97, 99]⟩ : ByteArray), 2, 2, 1, 0⟩]
def enc143 (x : S143) : List Value := [.int .i64 x.f0, .int .u16 x.f1, .string x.f2, .int .i64 x.f3, .int .i64 x.f4, .int .i64 x.f5, .int .i64 x.f6]
theorem table.any (w : World) : Calls Tryz.prog 116 #[] w fun e w' => ∃ g1 g2, e = .returned (.agg #[.slice none 0 0, .slice (some ⟨g1, 0, none⟩) tabP.length tabP.length, .slice (some ⟨g2, 0, none⟩) tabC.length tabC.length]) ∧
    Kd.C k143 w' (some ⟨g1, 0, none⟩) tabP.length tabP ∧ Kd.C k143 w' (some ⟨g2, 0, none⟩) tabC.length tabC ∧ Below w.heap.size w w' := by
  have h := calls_lit_cell (P := Tryz.prog) (w := w) (u := 0) (i := 0) (cs := #[.slice none 0 0, .slice (some ⟨w.heap.size + 1, 0, none⟩) tabP.length tabP.length, .slice (some ⟨w.heap.size + 2, 0, none⟩) tabC.length tabC.length]) (t := 188)
    (objs := #[.cells #[.slice none 0 0, .slice (some ⟨w.heap.size + 1, 0, none⟩) tabP.length tabP.length, .slice (some ⟨w.heap.size + 2, 0, none⟩) tabC.length tabC.length] 188, .cells (tabP.flatMap enc143).toArray 143, .cells (tabC.flatMap enc143).toArray 143])
    Tryz.func116 rfl rfl (by kernel_rfl) rfl Tryz.underlying188 rfl (by kernel_rfl)
  refine h.mono ?_
  rintro e w' ⟨rfl, rfl⟩
  obtain ⟨o0, h0⟩ : ∃ o0 : Obj, o0 = .cells #[.slice none 0 0, .slice (some ⟨w.heap.size + 1, 0, none⟩) tabP.length tabP.length, .slice (some ⟨w.heap.size + 2, 0, none⟩) tabC.length tabC.length] 188 := ⟨_, rfl⟩
  rw [← h0]
  rw [show (#[o0, .cells (tabP.flatMap enc143).toArray 143, .cells (tabC.flatMap enc143).toArray 143] : Array Obj) = ((#[o0].push (.cells (tabP.flatMap enc143).toArray 143)).push (.cells (tabC.flatMap enc143).toArray 143)) from rfl, ← grow_push, ← grow_push, grow_one]
  have r1 := lit_R k143 (w.alloc o0) 143 tabP _ (reps_flat (size := k143.sz) _ enc143 (fun _ => rfl) (fun x => k143_mkM _ _ _ x) tabP) (by decide)
  have r2 := lit_R k143 ((w.alloc o0).alloc (.cells (tabP.flatMap enc143).toArray 143)) 143 tabC _ (reps_flat (size := k143.sz) _ enc143 (fun _ => rfl) (fun x => k143_mkM _ _ _ x) tabC) (by decide)
  have c1 := (Kd.R_reads' r1).2.2
  have c2 := (Kd.R_reads' r2).2.2
  simp only [World.size_alloc] at c1 c2
  exact ⟨w.heap.size + 1, w.heap.size + 2, rfl, Kd.C_alloc c1 _, c2, (((Below.refl _ w).alloc (Nat.le_refl _) _).alloc (by simp) _).alloc (by simp; omega) _⟩
end Go.Proofs.YtpgfhbdnlojdfaaGreatDoor.P
