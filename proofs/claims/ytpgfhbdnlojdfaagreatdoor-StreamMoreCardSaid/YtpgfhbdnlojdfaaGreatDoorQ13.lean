/- Packed by wip/tools/pack.py out of MTables. -/
import Derived.Test.YtpgfhbdnlojdfaaGreatDoorQ07
import Derived.Test.YtpgfhbdnlojdfaaGreatDoorQ12
namespace Go.Proofs.YtpgfhbdnlojdfaaGreatDoor.P
open Go.RowKit Go.Proofs.YtpgfhbdnlojdfaaGreatDoorW.PrintWords Go.Proofs.YtpgfhbdnlojdfaaGreatDoorW.PrintLast Go.Proofs.YtpgfhbdnlojdfaaGreatDoorW.PrintMore Go.Proofs.YtpgfhbdnlojdfaaGreatDoor.Lit
set_option linter.unusedVariables false
theorem reps_flat {α : Type} (R : α → List Value → Prop) {size : Nat} (enc : α → List Value) (hl : ∀ x, (enc x).length = size) (hR : ∀ x, R x (enc x)) : ∀ xs : List α, Reps R size xs (xs.flatMap enc)
  | [] => Reps.none _ _
  | x :: xs => by
    have h := Kd.reps_append (Reps.snoc (Reps.none R size) (hR x) (hl x)) (reps_flat R enc hl hR xs)
    simpa using h
theorem lit_R {α : Type} (d : Kd α) (W : World) (e : Nat) (xs : List α) (inner : List Value) (hrep : Reps (d.M W W.heap.size (fun _ => True)) d.sz xs inner) (hm : xs.length ≤ 9223372036854775807) :
    d.R e (W.alloc (.cells inner.toArray e)) W.heap.size (fun _ => True) (.slice (some ⟨W.heap.size, 0, none⟩) xs.length xs.length) xs := by
  refine ⟨fun _ _ => trivial, inner, ?_, ?_⟩
  · have h2 := World.ownsRow_lit (base := W.heap.size) (e := e) (size := d.sz) W inner.toArray xs.length (Nat.le_refl _) (by simpa [maxLen] using hm) (by simpa using hrep.1)
    simpa using h2
  · refine hrep.imp_ (fun p c hp => d.M_mono (fun k hk => ⟨trivial, fun he => ?_⟩) (Kd.M_below (d.M_bound hp) (below_alloc (Below.refl _ _) _)))
    have h3 : k = W.heap.size := by simpa [Value.ownBlock] using he
    have := hk.2.2.1
    omega
end Go.Proofs.YtpgfhbdnlojdfaaGreatDoor.P
