/- Packed by wip/tools/pack.py out of MRef, MSeq. -/
import Derived.Test.YtpgfhbdnlojdfaaGreatDoorQ25
import Derived.Test.YtpgfhbdnlojdfaaGreatDoorQ43
import Derived.Test.YtpgfhbdnlojdfaaGreatDoorQ44
import Derived.Test.YtpgfhbdnlojdfaaGreatDoorQ39
import Derived.Test.YtpgfhbdnlojdfaaGreatDoorQ22
namespace Go.Proofs.YtpgfhbdnlojdfaaGreatDoor.P
open Go.RowKit Go.Proofs.YtpgfhbdnlojdfaaGreatDoorW.PrintWords Go.Proofs.YtpgfhbdnlojdfaaGreatDoorW.PrintLast Go.Proofs.YtpgfhbdnlojdfaaGreatDoorW.PrintMore
set_option linter.unusedVariables false
def conv (c : Int) (x : S143) : S106 := ⟨c, x.f1, x.f2, x.f3, x.f4, x.f5, x.f6⟩
theorem bits_or32 (a b : Nat) (ha : a < 4294967296) (hb : b < 4294967296) : Go.bits .or .u32 (a : Int) (b : Int) = ((a ||| b : Nat) : Int) := by
  have hx : a ||| b < 2 ^ 32 := Nat.or_lt_two_pow (by omega) (by omega)
  have h1 : (BitVec.ofInt 32 (a : Int)).toNat = a := by
    rw [BitVec.ofInt_natCast, BitVec.toNat_ofNat]; exact Nat.mod_eq_of_lt (by omega)
  have h2 : (BitVec.ofInt 32 (b : Int)).toNat = b := by
    rw [BitVec.ofInt_natCast, BitVec.toNat_ofNat]; exact Nat.mod_eq_of_lt (by omega)
  show IntKind.u32.wrap ((BitVec.ofInt 32 (a : Int) ||| BitVec.ofInt 32 (b : Int)).toNat : Int) = _
  rw [BitVec.toNat_or, h1, h2, IntKind.wrap_u32]
  omega
theorem nstep_add (x b : Int) (hx : 0 ≤ x) (hb : 0 ≤ b ∧ b < 256) : nstep x b = (((x * 256) % 4294967296) + (b % 4294967296)) % 4294967296 := by
  unfold nstep
  obtain ⟨q, hq⟩ : ∃ q : Nat, (x * 256) % 4294967296 = ((q * 256 : Nat) : Int) ∧ q < 16777216 := ⟨((x * 256) % 4294967296 / 256).toNat, by omega, by omega⟩
  obtain ⟨c, rfl⟩ : ∃ c : Nat, b = (c : Int) := ⟨b.toNat, by omega⟩
  have hc : (c : Int) % 4294967296 = (c : Int) := by omega
  rw [hq.1, hc, bits_or32 _ _ (by omega) (by omega)]
  have h := Nat.shiftLeft_add_eq_or_of_lt (a := q) (b := c) (i := 8) (by omega)
  rw [Nat.shiftLeft_eq] at h
  rw [show (256 : Nat) = 2 ^ 8 from rfl, ← h]
  omega
end Go.Proofs.YtpgfhbdnlojdfaaGreatDoor.P
namespace Go.Proofs.YtpgfhbdnlojdfaaGreatDoor.P
open Go.RowKit Go.Proofs.YtpgfhbdnlojdfaaGreatDoorW.PrintWords Go.Proofs.YtpgfhbdnlojdfaaGreatDoorW.PrintLast Go.Proofs.YtpgfhbdnlojdfaaGreatDoorW.PrintMore
set_option linter.unusedVariables false
set_option linter.unusedSimpArgs false
def stream_Seq.f (a0 : Int) (l1 : List Int) (l2 : List S26) : Option (Int × Bool) :=
  (stream_is.f a0 l1 l2 13 18).bind fun b => if b = true then (if 4 ≤ l1.length ∧ l1.length ≤ 17592186044416 then some (numB (l1.take 4), true) else none) else some (0, false)
set_option maxHeartbeats 2000000 in
theorem stream_Seq.calls (a0_0 : Int) (A0_1 : Option Addr) (c0_1 : Nat) (l0_1 : List Int) (A0_2 : Option Addr) (c0_2 : Nat) (l0_2 : List S26) (r1 : Int) (r2 : Bool) (w : World) (hr0_1 : Kd.C (Kd.int .u8) w A0_1 l0_1.length l0_1) (hc0_1 : l0_1.length ≤ c0_1) (hr0_2 : Kd.C k26 w A0_2 l0_2.length l0_2) (hc0_2 : l0_2.length ≤ c0_2) (h : stream_Seq.f a0_0 l0_1 l0_2 = some (r1, r2)) :
    Calls Tryz.prog 10 #[.agg #[.int .u16 a0_0, .slice A0_1 l0_1.length c0_1, .slice A0_2 l0_2.length c0_2]] w fun e w' => e = .returned (.tuple #[.int .u32 r1, .bool r2]) ∧ Below w.heap.size w w' := by
  unfold stream_Seq.f at h
  obtain ⟨b, hb, h⟩ := Option.bind_eq_some_iff.mp h
  have HIS := Aside0.mk (fun W (hB : Below w.heap.size w W) => stream_is.calls a0_0 A0_1 c0_1 l0_1 A0_2 c0_2 l0_2 13 18 b W (Kd.C_below hr0_1 hB) hc0_1 (Kd.C_below hr0_2 hB) hc0_2 hb)
  have BK := Aside0.mk (heap_alloc_new w (.cells #[.int .u16 a0_0, .slice A0_1 l0_1.length c0_1, .slice A0_2 l0_2.length c0_2] 26))
  have HB := Aside0.mk ((Below.refl _ w).alloc (Nat.le_refl _) (.cells #[.int .u16 a0_0, .slice A0_1 l0_1.length c0_1, .slice A0_2 l0_2.length c0_2] 26))
  cases b with
  | false =>
    rw [if_neg (by simp)] at h
    have h := Option.some.inj h
    simp only [Prod.mk.injEq] at h
    obtain ⟨rfl, rfl⟩ := h
    clear hb hr0_1 hr0_2
    go_enter Tryz.func10, Tryz.ntmps10
    go_wp2_with (first | (go_at_call 30; refine (HIS.out _ HB.out).mono ?_; rintro e w1 ⟨rfl, hb⟩; have HB1 := Aside0.mk (HB.out.trans (hb.mono HB.out.size)); clear hb))
    go_ret2
    exact ⟨rfl, HB1.out⟩
  | true =>
    rw [if_pos rfl] at h
    by_cases h4 : 4 ≤ l0_1.length ∧ l0_1.length ≤ 17592186044416
    · rw [if_pos h4] at h
      have h := Option.some.inj h
      simp only [Prod.mk.injEq] at h
      obtain ⟨hv, rfl⟩ := h
      have HN := Aside0.mk (fun W (hB : Below w.heap.size w W) => New.any A0_1 c0_1 l0_1 W (Kd.C_below hr0_1 hB) hc0_1 h4.2)
      have HFU := Aside0.mk (fun g A c W (h : Cur W g A c l0_1 0) (hg : w.heap.size ≤ g) (hW : w.heap.size ≤ W.heap.size) => Number.full 4 (by omega) g A c l0_1 0 W h (by omega) w.heap.size hg hW)
      rw [List.drop_zero, hv] at HFU
      clear hb hr0_1 hr0_2 h4 hv
      go_enter Tryz.func10, Tryz.ntmps10
      go_wp2_with (first | (go_at_call 30; refine (HIS.out _ HB.out).mono ?_; rintro e w1 ⟨rfl, hb⟩; have HB1 := Aside0.mk (HB.out.trans (hb.mono HB.out.size)); have BK1 := Aside0.mk (blk_below BK.out hb); have q1 := (blk_cell BK1.out 1).trans (show _ = some (Value.slice A0_1 l0_1.length c0_1) from rfl); clear hb) | (go_at_call 31; refine (HN.out _ HB1.out).mono ?_; rintro e w2 ⟨g, A, c, rfl, hg, hcur, hb⟩; have HB2 := Aside0.mk (HB1.out.trans (hb.mono HB1.out.size)); have HC := Aside0.mk hcur; have HG := Aside0.mk (Nat.le_trans HB1.out.size hg); clear hb hcur hg) | (go_at_call 32; refine (HFU.out _ _ _ _ HC.out HG.out HB2.out.size).mono ?_; rintro e w3 ⟨rfl, hc, hb⟩; have HB3 := Aside0.mk hb; clear hb hc))
      go_ret2
      exact ⟨rfl, HB2.out.trans HB3.out⟩
    · rw [if_neg h4] at h; cases h
end Go.Proofs.YtpgfhbdnlojdfaaGreatDoor.P
