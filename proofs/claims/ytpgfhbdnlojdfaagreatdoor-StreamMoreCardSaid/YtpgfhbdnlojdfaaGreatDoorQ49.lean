/- Packed by wip/tools/pack.py out of MAwake, MLawMore. -/
import Derived.Deep.RegionHeld3
import Derived.Test.YtpgfhbdnlojdfaaGreatDoorQ39
import Derived.Test.YtpgfhbdnlojdfaaGreatDoorQ40
import Derived.Test.YtpgfhbdnlojdfaaGreatDoorQ41
import Derived.Test.YtpgfhbdnlojdfaaGreatDoorQ47
import Derived.Test.YtpgfhbdnlojdfaaGreatDoorQ48
import Derived.Test.YtpgfhbdnlojdfaaGreatDoorQ32
import Derived.Test.YtpgfhbdnlojdfaaGreatDoorQ31
import Derived.Test.YtpgfhbdnlojdfaaGreatDoorQ27
import Derived.Test.YtpgfhbdnlojdfaaGreatDoorQ46
namespace Go.Proofs.YtpgfhbdnlojdfaaGreatDoor.P
open Go.RowKit Go.Proofs.YtpgfhbdnlojdfaaGreatDoorW.PrintWords Go.Proofs.YtpgfhbdnlojdfaaGreatDoorW.PrintLast Go.Proofs.YtpgfhbdnlojdfaaGreatDoorW.PrintMore
set_option linter.unusedVariables false
set_option linter.unusedSimpArgs false
def nD : List Int := [0,0,0,7,0,0,0,8,0,0,0,9,0,1,0,2]
def aD : List Int := [0,0,0,7,0,0,0,0]
theorem aw1 : stream_Outgoing.f 100 7 8 9 [1,2] = some (13, nD, [], true) := by kernel_rfl
theorem aw2 : stream_Seq.f 13 nD [] = some (7, true) := by kernel_rfl
theorem aw3 : stream_More.f 100 16 1 1 = some (0, [], [], false) := by kernel_rfl
theorem aw4 : stream_Response.f 100 7 0 [] = some (16, aD, [], true) := by kernel_rfl
theorem aw5 : stream_Make.f [⟨13, nD, []⟩] = some (130, 0, [], [⟨13, nD, []⟩], true) := by kernel_rfl
theorem aw6 : stream_Reset.f 100 258 = some (15, [0,0,1,2], []) := by kernel_rfl
theorem aw7 : stream_Streams.f 100 13 nD [] = some [1,2] := by kernel_rfl
theorem aw8 : stream_Answers.f 13 nD [] 16 aD [] = some true := by kernel_rfl
theorem aw9 : stream_Answers.f 16 aD [] 13 nD [] = some false := by kernel_rfl
theorem aw10 : wharfref01_Same.f 100 [0,0,1,2] [0,0,1,2] = some true := by kernel_rfl
theorem aw11 : wharfref17_Equal.f 100 [1,2] [1,2] = some true := by kernel_rfl
theorem C_nil {α : Type} (d : Kd α) (W : World) (A : Option Addr) : Kd.C d W A ([] : List α).length [] := ⟨rfl, by simp, fun h => absurd h (by simp)⟩
theorem nodeField1 (x : Int) (A1 : Option Addr) (n1 c1 : Nat) (A2 : Option Addr) (n2 c2 : Nat) (W : World) : (Instr.field 26 (.agg #[.int .u16 x, .slice A1 n1 c1, .slice A2 n2 c2]) 1).run Tryz.prog W = .ok (.slice A1 n1 c1) W := by kernel_rfl
theorem C8 (W : World) (g : Nat) (xs : List Int) (h0 : 0 < xs.length) (hs : xs.length ≤ 1000) (h : W.heap[g]? = some (.cells (xs.map (Value.int .u8)).toArray 5 (0, 0))) : Kd.C (Kd.int .u8) W (some ⟨g, 0, none⟩) xs.length xs := by
  have hcell : ∀ j (hj : j < xs.length), W.cell? ((⟨g, 0, none⟩ : Addr).add j) = some (.int .u8 xs[j]) := fun j hj => by
    rw [add0, blk_cell h j]
    simp [hj]
  refine ⟨rfl, by omega, fun _ => ⟨⟨g, 0, none⟩, rfl, fun j p hp => ?_⟩⟩
  obtain ⟨hj, rfl⟩ := List.getElem?_eq_some_iff.1 hp
  refine ⟨[.int .u8 xs[j]], rfl, rfl, fun i u hu => ?_⟩
  match i, hu with
  | 0, hu =>
    have hu : Value.int .u8 xs[j] = u := Option.some.inj hu
    subst hu
    have := hcell j hj
    have e1 : j * (Kd.int IntKind.u8).sz + 0 = j := by show j * 1 + 0 = j; omega
    rw [e1]
    exact this
  | i + 1, hu => simp at hu
def wharflaw17_awake.f : Option Bool := some true
set_option maxRecDepth 100000 in
set_option maxHeartbeats 4000000 in
theorem wharflaw17_awake.calls (r : Bool) (w : World) (hL_ : Laid w) (h : wharflaw17_awake.f = some r) :
    Calls Tryz.prog 8 #[] w fun e w' => e = .returned (.bool r) ∧ Below w.heap.size w w' := by
  obtain rfl := Option.some.inj h
  clear h
  have HL := Aside0.mk hL_
  clear hL_
  have hf1 := nodeField1
  have hu26 := Tryz.underlying26
  have hu37 := Tryz.underlying37
  have HB := Aside0.mk (Below.refl w.heap.size w)
  go_enter Tryz.func8, Tryz.ntmps8
  go_wp2_with fail
  refine (stream_Outgoing.calls 100 7 8 9 (some ⟨w.heap.size, 0, none⟩) 2 [1, 2] _ _ _ _ _ (C16 _ w.heap.size [1, 2] (by simp) (by simp) (heap_alloc_new w _)) (Nat.le_refl _) aw1).mono ?_
  rintro e w1 ⟨v1, v2, rfl, h1, h2, hb⟩
  replace HB := Aside0.mk ((HB.out.alloc HB.out.size _).trans (hb.mono (by simp)))
  obtain ⟨AN1, cN1, rfl, hcN1, hC⟩ := Kd.R_reads h1
  obtain ⟨AN2, cN2, rfl⟩ := Kd.N_slice h2
  have CN := Aside0.mk hC
  have LN := Aside0.mk (show nD.length ≤ cN1 from hcN1)
  clear h1 h2 hb hC hcN1
  replace CN := Aside0.mk (Kd.C_alloc CN.out (.cells #[.int .u16 13, .slice AN1 nD.length cN1, .slice AN2 0 cN2] 26))
  replace HB := Aside0.mk (HB.out.alloc HB.out.size (.cells #[.int .u16 13, .slice AN1 nD.length cN1, .slice AN2 0 cN2] 26))
  have KN := Aside0.mk (heap_alloc_new w1 (.cells #[.int .u16 13, .slice AN1 nD.length cN1, .slice AN2 0 cN2] 26))
  go_wp2_with fail
  refine (stream_Seq.calls 13 AN1 cN1 nD AN2 cN2 [] _ _ _ CN.out LN.out (C_nil _ _ _) (Nat.zero_le _) aw2).mono ?_
  rintro e w2 ⟨rfl, hb⟩
  replace CN := Aside0.mk (Kd.C_below CN.out hb)
  replace KN := Aside0.mk (blk_below KN.out hb)
  replace HB := Aside0.mk (HB.out.trans (hb.mono HB.out.size))
  clear hb
  go_wp2_with fail
  refine (stream_More.calls 100 16 1 1 _ _ _ _ _ aw3).mono ?_
  rintro e w3 ⟨v1, v2, rfl, h1, h2, hb⟩
  replace CN := Aside0.mk (Kd.C_below CN.out hb)
  replace KN := Aside0.mk (blk_below KN.out hb)
  replace HB := Aside0.mk (HB.out.trans (hb.mono HB.out.size))
  clear hb
  obtain ⟨A5, c5, rfl⟩ := Kd.R_slice h1
  obtain ⟨A6, c6, rfl⟩ := Kd.N_slice h2
  clear h1 h2
  have PKN := Aside0.mk KN.out
  have LKN := blk_lt PKN.out
  replace CN := Aside0.mk (Kd.C_alloc CN.out (.cells #[.int .u16 0, .slice A5 0 c5, .slice A6 0 c6] 26))
  replace KN := Aside0.mk (blk_alloc KN.out (.cells #[.int .u16 0, .slice A5 0 c5, .slice A6 0 c6] 26))
  replace HB := Aside0.mk (HB.out.alloc HB.out.size (.cells #[.int .u16 0, .slice A5 0 c5, .slice A6 0 c6] 26))
  go_wp2_with fail
  refine (stream_Response.calls 100 7 0 none 0 [] _ _ _ _ _ (C_nil _ _ _) (Nat.le_refl _) aw4).mono ?_
  rintro e w4 ⟨v1, v2, rfl, h1, h2, hb⟩
  replace CN := Aside0.mk (Kd.C_below CN.out hb)
  replace KN := Aside0.mk (blk_below KN.out hb)
  replace HB := Aside0.mk (HB.out.trans (hb.mono HB.out.size))
  clear hb
  obtain ⟨AA1, cA1, rfl, hcA1, hC⟩ := Kd.R_reads h1
  obtain ⟨AA2, cA2, rfl⟩ := Kd.N_slice h2
  have CA := Aside0.mk hC
  have LA := Aside0.mk (show aD.length ≤ cA1 from hcA1)
  clear h1 h2 hC hcA1
  have PKN := Aside0.mk KN.out
  have LKN := blk_lt PKN.out
  replace CN := Aside0.mk (Kd.C_alloc CN.out (.cells #[.int .u16 16, .slice AA1 aD.length cA1, .slice AA2 0 cA2] 26))
  replace KN := Aside0.mk (blk_alloc KN.out (.cells #[.int .u16 16, .slice AA1 aD.length cA1, .slice AA2 0 cA2] 26))
  replace CA := Aside0.mk (Kd.C_alloc CA.out (.cells #[.int .u16 16, .slice AA1 aD.length cA1, .slice AA2 0 cA2] 26))
  replace HB := Aside0.mk (HB.out.alloc HB.out.size (.cells #[.int .u16 16, .slice AA1 aD.length cA1, .slice AA2 0 cA2] 26))
  have KA := Aside0.mk (heap_alloc_new w4 (.cells #[.int .u16 16, .slice AA1 aD.length cA1, .slice AA2 0 cA2] 26))
  have qn0 := (blk_cell PKN.out 0).trans (show _ = some (Value.int .u16 13) from rfl)
  have qn1 := (blk_cell PKN.out 1).trans (show _ = some (Value.slice AN1 nD.length cN1) from rfl)
  have qn2 := (blk_cell PKN.out 2).trans (show _ = some (Value.slice AN2 0 cN2) from rfl)
  go_wp2_with fail
  have HG := Aside0.mk (Below.refl 0 w)
  have PKN := Aside0.mk KN.out
  have LKN := blk_lt PKN.out
  have PKA := Aside0.mk KA.out
  have LKA := blk_lt PKA.out
  replace CN := Aside0.mk (Kd.C_alloc CN.out (.cells #[.int .u16 13, .slice AN1 nD.length cN1, .slice AN2 0 cN2] 26))
  replace KN := Aside0.mk (blk_alloc KN.out (.cells #[.int .u16 13, .slice AN1 nD.length cN1, .slice AN2 0 cN2] 26))
  replace CA := Aside0.mk (Kd.C_alloc CA.out (.cells #[.int .u16 13, .slice AN1 nD.length cN1, .slice AN2 0 cN2] 26))
  replace KA := Aside0.mk (blk_alloc KA.out (.cells #[.int .u16 13, .slice AN1 nD.length cN1, .slice AN2 0 cN2] 26))
  replace HB := Aside0.mk (HB.out.alloc HB.out.size (.cells #[.int .u16 13, .slice AN1 nD.length cN1, .slice AN2 0 cN2] 26))
  have KS := heap_alloc_new (w4.alloc (.cells #[.int .u16 16, .slice AA1 aD.length cA1, .slice AA2 0 cA2] 26)) (.cells #[.int .u16 13, .slice AN1 nD.length cN1, .slice AN2 0 cN2] 26)
  rw [show (w4.alloc (.cells #[.int .u16 16, .slice AA1 aD.length cA1, .slice AA2 0 cA2] 26)).heap.size = w4.heap.size + 1 from by simp] at KS
  refine (stream_Make.calls (some ⟨w4.heap.size + 1, 0, none⟩) 1 [⟨13, nD, []⟩] _ _ _ _ _ _ (blk_one (n := ⟨13, nD, []⟩) KS LN.out CN.out (Nat.zero_le _) (C_nil _ _ _)) (Nat.le_refl _) (HL.out.below HB.out) aw5).mono ?_
  rintro e w5 ⟨v1, v2, rfl, h1, h2, hb⟩
  clear KS HG
  clear qn0 qn1 qn2
  replace CN := Aside0.mk (Kd.C_below CN.out hb)
  replace KN := Aside0.mk (blk_below KN.out hb)
  replace CA := Aside0.mk (Kd.C_below CA.out hb)
  replace KA := Aside0.mk (blk_below KA.out hb)
  replace HB := Aside0.mk (HB.out.trans (hb.mono HB.out.size))
  clear hb
  obtain ⟨A7, c7, rfl⟩ := Kd.R_slice h1
  obtain ⟨A8, c8, rfl⟩ := Kd.R_slice h2
  clear h1 h2
  have PKN := Aside0.mk KN.out
  have LKN := blk_lt PKN.out
  have PKA := Aside0.mk KA.out
  have LKA := blk_lt PKA.out
  replace CN := Aside0.mk (Kd.C_alloc CN.out (.cells #[.int .u8 130, .int .u8 0, .slice A7 0 c7, .slice A8 1 c8] 37))
  replace KN := Aside0.mk (blk_alloc KN.out (.cells #[.int .u8 130, .int .u8 0, .slice A7 0 c7, .slice A8 1 c8] 37))
  replace CA := Aside0.mk (Kd.C_alloc CA.out (.cells #[.int .u8 130, .int .u8 0, .slice A7 0 c7, .slice A8 1 c8] 37))
  replace KA := Aside0.mk (blk_alloc KA.out (.cells #[.int .u8 130, .int .u8 0, .slice A7 0 c7, .slice A8 1 c8] 37))
  replace HB := Aside0.mk (HB.out.alloc HB.out.size (.cells #[.int .u8 130, .int .u8 0, .slice A7 0 c7, .slice A8 1 c8] 37))
  have KC := Aside0.mk (heap_alloc_new w5 (.cells #[.int .u8 130, .int .u8 0, .slice A7 0 c7, .slice A8 1 c8] 37))
  go_wp2_with fail
  refine (stream_Reset.calls 100 258 _ _ _ _ aw6).mono ?_
  rintro e w6 ⟨v1, v2, rfl, h1, h2, hb⟩
  replace CN := Aside0.mk (Kd.C_below CN.out hb)
  replace KN := Aside0.mk (blk_below KN.out hb)
  replace CA := Aside0.mk (Kd.C_below CA.out hb)
  replace KA := Aside0.mk (blk_below KA.out hb)
  replace KC := Aside0.mk (blk_below KC.out hb)
  replace HB := Aside0.mk (HB.out.trans (hb.mono HB.out.size))
  clear hb
  obtain ⟨A9, c9, rfl, hc9, hC⟩ := Kd.R_reads h1
  obtain ⟨A10, c10, rfl⟩ := Kd.N_slice h2
  have CR := Aside0.mk hC
  have LR := Aside0.mk hc9
  clear h1 h2 hC hc9
  go_wp2_with fail
  have PKN := Aside0.mk KN.out
  have LKN := blk_lt PKN.out
  have PKA := Aside0.mk KA.out
  have LKA := blk_lt PKA.out
  have PKC := Aside0.mk KC.out
  have LKC := blk_lt PKC.out
  replace CN := Aside0.mk (Kd.C_alloc CN.out (.cells #[.int .u8 0, .int .u8 0, .int .u8 1, .int .u8 2] 5))
  replace KN := Aside0.mk (blk_alloc KN.out (.cells #[.int .u8 0, .int .u8 0, .int .u8 1, .int .u8 2] 5))
  replace CA := Aside0.mk (Kd.C_alloc CA.out (.cells #[.int .u8 0, .int .u8 0, .int .u8 1, .int .u8 2] 5))
  replace KA := Aside0.mk (blk_alloc KA.out (.cells #[.int .u8 0, .int .u8 0, .int .u8 1, .int .u8 2] 5))
  replace KC := Aside0.mk (blk_alloc KC.out (.cells #[.int .u8 0, .int .u8 0, .int .u8 1, .int .u8 2] 5))
  replace CR := Aside0.mk (Kd.C_alloc CR.out (.cells #[.int .u8 0, .int .u8 0, .int .u8 1, .int .u8 2] 5))
  replace HB := Aside0.mk (HB.out.alloc HB.out.size (.cells #[.int .u8 0, .int .u8 0, .int .u8 1, .int .u8 2] 5))
  refine (wharfref01_Same.calls 100 A9 c9 [0, 0, 1, 2] (some ⟨w6.heap.size, 0, none⟩) 4 [0, 0, 1, 2] _ _ CR.out LR.out (C8 _ w6.heap.size [0, 0, 1, 2] (by simp) (by simp) (heap_alloc_new w6 _)) (Nat.le_refl _) aw10).mono ?_
  rintro e w7 ⟨rfl, nd, hw7⟩
  have hb : Below (w6.alloc (.cells #[.int .u8 0, .int .u8 0, .int .u8 1, .int .u8 2] 5)).heap.size (w6.alloc (.cells #[.int .u8 0, .int .u8 0, .int .u8 1, .int .u8 2] 5)) w7 := by rw [hw7]; exact pw_below_drewN (Below.refl _ _) nd
  clear hw7
  replace CN := Aside0.mk (Kd.C_below CN.out hb)
  replace KN := Aside0.mk (blk_below KN.out hb)
  replace CA := Aside0.mk (Kd.C_below CA.out hb)
  replace KA := Aside0.mk (blk_below KA.out hb)
  replace KC := Aside0.mk (blk_below KC.out hb)
  replace CR := Aside0.mk (Kd.C_below CR.out hb)
  replace HB := Aside0.mk (HB.out.trans (hb.mono HB.out.size))
  clear hb
  have qn0 := (blk_cell KN.out 0).trans (show _ = some (Value.int .u16 13) from rfl)
  have qn1 := (blk_cell KN.out 1).trans (show _ = some (Value.slice AN1 nD.length cN1) from rfl)
  have qn2 := (blk_cell KN.out 2).trans (show _ = some (Value.slice AN2 0 cN2) from rfl)
  have qa0 := (blk_cell KA.out 0).trans (show _ = some (Value.int .u16 16) from rfl)
  have qa1 := (blk_cell KA.out 1).trans (show _ = some (Value.slice AA1 aD.length cA1) from rfl)
  have qa2 := (blk_cell KA.out 2).trans (show _ = some (Value.slice AA2 0 cA2) from rfl)
  have qc0 := (blk_cell KC.out 0).trans (show _ = some (Value.int .u8 130) from rfl)
  go_wp2_with fail
  refine (stream_Streams.calls 100 13 AN1 cN1 nD AN2 cN2 [] _ _ CN.out LN.out (C_nil _ _ _) (Nat.zero_le _) aw7).mono ?_
  rintro e w8 ⟨v1, rfl, h1, hb⟩
  clear qn0 qn1 qn2
  clear qa0 qa1 qa2
  clear qc0
  replace CN := Aside0.mk (Kd.C_below CN.out hb)
  replace KN := Aside0.mk (blk_below KN.out hb)
  replace CA := Aside0.mk (Kd.C_below CA.out hb)
  replace KA := Aside0.mk (blk_below KA.out hb)
  replace KC := Aside0.mk (blk_below KC.out hb)
  replace CR := Aside0.mk (Kd.C_below CR.out hb)
  replace HB := Aside0.mk (HB.out.trans (hb.mono HB.out.size))
  clear hb
  obtain ⟨A11, c11, rfl, hc11, hC⟩ := Kd.R_reads h1
  have CS := Aside0.mk hC
  have LS := Aside0.mk hc11
  clear h1 hC hc11
  have qn0 := (blk_cell KN.out 0).trans (show _ = some (Value.int .u16 13) from rfl)
  have qn1 := (blk_cell KN.out 1).trans (show _ = some (Value.slice AN1 nD.length cN1) from rfl)
  have qn2 := (blk_cell KN.out 2).trans (show _ = some (Value.slice AN2 0 cN2) from rfl)
  have qa0 := (blk_cell KA.out 0).trans (show _ = some (Value.int .u16 16) from rfl)
  have qa1 := (blk_cell KA.out 1).trans (show _ = some (Value.slice AA1 aD.length cA1) from rfl)
  have qa2 := (blk_cell KA.out 2).trans (show _ = some (Value.slice AA2 0 cA2) from rfl)
  have qc0 := (blk_cell KC.out 0).trans (show _ = some (Value.int .u8 130) from rfl)
  go_wp2_with fail
  have PKN := Aside0.mk KN.out
  have LKN := blk_lt PKN.out
  have PKA := Aside0.mk KA.out
  have LKA := blk_lt PKA.out
  have PKC := Aside0.mk KC.out
  have LKC := blk_lt PKC.out
  replace CN := Aside0.mk (Kd.C_alloc CN.out (.cells #[.int .u16 1, .int .u16 2] 22))
  replace KN := Aside0.mk (blk_alloc KN.out (.cells #[.int .u16 1, .int .u16 2] 22))
  replace CA := Aside0.mk (Kd.C_alloc CA.out (.cells #[.int .u16 1, .int .u16 2] 22))
  replace KA := Aside0.mk (blk_alloc KA.out (.cells #[.int .u16 1, .int .u16 2] 22))
  replace KC := Aside0.mk (blk_alloc KC.out (.cells #[.int .u16 1, .int .u16 2] 22))
  replace CR := Aside0.mk (Kd.C_alloc CR.out (.cells #[.int .u16 1, .int .u16 2] 22))
  replace CS := Aside0.mk (Kd.C_alloc CS.out (.cells #[.int .u16 1, .int .u16 2] 22))
  replace HB := Aside0.mk (HB.out.alloc HB.out.size (.cells #[.int .u16 1, .int .u16 2] 22))
  refine (wharfref17_Equal.calls 100 A11 c11 [1, 2] (some ⟨w8.heap.size, 0, none⟩) 2 [1, 2] _ _ CS.out LS.out (C16 _ w8.heap.size [1, 2] (by simp) (by simp) (heap_alloc_new w8 _)) (Nat.le_refl _) aw11).mono ?_
  rintro e w9 ⟨rfl, nd2, hw9⟩
  have hb : Below (w8.alloc (.cells #[.int .u16 1, .int .u16 2] 22)).heap.size (w8.alloc (.cells #[.int .u16 1, .int .u16 2] 22)) w9 := by rw [hw9]; exact pw_below_drewN (Below.refl _ _) nd2
  clear hw9
  clear qn0 qn1 qn2
  clear qa0 qa1 qa2
  clear qc0
  replace CN := Aside0.mk (Kd.C_below CN.out hb)
  replace KN := Aside0.mk (blk_below KN.out hb)
  replace CA := Aside0.mk (Kd.C_below CA.out hb)
  replace KA := Aside0.mk (blk_below KA.out hb)
  replace KC := Aside0.mk (blk_below KC.out hb)
  replace CR := Aside0.mk (Kd.C_below CR.out hb)
  replace CS := Aside0.mk (Kd.C_below CS.out hb)
  replace HB := Aside0.mk (HB.out.trans (hb.mono HB.out.size))
  clear hb
  have qn0 := (blk_cell KN.out 0).trans (show _ = some (Value.int .u16 13) from rfl)
  have qn1 := (blk_cell KN.out 1).trans (show _ = some (Value.slice AN1 nD.length cN1) from rfl)
  have qn2 := (blk_cell KN.out 2).trans (show _ = some (Value.slice AN2 0 cN2) from rfl)
  have qa0 := (blk_cell KA.out 0).trans (show _ = some (Value.int .u16 16) from rfl)
  have qa1 := (blk_cell KA.out 1).trans (show _ = some (Value.slice AA1 aD.length cA1) from rfl)
  have qa2 := (blk_cell KA.out 2).trans (show _ = some (Value.slice AA2 0 cA2) from rfl)
  have qc0 := (blk_cell KC.out 0).trans (show _ = some (Value.int .u8 130) from rfl)
  go_wp2_with fail
  refine (stream_Answers.calls 13 AN1 cN1 nD AN2 cN2 [] 16 AA1 cA1 aD AA2 cA2 [] _ _ CN.out LN.out (C_nil _ _ _) (Nat.zero_le _) CA.out LA.out (C_nil _ _ _) (Nat.zero_le _) aw8).mono ?_
  rintro e w10 ⟨rfl, hb⟩
  clear qn0 qn1 qn2
  clear qa0 qa1 qa2
  clear qc0
  replace CN := Aside0.mk (Kd.C_below CN.out hb)
  replace KN := Aside0.mk (blk_below KN.out hb)
  replace CA := Aside0.mk (Kd.C_below CA.out hb)
  replace KA := Aside0.mk (blk_below KA.out hb)
  replace KC := Aside0.mk (blk_below KC.out hb)
  replace CR := Aside0.mk (Kd.C_below CR.out hb)
  replace CS := Aside0.mk (Kd.C_below CS.out hb)
  replace HB := Aside0.mk (HB.out.trans (hb.mono HB.out.size))
  clear hb
  have qn0 := (blk_cell KN.out 0).trans (show _ = some (Value.int .u16 13) from rfl)
  have qn1 := (blk_cell KN.out 1).trans (show _ = some (Value.slice AN1 nD.length cN1) from rfl)
  have qn2 := (blk_cell KN.out 2).trans (show _ = some (Value.slice AN2 0 cN2) from rfl)
  have qa0 := (blk_cell KA.out 0).trans (show _ = some (Value.int .u16 16) from rfl)
  have qa1 := (blk_cell KA.out 1).trans (show _ = some (Value.slice AA1 aD.length cA1) from rfl)
  have qa2 := (blk_cell KA.out 2).trans (show _ = some (Value.slice AA2 0 cA2) from rfl)
  have qc0 := (blk_cell KC.out 0).trans (show _ = some (Value.int .u8 130) from rfl)
  go_wp2_with fail
  refine (stream_Answers.calls 16 AA1 cA1 aD AA2 cA2 [] 13 AN1 cN1 nD AN2 cN2 [] _ _ CA.out LA.out (C_nil _ _ _) (Nat.zero_le _) CN.out LN.out (C_nil _ _ _) (Nat.zero_le _) aw9).mono ?_
  rintro e w11 ⟨rfl, hb⟩
  clear qn0 qn1 qn2
  clear qa0 qa1 qa2
  clear qc0
  replace CN := Aside0.mk (Kd.C_below CN.out hb)
  replace KN := Aside0.mk (blk_below KN.out hb)
  replace CA := Aside0.mk (Kd.C_below CA.out hb)
  replace KA := Aside0.mk (blk_below KA.out hb)
  replace KC := Aside0.mk (blk_below KC.out hb)
  replace CR := Aside0.mk (Kd.C_below CR.out hb)
  replace CS := Aside0.mk (Kd.C_below CS.out hb)
  replace HB := Aside0.mk (HB.out.trans (hb.mono HB.out.size))
  clear hb
  have qc0 := (blk_cell KC.out 0).trans (show _ = some (Value.int .u8 130) from rfl)
  go_wp2
  go_ret
  exact ⟨rfl, HB.out⟩
end Go.Proofs.YtpgfhbdnlojdfaaGreatDoor.P
namespace Go.Proofs.YtpgfhbdnlojdfaaGreatDoor.P
open Go.RowKit Go.Proofs.YtpgfhbdnlojdfaaGreatDoorW.PrintWords Go.Proofs.YtpgfhbdnlojdfaaGreatDoorW.PrintLast Go.Proofs.YtpgfhbdnlojdfaaGreatDoorW.PrintMore
set_option linter.unusedVariables false
set_option linter.unusedSimpArgs false
set_option maxRecDepth 100000 in
set_option maxHeartbeats 2000000 in
theorem lawMore.no (t seq n : Int) (h17 : t ≠ 17) (h18 : t ≠ 18) (w : World) (hL : Laid w) :
    Calls Tryz.prog 6 #[.int .u16 t, .int .u32 seq, .int .u16 n] w fun e w' => e = .returned (.bool true) ∧ Below w.heap.size w w' := by
  have HA := Aside0.mk (wharflaw17_awake.calls true w hL rfl)
  have HM := Aside0.mk (fun W => stream_More.calls 1 t seq n _ _ _ _ W (more_no t seq n h17 h18))
  have e1 : (t == 17) = false := by simp [h17]
  have e2 : (t == 18) = false := by simp [h18]
  have e3 : (t != 17) = true := by simp [h17]
  have e4 : (t != 18) = true := by simp [h18]
  clear hL h17 h18
  go_enter Tryz.func6, Tryz.ntmps6
  go_wp2_with fail
  refine HA.out.mono ?_
  rintro e w1 ⟨rfl, hb⟩
  have HB := Aside0.mk hb
  clear hb
  go_wp2_with fail
  refine (HM.out _).mono ?_
  rintro e w2 ⟨v1, v2, rfl, h1, h2, hb⟩
  obtain ⟨A1, c1, rfl⟩ := Kd.R_slice h1
  obtain ⟨A2, c2, rfl⟩ := Kd.N_slice h2
  replace HB := Aside0.mk (HB.out.trans (hb.mono HB.out.size))
  clear hb h1 h2
  go_wp2_with fail
  refine (same17 ⟨0, [], []⟩ (by decide) A1 A2 none none c1 c2 0 0 _ (Nat.zero_le _) (C_nil _ _ _) (Nat.zero_le _) (C_nil _ _ _) (Nat.zero_le _) (C_nil _ _ _) (Nat.zero_le _) (C_nil _ _ _)).mono ?_
  rintro e w3 ⟨rfl, hb⟩
  replace HB := Aside0.mk ((HB.out.alloc HB.out.size _).trans (hb.mono (by have := HB.out.size; simp; omega)))
  clear hb
  go_wp2
  go_ret
  exact ⟨rfl, HB.out⟩
set_option maxRecDepth 100000 in
set_option maxHeartbeats 4000000 in
theorem lawMore.yes (t seq n : Int) (ht : t = 17 ∨ t = 18) (hs : 0 ≤ seq ∧ seq < 4294967296) (hn : 0 ≤ n ∧ n < 65536) (w : World) (hL : Laid w) :
    Calls Tryz.prog 6 #[.int .u16 t, .int .u32 seq, .int .u16 n] w fun e w' => e = .returned (.bool true) ∧ Below w.heap.size w w' := by
  have HA := Aside0.mk (wharflaw17_awake.calls true w hL rfl)
  obtain ⟨k, hk⟩ := (more_ev t seq n ht hn).rounds
  have HM := Aside0.mk (fun W => stream_More.calls k t seq n _ _ _ _ W hk)
  have HQ := Aside0.mk (seq_more t seq n ht hs)
  have HST := Aside0.mk (streams_more t seq n ht)
  obtain ⟨kb, hkb⟩ := (refBuild_ev t [seq] [n, 0] (by simp) (by simp)).rounds
  have HKB := Aside0.mk (show wharfref17_Build.f kb t [seq] [n, 0] = some (t, moreD seq n, []) from hkb)
  have HSZ := Aside0.mk (show szN ⟨t, moreD seq n, []⟩ ≤ 4194304 from by rw [szN_eq]; simp [szL, moreD_len])
  have ht2 : ((t != 17) = false) ∨ ((t != 17) = true ∧ (t != 18) = false) := by
    rcases ht with rfl | rfl
    · exact .inl rfl
    · exact .inr ⟨rfl, rfl⟩
  have ht3 : ((t == 17) = true) ∨ ((t == 17) = false ∧ (t == 18) = true) := by
    rcases ht with rfl | rfl
    · exact .inl rfl
    · exact .inr ⟨rfl, rfl⟩
  clear hL hk hkb hs hn ht
  go_enter Tryz.func6, Tryz.ntmps6
  go_wp2_with fail
  refine HA.out.mono ?_
  rintro e w1 ⟨rfl, hb⟩
  have HB := Aside0.mk hb
  clear hb
  go_wp2_with fail
  refine (HM.out _).mono ?_
  rintro e w2 ⟨v1, v2, rfl, h1, h2, hb⟩
  obtain ⟨A1, c1, rfl, hc1, hC⟩ := Kd.R_reads h1
  obtain ⟨A2, c2, rfl⟩ := Kd.N_slice h2
  replace HB := Aside0.mk (HB.out.trans (hb.mono HB.out.size))
  have CM := Aside0.mk (Kd.C_alloc hC (.cells #[.int .u16 t, .slice A1 (moreD seq n).length c1, .slice A2 0 c2] 26))
  have LM := Aside0.mk hc1
  have KM := Aside0.mk (heap_alloc_new w2 (.cells #[.int .u16 t, .slice A1 (moreD seq n).length c1, .slice A2 0 c2] 26))
  replace HB := Aside0.mk (HB.out.alloc HB.out.size (.cells #[.int .u16 t, .slice A1 (moreD seq n).length c1, .slice A2 0 c2] 26))
  clear hb h1 h2 hC hc1
  rcases ht2 with e2 | ⟨e2, e22⟩ <;> rcases ht3 with e3 | ⟨e3, e32⟩
  all_goals
    try (rw [bne, e3] at e2; cases e2; done)
  all_goals
    go_wp2_with fail
    refine (stream_Seq.calls t A1 c1 (moreD seq n) A2 c2 [] _ _ _ CM.out LM.out (C_nil _ _ _) (Nat.zero_le _) HQ.out).mono ?_
    rintro e w3 ⟨rfl, hb⟩
    replace CM := Aside0.mk (Kd.C_below CM.out hb)
    replace KM := Aside0.mk (blk_below KM.out hb)
    replace HB := Aside0.mk (HB.out.trans (hb.mono HB.out.size))
    clear hb
    have k0 := (blk_cell KM.out 0).trans (show _ = some (Value.int .u16 t) from rfl)
    have k1 := (blk_cell KM.out 1).trans (show _ = some (Value.slice A1 (moreD seq n).length c1) from rfl)
    have k2 := (blk_cell KM.out 2).trans (show _ = some (Value.slice A2 0 c2) from rfl)
    have hz1 := heap_alloc_new (w3.alloc (.cells #[.int .u32 seq] 29)) (.cells #[.int .u16 n, .int .u16 0] 22)
    rw [show (w3.alloc (.cells #[.int .u32 seq] 29)).heap.size = w3.heap.size + 1 from by simp] at hz1
    have hz2 := heap_alloc_new (w3.alloc (.cells #[.int .u16 n, .int .u16 0] 22)) (.cells #[.int .u32 seq] 29)
    rw [show (w3.alloc (.cells #[.int .u16 n, .int .u16 0] 22)).heap.size = w3.heap.size + 1 from by simp] at hz2
    have HY1 := Aside0.mk (show Below w3.heap.size w3 ((w3.alloc (.cells #[.int .u32 seq] 29)).alloc (.cells #[.int .u16 n, .int .u16 0] 22)).drew from below_drew1 (((Below.refl _ w3).alloc (Nat.le_refl _) _).alloc (by simp) _))
    have HY2 := Aside0.mk (show Below w3.heap.size w3 ((w3.alloc (.cells #[.int .u16 n, .int .u16 0] 22)).alloc (.cells #[.int .u32 seq] 29)).drew from below_drew1 (((Below.refl _ w3).alloc (Nat.le_refl _) _).alloc (by simp) _))
    have hB1 := (wharfref17_Build.calls kb t (some ⟨w3.heap.size, 0, none⟩) 1 [seq] (some ⟨w3.heap.size + 1, 0, none⟩) 2 [n, 0] _ _ _ ((w3.alloc (.cells #[.int .u32 seq] 29)).alloc (.cells #[.int .u16 n, .int .u16 0] 22)).drew (C32 _ _ seq (blk_drew (blk_alloc (heap_alloc_new w3 _) _))) (Nat.le_refl _) (C16 _ _ [n, 0] (by simp) (by simp) (blk_drew hz1)) (Nat.le_refl _) HKB.out)
    rw [show ([seq] : List Int).length = 1 from rfl, show ([n, 0] : List Int).length = 2 from rfl] at hB1
    have HB1 := Aside0.mk hB1
    clear hB1
    have hB2 := (wharfref17_Build.calls kb t (some ⟨w3.heap.size + 1, 0, none⟩) 1 [seq] (some ⟨w3.heap.size, 0, none⟩) 2 [n, 0] _ _ _ ((w3.alloc (.cells #[.int .u16 n, .int .u16 0] 22)).alloc (.cells #[.int .u32 seq] 29)).drew (C32 _ _ seq (blk_drew hz2)) (Nat.le_refl _) (C16 _ _ [n, 0] (by simp) (by simp) (blk_drew (blk_alloc (heap_alloc_new w3 _) _))) (Nat.le_refl _) HKB.out)
    rw [show ([seq] : List Int).length = 1 from rfl, show ([n, 0] : List Int).length = 2 from rfl] at hB2
    have HB2 := Aside0.mk hB2
    clear hB2
    clear hz1 hz2
    go_wp2
    have ew : (seq == seq) = true := by simp
    go_region_held3 (fun X => X.cell? ⟨w2.heap.size, 0, none⟩ = some (.int .u16 t) ∧ X.cell? ⟨w2.heap.size, 1, none⟩ = some (.slice A1 (moreD seq n).length c1) ∧ X.cell? ⟨w2.heap.size, 2, none⟩ = some (.slice A2 0 c2)) (go_keep) (first | (go_at_call 22; with_reducible refine HB1.out.mono ?_; rintro e w5 ⟨v1, v2, rfl, h1, h2, hb⟩; obtain ⟨E1, e1, rfl, he1, hE⟩ := Kd.R_reads h1; obtain ⟨E2, e2, rfl⟩ := Kd.R_slice h2; have hb3 := HY1.out.trans (hb.mono HY1.out.size); have CE := Aside0.mk hE; have LE := Aside0.mk he1; have CM := Aside0.mk (Kd.C_below CM.out hb3); have KM := Aside0.mk (blk_below KM.out hb3); have HB := Aside0.mk (HB.out.trans (hb3.mono HB.out.size)); have k0 := (blk_cell KM.out 0).trans (show _ = some (Value.int .u16 t) from rfl); have k1 := (blk_cell KM.out 1).trans (show _ = some (Value.slice A1 (moreD seq n).length c1) from rfl); have k2 := (blk_cell KM.out 2).trans (show _ = some (Value.slice A2 0 c2) from rfl); clear hb hb3 h1 h2 hE he1) | (go_at_call 22; with_reducible refine HB2.out.mono ?_; rintro e w5 ⟨v1, v2, rfl, h1, h2, hb⟩; obtain ⟨E1, e1, rfl, he1, hE⟩ := Kd.R_reads h1; obtain ⟨E2, e2, rfl⟩ := Kd.R_slice h2; have hb3 := HY2.out.trans (hb.mono HY2.out.size); have CE := Aside0.mk hE; have LE := Aside0.mk he1; have CM := Aside0.mk (Kd.C_below CM.out hb3); have KM := Aside0.mk (blk_below KM.out hb3); have HB := Aside0.mk (HB.out.trans (hb3.mono HB.out.size)); have k0 := (blk_cell KM.out 0).trans (show _ = some (Value.int .u16 t) from rfl); have k1 := (blk_cell KM.out 1).trans (show _ = some (Value.slice A1 (moreD seq n).length c1) from rfl); have k2 := (blk_cell KM.out 2).trans (show _ = some (Value.slice A2 0 c2) from rfl); clear hb hb3 h1 h2 hE he1) | (go_at_call 21; refine (same17 ⟨t, moreD seq n, []⟩ HSZ.out A1 A2 E1 E2 c1 c2 e1 e2 _ LM.out CM.out (Nat.zero_le _) (C_nil _ _ _) LE.out CE.out (Nat.zero_le _) (C_nil _ _ _)).mono ?_; rintro e w6 ⟨rfl, hb⟩; have CM := Aside0.mk (Kd.C_below CM.out hb); have KM := Aside0.mk (blk_below KM.out hb); have HB := Aside0.mk (HB.out.trans (hb.mono HB.out.size)); have k0 := (blk_cell KM.out 0).trans (show _ = some (Value.int .u16 t) from rfl); have k1 := (blk_cell KM.out 1).trans (show _ = some (Value.slice A1 (moreD seq n).length c1) from rfl); have k2 := (blk_cell KM.out 2).trans (show _ = some (Value.slice A2 0 c2) from rfl); clear hb) | (go_at_call 13; refine (stream_Streams.calls 1 t A1 c1 (moreD seq n) A2 c2 [] [] _ CM.out LM.out (C_nil _ _ _) (Nat.zero_le _) HST.out).mono ?_; rintro e w7 ⟨v3, rfl, h3, hb⟩; obtain ⟨E3, e3, rfl⟩ := Kd.R_slice h3; have KM := Aside0.mk (blk_below KM.out hb); have HB := Aside0.mk (HB.out.trans (hb.mono HB.out.size)); have k0 := (blk_cell KM.out 0).trans (show _ = some (Value.int .u16 t) from rfl); have k1 := (blk_cell KM.out 1).trans (show _ = some (Value.slice A1 (moreD seq n).length c1) from rfl); have k2 := (blk_cell KM.out 2).trans (show _ = some (Value.slice A2 0 c2) from rfl); clear hb h3))
    all_goals
      go_wp2
      go_ret
      exact ⟨rfl, HB.out⟩
theorem lawMore.calls (t seq n : Int) (hs : 0 ≤ seq ∧ seq < 4294967296) (hn : 0 ≤ n ∧ n < 65536) (w : World) (hL : Laid w) :
    Calls Tryz.prog 6 #[.int .u16 t, .int .u32 seq, .int .u16 n] w fun e w' => e = .returned (.bool true) ∧ Below w.heap.size w w' := by
  by_cases h17 : t = 17
  · exact lawMore.yes t seq n (.inl h17) hs hn w hL
  by_cases h18 : t = 18
  · exact lawMore.yes t seq n (.inr h18) hs hn w hL
  exact lawMore.no t seq n h17 h18 w hL
end Go.Proofs.YtpgfhbdnlojdfaaGreatDoor.P
