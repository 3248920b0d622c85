/- Packed by wip/tools/pack.py out of MAwake. -/
import Derived.Test.YtpgfhbdnlojdfaaGreatDoorR32
import Derived.Test.YtpgfhbdnlojdfaaGreatDoorR34
import Derived.Test.YtpgfhbdnlojdfaaGreatDoorR35
import Derived.Test.YtpgfhbdnlojdfaaGreatDoorR36
import Derived.Test.YtpgfhbdnlojdfaaGreatDoorR37
import Derived.Test.YtpgfhbdnlojdfaaGreatDoorR47
import Derived.Test.YtpgfhbdnlojdfaaGreatDoorR43
namespace Go.Proofs.YtpgfhbdnlojdfaaGreatDoor.P
open Go.RowKit Go.Proofs.YtpgfhbdnlojdfaaGreatDoorW.PrintWords Go.Proofs.YtpgfhbdnlojdfaaGreatDoorW.PrintLast Go.Proofs.YtpgfhbdnlojdfaaGreatDoorW.PrintMore
set_option linter.unusedVariables false
set_option linter.unusedSimpArgs false
def nD : List Int := [0,0,0,7,0,0,0,8,0,0,0,9,0,1,0,2]
def aD : List Int := [0,0,0,7,0,0,0,0]
theorem aw1 : stream_Outgoing.f 100 7 8 9 [1,2] = some (13, nD, [], true) := by kernel_rfl
theorem aw2 : stream_Seq.f 13 nD [] = some (7, true) := by kernel_rfl
theorem aw3 : stream_More.f 100 16 1 1 = some (0, [], [], false) := by kernel_rfl
theorem aw4 : stream_Response.f 100 7 0 [] = some (16, aD, [], true) := by kernel_rfl
theorem aw5 : stream_Make.f [⟨13, nD, []⟩] = some (130, 0, [], [⟨13, nD, []⟩], true) := by kernel_rfl
theorem aw6 : stream_Reset.f 100 258 = some (15, [0,0,1,2], []) := by kernel_rfl
theorem aw7 : stream_Streams.f 100 13 nD [] = some [1,2] := by kernel_rfl
theorem aw8 : stream_Answers.f 13 nD [] 16 aD [] = some true := by kernel_rfl
theorem aw9 : stream_Answers.f 16 aD [] 13 nD [] = some false := by kernel_rfl
theorem aw10 : wharfref01_Same.f 100 [0,0,1,2] [0,0,1,2] = some true := by kernel_rfl
theorem aw11 : wharfref17_Equal.f 100 [1,2] [1,2] = some true := by kernel_rfl
theorem C_nil {α : Type} (d : Kd α) (W : World) (A : Option Addr) : Kd.C d W A ([] : List α).length [] := ⟨rfl, by simp, fun h => absurd h (by simp)⟩
theorem nodeField1 (x : Int) (A1 : Option Addr) (n1 c1 : Nat) (A2 : Option Addr) (n2 c2 : Nat) (W : World) : (Instr.field 26 (.agg #[.int .u16 x, .slice A1 n1 c1, .slice A2 n2 c2]) 1).run Tryz.prog W = .ok (.slice A1 n1 c1) W := by kernel_rfl
theorem C8 (W : World) (g : Nat) (xs : List Int) (h0 : 0 < xs.length) (hs : xs.length ≤ 1000) (h : W.heap[g]? = some (.cells (xs.map (Value.int .u8)).toArray 5 (0, 0))) : Kd.C (Kd.int .u8) W (some ⟨g, 0, none⟩) xs.length xs := by
  have hcell : ∀ j (hj : j < xs.length), W.cell? ((⟨g, 0, none⟩ : Addr).add j) = some (.int .u8 xs[j]) := fun j hj => by
    rw [add0, blk_cell h j]
    simp [hj]
  refine ⟨rfl, by omega, fun _ => ⟨⟨g, 0, none⟩, rfl, fun j p hp => ?_⟩⟩
  obtain ⟨hj, rfl⟩ := List.getElem?_eq_some_iff.1 hp
  refine ⟨[.int .u8 xs[j]], rfl, rfl, fun i u hu => ?_⟩
  match i, hu with
  | 0, hu =>
    have hu : Value.int .u8 xs[j] = u := Option.some.inj hu
    subst hu
    have := hcell j hj
    have e1 : j * (Kd.int IntKind.u8).sz + 0 = j := by show j * 1 + 0 = j; omega
    rw [e1]
    exact this
  | i + 1, hu => simp at hu
def wharflaw17_awake.f : Option Bool := some true
set_option maxRecDepth 100000 in
set_option maxHeartbeats 4000000 in
theorem wharflaw17_awake.calls (r : Bool) (w : World) (hL_ : Laid w) (h : wharflaw17_awake.f = some r) :
    Calls Tryz.prog 8 #[] w fun e w' => e = .returned (.bool r) ∧ Below w.heap.size w w' := by
  obtain rfl := Option.some.inj h
  clear h
  have HL := Aside0.mk hL_
  clear hL_
  have hf1 := nodeField1
  have hu26 := Tryz.underlying26
  have hu37 := Tryz.underlying37
  have HB := Aside0.mk (Below.refl w.heap.size w)
  go_enter Tryz.func8, Tryz.ntmps8
  go_wp2_with fail
  refine (stream_Outgoing.calls 100 7 8 9 (some ⟨w.heap.size, 0, none⟩) 2 [1, 2] _ _ _ _ _ (C16 _ w.heap.size [1, 2] (by simp) (by simp) (heap_alloc_new w _)) (Nat.le_refl _) aw1).mono ?_
  rintro e w1 ⟨v1, v2, rfl, h1, h2, hb⟩
  replace HB := Aside0.mk ((HB.out.alloc HB.out.size _).trans (hb.mono (by simp)))
  obtain ⟨AN1, cN1, rfl, hcN1, hC⟩ := Kd.R_reads h1
  obtain ⟨AN2, cN2, rfl⟩ := Kd.N_slice h2
  have CN := Aside0.mk hC
  have LN := Aside0.mk (show nD.length ≤ cN1 from hcN1)
  clear h1 h2 hb hC hcN1
  replace CN := Aside0.mk (Kd.C_alloc CN.out (.cells #[.int .u16 13, .slice AN1 nD.length cN1, .slice AN2 0 cN2] 26))
  replace HB := Aside0.mk (HB.out.alloc HB.out.size (.cells #[.int .u16 13, .slice AN1 nD.length cN1, .slice AN2 0 cN2] 26))
  have KN := Aside0.mk (heap_alloc_new w1 (.cells #[.int .u16 13, .slice AN1 nD.length cN1, .slice AN2 0 cN2] 26))
  go_wp2_with fail
  refine (stream_Seq.calls 13 AN1 cN1 nD AN2 cN2 [] _ _ _ CN.out LN.out (C_nil _ _ _) (Nat.zero_le _) aw2).mono ?_
  rintro e w2 ⟨rfl, hb⟩
  replace CN := Aside0.mk (Kd.C_below CN.out hb)
  replace KN := Aside0.mk (blk_below KN.out hb)
  replace HB := Aside0.mk (HB.out.trans (hb.mono HB.out.size))
  clear hb
  go_wp2_with fail
  refine (stream_More.calls 100 16 1 1 _ _ _ _ _ aw3).mono ?_
  rintro e w3 ⟨v1, v2, rfl, h1, h2, hb⟩
  replace CN := Aside0.mk (Kd.C_below CN.out hb)
  replace KN := Aside0.mk (blk_below KN.out hb)
  replace HB := Aside0.mk (HB.out.trans (hb.mono HB.out.size))
  clear hb
  obtain ⟨A5, c5, rfl⟩ := Kd.R_slice h1
  obtain ⟨A6, c6, rfl⟩ := Kd.N_slice h2
  clear h1 h2
  have PKN := Aside0.mk KN.out
  have LKN := blk_lt PKN.out
  replace CN := Aside0.mk (Kd.C_alloc CN.out (.cells #[.int .u16 0, .slice A5 0 c5, .slice A6 0 c6] 26))
  replace KN := Aside0.mk (blk_alloc KN.out (.cells #[.int .u16 0, .slice A5 0 c5, .slice A6 0 c6] 26))
  replace HB := Aside0.mk (HB.out.alloc HB.out.size (.cells #[.int .u16 0, .slice A5 0 c5, .slice A6 0 c6] 26))
  go_wp2_with fail
  refine (stream_Response.calls 100 7 0 none 0 [] _ _ _ _ _ (C_nil _ _ _) (Nat.le_refl _) aw4).mono ?_
  rintro e w4 ⟨v1, v2, rfl, h1, h2, hb⟩
  replace CN := Aside0.mk (Kd.C_below CN.out hb)
  replace KN := Aside0.mk (blk_below KN.out hb)
  replace HB := Aside0.mk (HB.out.trans (hb.mono HB.out.size))
  clear hb
  obtain ⟨AA1, cA1, rfl, hcA1, hC⟩ := Kd.R_reads h1
  obtain ⟨AA2, cA2, rfl⟩ := Kd.N_slice h2
  have CA := Aside0.mk hC
  have LA := Aside0.mk (show aD.length ≤ cA1 from hcA1)
  clear h1 h2 hC hcA1
  have PKN := Aside0.mk KN.out
  have LKN := blk_lt PKN.out
  replace CN := Aside0.mk (Kd.C_alloc CN.out (.cells #[.int .u16 16, .slice AA1 aD.length cA1, .slice AA2 0 cA2] 26))
  replace KN := Aside0.mk (blk_alloc KN.out (.cells #[.int .u16 16, .slice AA1 aD.length cA1, .slice AA2 0 cA2] 26))
  replace CA := Aside0.mk (Kd.C_alloc CA.out (.cells #[.int .u16 16, .slice AA1 aD.length cA1, .slice AA2 0 cA2] 26))
  replace HB := Aside0.mk (HB.out.alloc HB.out.size (.cells #[.int .u16 16, .slice AA1 aD.length cA1, .slice AA2 0 cA2] 26))
  have KA := Aside0.mk (heap_alloc_new w4 (.cells #[.int .u16 16, .slice AA1 aD.length cA1, .slice AA2 0 cA2] 26))
  have qn0 := (blk_cell PKN.out 0).trans (show _ = some (Value.int .u16 13) from rfl)
  have qn1 := (blk_cell PKN.out 1).trans (show _ = some (Value.slice AN1 nD.length cN1) from rfl)
  have qn2 := (blk_cell PKN.out 2).trans (show _ = some (Value.slice AN2 0 cN2) from rfl)
  go_wp2_with fail
  have HG := Aside0.mk (Below.refl 0 w)
  have PKN := Aside0.mk KN.out
  have LKN := blk_lt PKN.out
  have PKA := Aside0.mk KA.out
  have LKA := blk_lt PKA.out
  replace CN := Aside0.mk (Kd.C_alloc CN.out (.cells #[.int .u16 13, .slice AN1 nD.length cN1, .slice AN2 0 cN2] 26))
  replace KN := Aside0.mk (blk_alloc KN.out (.cells #[.int .u16 13, .slice AN1 nD.length cN1, .slice AN2 0 cN2] 26))
  replace CA := Aside0.mk (Kd.C_alloc CA.out (.cells #[.int .u16 13, .slice AN1 nD.length cN1, .slice AN2 0 cN2] 26))
  replace KA := Aside0.mk (blk_alloc KA.out (.cells #[.int .u16 13, .slice AN1 nD.length cN1, .slice AN2 0 cN2] 26))
  replace HB := Aside0.mk (HB.out.alloc HB.out.size (.cells #[.int .u16 13, .slice AN1 nD.length cN1, .slice AN2 0 cN2] 26))
  have KS := heap_alloc_new (w4.alloc (.cells #[.int .u16 16, .slice AA1 aD.length cA1, .slice AA2 0 cA2] 26)) (.cells #[.int .u16 13, .slice AN1 nD.length cN1, .slice AN2 0 cN2] 26)
  rw [show (w4.alloc (.cells #[.int .u16 16, .slice AA1 aD.length cA1, .slice AA2 0 cA2] 26)).heap.size = w4.heap.size + 1 from by simp] at KS
  refine (stream_Make.calls (some ⟨w4.heap.size + 1, 0, none⟩) 1 [⟨13, nD, []⟩] _ _ _ _ _ _ (blk_one (n := ⟨13, nD, []⟩) KS LN.out CN.out (Nat.zero_le _) (C_nil _ _ _)) (Nat.le_refl _) (HL.out.below HB.out) aw5).mono ?_
  rintro e w5 ⟨v1, v2, rfl, h1, h2, hb⟩
  clear KS HG
  clear qn0 qn1 qn2
  replace CN := Aside0.mk (Kd.C_below CN.out hb)
  replace KN := Aside0.mk (blk_below KN.out hb)
  replace CA := Aside0.mk (Kd.C_below CA.out hb)
  replace KA := Aside0.mk (blk_below KA.out hb)
  replace HB := Aside0.mk (HB.out.trans (hb.mono HB.out.size))
  clear hb
  obtain ⟨A7, c7, rfl⟩ := Kd.R_slice h1
  obtain ⟨A8, c8, rfl⟩ := Kd.R_slice h2
  clear h1 h2
  have PKN := Aside0.mk KN.out
  have LKN := blk_lt PKN.out
  have PKA := Aside0.mk KA.out
  have LKA := blk_lt PKA.out
  replace CN := Aside0.mk (Kd.C_alloc CN.out (.cells #[.int .u8 130, .int .u8 0, .slice A7 0 c7, .slice A8 1 c8] 37))
  replace KN := Aside0.mk (blk_alloc KN.out (.cells #[.int .u8 130, .int .u8 0, .slice A7 0 c7, .slice A8 1 c8] 37))
  replace CA := Aside0.mk (Kd.C_alloc CA.out (.cells #[.int .u8 130, .int .u8 0, .slice A7 0 c7, .slice A8 1 c8] 37))
  replace KA := Aside0.mk (blk_alloc KA.out (.cells #[.int .u8 130, .int .u8 0, .slice A7 0 c7, .slice A8 1 c8] 37))
  replace HB := Aside0.mk (HB.out.alloc HB.out.size (.cells #[.int .u8 130, .int .u8 0, .slice A7 0 c7, .slice A8 1 c8] 37))
  have KC := Aside0.mk (heap_alloc_new w5 (.cells #[.int .u8 130, .int .u8 0, .slice A7 0 c7, .slice A8 1 c8] 37))
  go_wp2_with fail
  refine (stream_Reset.calls 100 258 _ _ _ _ aw6).mono ?_
  rintro e w6 ⟨v1, v2, rfl, h1, h2, hb⟩
  replace CN := Aside0.mk (Kd.C_below CN.out hb)
  replace KN := Aside0.mk (blk_below KN.out hb)
  replace CA := Aside0.mk (Kd.C_below CA.out hb)
  replace KA := Aside0.mk (blk_below KA.out hb)
  replace KC := Aside0.mk (blk_below KC.out hb)
  replace HB := Aside0.mk (HB.out.trans (hb.mono HB.out.size))
  clear hb
  obtain ⟨A9, c9, rfl, hc9, hC⟩ := Kd.R_reads h1
  obtain ⟨A10, c10, rfl⟩ := Kd.N_slice h2
  have CR := Aside0.mk hC
  have LR := Aside0.mk hc9
  clear h1 h2 hC hc9
  go_wp2_with fail
  have PKN := Aside0.mk KN.out
  have LKN := blk_lt PKN.out
  have PKA := Aside0.mk KA.out
  have LKA := blk_lt PKA.out
  have PKC := Aside0.mk KC.out
  have LKC := blk_lt PKC.out
  replace CN := Aside0.mk (Kd.C_alloc CN.out (.cells #[.int .u8 0, .int .u8 0, .int .u8 1, .int .u8 2] 5))
  replace KN := Aside0.mk (blk_alloc KN.out (.cells #[.int .u8 0, .int .u8 0, .int .u8 1, .int .u8 2] 5))
  replace CA := Aside0.mk (Kd.C_alloc CA.out (.cells #[.int .u8 0, .int .u8 0, .int .u8 1, .int .u8 2] 5))
  replace KA := Aside0.mk (blk_alloc KA.out (.cells #[.int .u8 0, .int .u8 0, .int .u8 1, .int .u8 2] 5))
  replace KC := Aside0.mk (blk_alloc KC.out (.cells #[.int .u8 0, .int .u8 0, .int .u8 1, .int .u8 2] 5))
  replace CR := Aside0.mk (Kd.C_alloc CR.out (.cells #[.int .u8 0, .int .u8 0, .int .u8 1, .int .u8 2] 5))
  replace HB := Aside0.mk (HB.out.alloc HB.out.size (.cells #[.int .u8 0, .int .u8 0, .int .u8 1, .int .u8 2] 5))
  refine (wharfref01_Same.calls 100 A9 c9 [0, 0, 1, 2] (some ⟨w6.heap.size, 0, none⟩) 4 [0, 0, 1, 2] _ _ CR.out LR.out (C8 _ w6.heap.size [0, 0, 1, 2] (by simp) (by simp) (heap_alloc_new w6 _)) (Nat.le_refl _) aw10).mono ?_
  rintro e w7 ⟨rfl, nd, hw7⟩
  have hb : Below (w6.alloc (.cells #[.int .u8 0, .int .u8 0, .int .u8 1, .int .u8 2] 5)).heap.size (w6.alloc (.cells #[.int .u8 0, .int .u8 0, .int .u8 1, .int .u8 2] 5)) w7 := by rw [hw7]; exact pw_below_drewN (Below.refl _ _) nd
  clear hw7
  replace CN := Aside0.mk (Kd.C_below CN.out hb)
  replace KN := Aside0.mk (blk_below KN.out hb)
  replace CA := Aside0.mk (Kd.C_below CA.out hb)
  replace KA := Aside0.mk (blk_below KA.out hb)
  replace KC := Aside0.mk (blk_below KC.out hb)
  replace CR := Aside0.mk (Kd.C_below CR.out hb)
  replace HB := Aside0.mk (HB.out.trans (hb.mono HB.out.size))
  clear hb
  have qn0 := (blk_cell KN.out 0).trans (show _ = some (Value.int .u16 13) from rfl)
  have qn1 := (blk_cell KN.out 1).trans (show _ = some (Value.slice AN1 nD.length cN1) from rfl)
  have qn2 := (blk_cell KN.out 2).trans (show _ = some (Value.slice AN2 0 cN2) from rfl)
  have qa0 := (blk_cell KA.out 0).trans (show _ = some (Value.int .u16 16) from rfl)
  have qa1 := (blk_cell KA.out 1).trans (show _ = some (Value.slice AA1 aD.length cA1) from rfl)
  have qa2 := (blk_cell KA.out 2).trans (show _ = some (Value.slice AA2 0 cA2) from rfl)
  have qc0 := (blk_cell KC.out 0).trans (show _ = some (Value.int .u8 130) from rfl)
  go_wp2_with fail
  refine (stream_Streams.calls 100 13 AN1 cN1 nD AN2 cN2 [] _ _ CN.out LN.out (C_nil _ _ _) (Nat.zero_le _) aw7).mono ?_
  rintro e w8 ⟨v1, rfl, h1, hb⟩
  clear qn0 qn1 qn2
  clear qa0 qa1 qa2
  clear qc0
  replace CN := Aside0.mk (Kd.C_below CN.out hb)
  replace KN := Aside0.mk (blk_below KN.out hb)
  replace CA := Aside0.mk (Kd.C_below CA.out hb)
  replace KA := Aside0.mk (blk_below KA.out hb)
  replace KC := Aside0.mk (blk_below KC.out hb)
  replace CR := Aside0.mk (Kd.C_below CR.out hb)
  replace HB := Aside0.mk (HB.out.trans (hb.mono HB.out.size))
  clear hb
  obtain ⟨A11, c11, rfl, hc11, hC⟩ := Kd.R_reads h1
  have CS := Aside0.mk hC
  have LS := Aside0.mk hc11
  clear h1 hC hc11
  have qn0 := (blk_cell KN.out 0).trans (show _ = some (Value.int .u16 13) from rfl)
  have qn1 := (blk_cell KN.out 1).trans (show _ = some (Value.slice AN1 nD.length cN1) from rfl)
  have qn2 := (blk_cell KN.out 2).trans (show _ = some (Value.slice AN2 0 cN2) from rfl)
  have qa0 := (blk_cell KA.out 0).trans (show _ = some (Value.int .u16 16) from rfl)
  have qa1 := (blk_cell KA.out 1).trans (show _ = some (Value.slice AA1 aD.length cA1) from rfl)
  have qa2 := (blk_cell KA.out 2).trans (show _ = some (Value.slice AA2 0 cA2) from rfl)
  have qc0 := (blk_cell KC.out 0).trans (show _ = some (Value.int .u8 130) from rfl)
  go_wp2_with fail
  have PKN := Aside0.mk KN.out
  have LKN := blk_lt PKN.out
  have PKA := Aside0.mk KA.out
  have LKA := blk_lt PKA.out
  have PKC := Aside0.mk KC.out
  have LKC := blk_lt PKC.out
  replace CN := Aside0.mk (Kd.C_alloc CN.out (.cells #[.int .u16 1, .int .u16 2] 22))
  replace KN := Aside0.mk (blk_alloc KN.out (.cells #[.int .u16 1, .int .u16 2] 22))
  replace CA := Aside0.mk (Kd.C_alloc CA.out (.cells #[.int .u16 1, .int .u16 2] 22))
  replace KA := Aside0.mk (blk_alloc KA.out (.cells #[.int .u16 1, .int .u16 2] 22))
  replace KC := Aside0.mk (blk_alloc KC.out (.cells #[.int .u16 1, .int .u16 2] 22))
  replace CR := Aside0.mk (Kd.C_alloc CR.out (.cells #[.int .u16 1, .int .u16 2] 22))
  replace CS := Aside0.mk (Kd.C_alloc CS.out (.cells #[.int .u16 1, .int .u16 2] 22))
  replace HB := Aside0.mk (HB.out.alloc HB.out.size (.cells #[.int .u16 1, .int .u16 2] 22))
  refine (wharfref17_Equal.calls 100 A11 c11 [1, 2] (some ⟨w8.heap.size, 0, none⟩) 2 [1, 2] _ _ CS.out LS.out (C16 _ w8.heap.size [1, 2] (by simp) (by simp) (heap_alloc_new w8 _)) (Nat.le_refl _) aw11).mono ?_
  rintro e w9 ⟨rfl, nd2, hw9⟩
  have hb : Below (w8.alloc (.cells #[.int .u16 1, .int .u16 2] 22)).heap.size (w8.alloc (.cells #[.int .u16 1, .int .u16 2] 22)) w9 := by rw [hw9]; exact pw_below_drewN (Below.refl _ _) nd2
  clear hw9
  clear qn0 qn1 qn2
  clear qa0 qa1 qa2
  clear qc0
  replace CN := Aside0.mk (Kd.C_below CN.out hb)
  replace KN := Aside0.mk (blk_below KN.out hb)
  replace CA := Aside0.mk (Kd.C_below CA.out hb)
  replace KA := Aside0.mk (blk_below KA.out hb)
  replace KC := Aside0.mk (blk_below KC.out hb)
  replace CR := Aside0.mk (Kd.C_below CR.out hb)
  replace CS := Aside0.mk (Kd.C_below CS.out hb)
  replace HB := Aside0.mk (HB.out.trans (hb.mono HB.out.size))
  clear hb
  have qn0 := (blk_cell KN.out 0).trans (show _ = some (Value.int .u16 13) from rfl)
  have qn1 := (blk_cell KN.out 1).trans (show _ = some (Value.slice AN1 nD.length cN1) from rfl)
  have qn2 := (blk_cell KN.out 2).trans (show _ = some (Value.slice AN2 0 cN2) from rfl)
  have qa0 := (blk_cell KA.out 0).trans (show _ = some (Value.int .u16 16) from rfl)
  have qa1 := (blk_cell KA.out 1).trans (show _ = some (Value.slice AA1 aD.length cA1) from rfl)
  have qa2 := (blk_cell KA.out 2).trans (show _ = some (Value.slice AA2 0 cA2) from rfl)
  have qc0 := (blk_cell KC.out 0).trans (show _ = some (Value.int .u8 130) from rfl)
  go_wp2_with fail
  refine (stream_Answers.calls 13 AN1 cN1 nD AN2 cN2 [] 16 AA1 cA1 aD AA2 cA2 [] _ _ CN.out LN.out (C_nil _ _ _) (Nat.zero_le _) CA.out LA.out (C_nil _ _ _) (Nat.zero_le _) aw8).mono ?_
  rintro e w10 ⟨rfl, hb⟩
  clear qn0 qn1 qn2
  clear qa0 qa1 qa2
  clear qc0
  replace CN := Aside0.mk (Kd.C_below CN.out hb)
  replace KN := Aside0.mk (blk_below KN.out hb)
  replace CA := Aside0.mk (Kd.C_below CA.out hb)
  replace KA := Aside0.mk (blk_below KA.out hb)
  replace KC := Aside0.mk (blk_below KC.out hb)
  replace CR := Aside0.mk (Kd.C_below CR.out hb)
  replace CS := Aside0.mk (Kd.C_below CS.out hb)
  replace HB := Aside0.mk (HB.out.trans (hb.mono HB.out.size))
  clear hb
  have qn0 := (blk_cell KN.out 0).trans (show _ = some (Value.int .u16 13) from rfl)
  have qn1 := (blk_cell KN.out 1).trans (show _ = some (Value.slice AN1 nD.length cN1) from rfl)
  have qn2 := (blk_cell KN.out 2).trans (show _ = some (Value.slice AN2 0 cN2) from rfl)
  have qa0 := (blk_cell KA.out 0).trans (show _ = some (Value.int .u16 16) from rfl)
  have qa1 := (blk_cell KA.out 1).trans (show _ = some (Value.slice AA1 aD.length cA1) from rfl)
  have qa2 := (blk_cell KA.out 2).trans (show _ = some (Value.slice AA2 0 cA2) from rfl)
  have qc0 := (blk_cell KC.out 0).trans (show _ = some (Value.int .u8 130) from rfl)
  go_wp2_with fail
  refine (stream_Answers.calls 16 AA1 cA1 aD AA2 cA2 [] 13 AN1 cN1 nD AN2 cN2 [] _ _ CA.out LA.out (C_nil _ _ _) (Nat.zero_le _) CN.out LN.out (C_nil _ _ _) (Nat.zero_le _) aw9).mono ?_
  rintro e w11 ⟨rfl, hb⟩
  clear qn0 qn1 qn2
  clear qa0 qa1 qa2
  clear qc0
  replace CN := Aside0.mk (Kd.C_below CN.out hb)
  replace KN := Aside0.mk (blk_below KN.out hb)
  replace CA := Aside0.mk (Kd.C_below CA.out hb)
  replace KA := Aside0.mk (blk_below KA.out hb)
  replace KC := Aside0.mk (blk_below KC.out hb)
  replace CR := Aside0.mk (Kd.C_below CR.out hb)
  replace CS := Aside0.mk (Kd.C_below CS.out hb)
  replace HB := Aside0.mk (HB.out.trans (hb.mono HB.out.size))
  clear hb
  have qc0 := (blk_cell KC.out 0).trans (show _ = some (Value.int .u8 130) from rfl)
  go_wp2
  go_ret
  exact ⟨rfl, HB.out⟩
end Go.Proofs.YtpgfhbdnlojdfaaGreatDoor.P
