/- For every input wharflaw17.StreamMore returns true, and each argument reads behind the call as it read before. Conditions: those of the given row (the listed package variables hold what the program's text lays). -/
/- Packed by wip/tools/pack.py out of MRowMore. -/
import Derived.Test.YtpgfhbdnlojdfaaGreatDoorCards
import Derived.Test.YtpgfhbdnlojdfaaGreatDoorTie
import Derived.SevenTiedAt
import Derived.Test.YtpgfhbdnlojdfaaGreatDoorQ51
import Derived.Test.YtpgfhbdnlojdfaaGreatDoorQ49
namespace Go.Proofs.YtpgfhbdnlojdfaaGreatDoor
open Go.ChangeShapes Go.WideShapes Go.RowKit
set_option maxRecDepth 100000 in
theorem more_lifted (os : Os) (started : os.Started) (H : Type) (enc : TypeId × Value → H) :
    ReturnsInHanded {} Tryz.checked os 6 .any (fun w args => (Rows.streamMoreSpec.pre enc Tryz.prog Tryz.f6 [] false w args ∧ laidMetH Tryz.prog P.laidL w) ∧ sizedMet enc Tryz.prog Tryz.f6 (OpenSpec.ofChange Rows.streamMoreSpec) false w args)
      (Rows.streamMoreSpec.post enc Tryz.prog Tryz.f6 false true false false) := by
  refine returnsInHanded_of_change_and (C := Tryz.checked) (X := fun w _ => laidMetH Tryz.prog P.laidL w) (fun _ _ _ hh h => h.of_heap hh) P.rowOwn started (by kernel_rfl) Tryz.func6
    (ChangeSpec.witness_shaped (enc := enc) (C := Tryz.checked) (os := os) (X := fun w _ => laidMetH Tryz.prog P.laidL w) false (World.doorLaid Tryz.prog 400 os) #[.int .u16 0, .int .u32 0, .int .u16 0] 8 rfl (P.door_shaped os _) (by kernel_rfl) (by kernel_rfl) (by kernel_rfl) (P.door_met os _)) ?_
  intro W base args ds gs before hval0 hW _ _ hL _
  have hval : ∀ (j : Nat) t v, Tryz.f6.params[j]? = some t → args[j]? = some v → Value.okWide Tryz.prog W .any base t v := hval0
  have hW' := hW
  obtain ⟨p, q, hA0, hV, rfl, hfz, hnd⟩ := hW
  have hA : DataW.TrodAll enc Tryz.prog W 0 (fun _ => true) true Tryz.f6.params.toList args.toList ds p := hA0
  rw [Tryz.params6] at hA hval
  obtain ⟨v0, v1, v2, d0, d1, d2, p0, p1, p2, rfl, rfl, rfl, h0, h1, h2⟩ := trodAll_three hA
  obtain ⟨rfl, rfl⟩ := trodVars_none hV
  obtain ⟨t, rfl, rfl, rfl, hwt⟩ := open_int Tryz.underlying22 (hval 0 22 v0 rfl rfl) h0
  obtain ⟨seq, rfl, rfl, rfl, hws⟩ := open_int Tryz.underlying29 (hval 1 29 v1 rfl rfl) h1
  obtain ⟨n, rfl, rfl, rfl, hwn⟩ := open_int Tryz.underlying22 (hval 2 22 v2 rfl rfl) h2
  have hs : 0 ≤ seq ∧ seq < 4294967296 := P.wf_u32 hws
  have hn : 0 ≤ n ∧ n < 65536 := P.wf_u16 hwn
  refine (P.lawMore.calls t seq n hs hn W (P.laid_of hL)).mono fun e W' ⟨he, hb⟩ => ?_
  subst he
  exact ⟨_, rfl, P.postB (pa := []) (pv := []) hW' (fun _ _ _ => trodAll_mk1 (shut_bool Tryz.underlying4 true)) (fun sp _ => trodAll_mk3 (shut_int Tryz.underlying22 hwt) (shut_int Tryz.underlying29 hws) (shut_int Tryz.underlying22 hwn)) (fun _ _ => rfl) rfl hb⟩
theorem more_holds : Rows.StreamMoreSaid :=
  OpenClaim.holds_of_wide 6 Tryz.f6 rfl rfl rfl rfl rfl rfl rfl ⟨rfl, rfl, rfl, rfl, rfl⟩ rfl rfl rfl rfl rfl (by kernel_rfl) Tryz.func6 (by kernel_rfl)
    (of_decide_eq_true (by kernel_rfl)) (by unfold Func.isWrapper; first | (rw [if_pos (by decide +kernel)]; kernel_rfl) | (rw [if_neg (by decide +kernel)]; exact ⟨rfl, rfl⟩))
    (fun os started H enc _ => more_lifted os started H enc)
theorem more_card : Rows.StreamMoreCardSaid :=
  Claim7.holds_tied_plain_at .later [] [.handle, .widerDeep, .data] true (true, "bbc7772b23a9d6eda5ddfaca7d1075c75b068298dd4e2831bfe3154e21526fbb") true
    more_holds (fun _ h => by cases h) (by kernel_rfl) (fun _ h => by cases h) streamMore_row_tie rfl ⟨rfl, rfl⟩ (by kernel_rfl) rfl
    (fun f fn hf hfn => by
      obtain rfl : f = 6 := Option.some.inj ((show Tryz.prog.funcNamed "wharf/wharflaw17.StreamMore" = some 6 by kernel_rfl).symm.trans hf) |>.symm
      obtain rfl : fn = Tryz.f6 := (Option.some.inj (Tryz.func6.symm.trans hfn)).symm
      exact ⟨by kernel_rfl, fun j t ht => by
        rw [Tryz.params6] at ht
        have hm : t ∈ [22, 29, 22] := by simpa using Array.mem_of_getElem? ht
        have hall : ([22, 29, 22].all fun u => !Tryz.prog.wantsStandIn u) = true := by kernel_rfl
        exact (show Tryz.prog.wantsStandIn t = false by simpa using List.all_eq_true.1 hall t hm)⟩)
    (by kernel_rfl)
#print axioms more_card
end Go.Proofs.YtpgfhbdnlojdfaaGreatDoor
