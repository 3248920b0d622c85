/- For every input the law Stream-answers returns true, and each argument reads behind the call as it read before. Conditions: those of the given row (the listed package variables hold what the program's text lays; no ring in the inputs). -/
/- Packed by wip/tools/pack.py out of MRowAnswers. -/
import Derived.Test.YtpgfhbdnlojdfaaGreatDoorCards
import Derived.Test.YtpgfhbdnlojdfaaGreatDoorTie
import Derived.SevenTiedAt
import Derived.Carry
import Derived.Test.YtpgfhbdnlojdfaaGreatDoorR51
import Derived.Test.YtpgfhbdnlojdfaaGreatDoorR50
namespace Go.Proofs.YtpgfhbdnlojdfaaGreatDoor
open Go.ChangeShapes Go.WideShapes Go.RowKit
theorem ans_laidOut : laidOutB Tryz.prog = true := by kernel_rfl
theorem ans_stay {H : Type} {enc : TypeId × Value → H} {W W' : World} {v : Value} {d : DataW H} {p : List MemPlace} {sp : Nat → Bool}
    (h : DataW.Trod enc Tryz.prog W 0 (fun _ => true) true 26 v d p) (hb : Below W.heap.size W W') (hlt : ∀ x ∈ p, x.block < W.heap.size) (hsp : ∀ x ∈ p, sp x.block = true) : DataW.Trod enc Tryz.prog W' 0 sp true 26 v d p :=
  WideElems.Trod_stays ans_laidOut (by kernel_rfl) (of_decide_eq_true (by kernel_rfl)) h (fun x hx => hb.same (hlt x hx)) hsp
set_option maxRecDepth 100000 in
theorem answers_lifted (os : Os) (started : os.Started) (H : Type) (enc : TypeId × Value → H) :
    ReturnsInHanded {} Tryz.checked os 5 .any (fun w args => (Rows.streamAnswersSpec.pre enc Tryz.prog Tryz.f5 [] false w args ∧ laidMetH Tryz.prog P.laidL w) ∧ sizedMet enc Tryz.prog Tryz.f5 (OpenSpec.ofChange Rows.streamAnswersSpec) false w args)
      (Rows.streamAnswersSpec.post enc Tryz.prog Tryz.f5 false true false false) := by
  refine returnsInHanded_of_change_and (C := Tryz.checked) (X := fun w _ => laidMetH Tryz.prog P.laidL w) (fun _ _ _ hh h => h.of_heap hh) P.rowOwn started (by kernel_rfl) Tryz.func5
    (ChangeSpec.witness_shaped (enc := enc) (C := Tryz.checked) (os := os) (X := fun w _ => laidMetH Tryz.prog P.laidL w) false (World.doorLaid Tryz.prog 400 os) #[.agg #[.int .u16 0, .slice none 0 0, .slice none 0 0], .agg #[.int .u16 0, .slice none 0 0, .slice none 0 0]] 8 rfl (P.door_shaped os _) (by kernel_rfl) (by kernel_rfl) (by kernel_rfl) (P.door_met os _)) ?_
  intro W base args ds gs before hval0 hW _ _ hL _
  have hval : ∀ (j : Nat) t v, Tryz.f5.params[j]? = some t → args[j]? = some v → Value.okWide Tryz.prog W .any base t v := hval0
  have hW' := hW
  have hlt := fun p hp => hW.lt p hp
  obtain ⟨p, q, hA0, hV, rfl, hfz, hnd⟩ := hW
  have hA : DataW.TrodAll enc Tryz.prog W 0 (fun _ => true) true Tryz.f5.params.toList args.toList ds p := hA0
  rw [Tryz.params5] at hA hval
  obtain ⟨v0, v1, d0, d1, p0, p1, rfl, rfl, rfl, h0, h1⟩ := trodAll_two hA
  obtain ⟨rfl, rfl⟩ := trodVars_none hV
  obtain ⟨n0, A1, A2, c1, c2, rfl, q1, q2, q3, q4, qo, qs⟩ := P.op.node (hval 0 26 v0 rfl rfl) h0
  obtain ⟨n1, B1, B2, e1, e2, rfl, a1, a2, a3, a4, ao, asm⟩ := P.op.node (hval 1 26 v1 rfl rfl) h1
  refine (P.lawAnswers.calls n0 n1 A1 A2 B1 B2 c1 c2 e1 e2 W (P.laid_of hL) q1 q2 q3 q4 qo qs a1 a2 a3 a4 ao asm).mono fun e W' ⟨he, hb⟩ => ?_
  subst he
  exact ⟨_, rfl, P.postB (pa := p0 ++ p1) (pv := []) hW' (fun _ _ _ => trodAll_mk1 (shut_bool Tryz.underlying4 true))
    (fun sp hsp => trodAll_mk2 (ans_stay h0 hb (fun x hx => hlt x (List.mem_append_left _ (List.mem_append_left _ hx))) (fun x hx => hsp x (List.mem_append_left _ (List.mem_append_left _ hx))))
      (ans_stay h1 hb (fun x hx => hlt x (List.mem_append_left _ (List.mem_append_right _ hx))) (fun x hx => hsp x (List.mem_append_left _ (List.mem_append_right _ hx)))))
    (fun _ _ => rfl) rfl hb⟩
theorem answers_holds : Rows.StreamAnswersSaid :=
  OpenClaim.holds_of_wide 5 Tryz.f5 rfl rfl rfl rfl rfl rfl rfl ⟨rfl, rfl, rfl, rfl, rfl⟩ rfl rfl rfl rfl rfl (by kernel_rfl) Tryz.func5 (by kernel_rfl)
    (of_decide_eq_true (by kernel_rfl)) (by unfold Func.isWrapper; first | (rw [if_pos (by decide +kernel)]; kernel_rfl) | (rw [if_neg (by decide +kernel)]; exact ⟨rfl, rfl⟩))
    (fun os started H enc _ => answers_lifted os started H enc)
theorem answers_card : Rows.StreamAnswersCardSaid :=
  Claim7.holds_tied_plain_at .later [] [.handle, .widerDeep, .data] true (true, "bbc7772b23a9d6eda5ddfaca7d1075c75b068298dd4e2831bfe3154e21526fbb") true
    answers_holds (fun _ h => by cases h) (by kernel_rfl) (fun _ h => by cases h) streamAnswers_row_tie rfl ⟨rfl, rfl⟩ (by kernel_rfl) rfl
    (fun f fn hf hfn => by
      obtain rfl : f = 5 := Option.some.inj ((show Tryz.prog.funcNamed "wharf/wharflaw17.StreamAnswers" = some 5 by kernel_rfl).symm.trans hf) |>.symm
      obtain rfl : fn = Tryz.f5 := (Option.some.inj (Tryz.func5.symm.trans hfn)).symm
      exact ⟨by kernel_rfl, fun j t ht => by
        rw [Tryz.params5] at ht
        have hm : t ∈ [26, 26] := by simpa using Array.mem_of_getElem? ht
        have hall : ([26, 26].all fun u => !Tryz.prog.wantsStandIn u) = true := by kernel_rfl
        exact (show Tryz.prog.wantsStandIn t = false by simpa using List.all_eq_true.1 hall t hm)⟩)
    (by kernel_rfl)
#print axioms answers_card
end Go.Proofs.YtpgfhbdnlojdfaaGreatDoor
