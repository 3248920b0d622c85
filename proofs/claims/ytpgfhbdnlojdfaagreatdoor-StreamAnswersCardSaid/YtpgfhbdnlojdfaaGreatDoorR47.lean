/- Packed by wip/tools/pack.py out of MChunkC, MMake. -/
import Derived.Test.YtpgfhbdnlojdfaaGreatDoorR45
import Derived.Test.YtpgfhbdnlojdfaaGreatDoorR46
import Derived.Test.YtpgfhbdnlojdfaaGreatDoorR38
namespace Go.Proofs.YtpgfhbdnlojdfaaGreatDoor.P
open Go.RowKit Go.Proofs.YtpgfhbdnlojdfaaGreatDoorW.PrintWords Go.Proofs.YtpgfhbdnlojdfaaGreatDoorW.PrintLast Go.Proofs.YtpgfhbdnlojdfaaGreatDoorW.PrintMore
set_option linter.unusedVariables false
def valB (t : Int) (d : List Int) : Bool := (t == 64 && oddI d) || (t == 194 && oddF d ((d.length - 4) / 8))
def restC (cl : Int) (d : List Int) (l : List S26) : Int :=
  if firstE (l.map (chk 4 cl)) = 0 then (if 65535 < 4 + d.length + szL l then 4 else 0) else firstE (l.map (chk 4 cl))
def chkC (t fl : Int) (d : List Int) (l : List S26) : Int :=
  match kTab.find? (fun x => x.f0 == t) with
  | none => if l.length = 0 then restC 0 d l else 7
  | some k => if fbad fl k.f2 then 6 else if fitsK k d.length then (if kOK k.f6 l then (if (t == 3 && cntB d) then 8 else if valB t d then 11 else restC (rd kIns (k.f6 * 3)) d l) else 7) else 7
def tameC (t fl : Int) (d : List Int) (l : List S26) : Bool :=
  decide (0 ≤ t ∧ t < 256) && (decide (0 ≤ fl ∧ fl < 256) && (d.all (fun b => decide (0 ≤ b ∧ b < 256)) && (okL l && decide (d.length + szL l ≤ 4194300))))
theorem tameC_iff {t fl : Int} {d : List Int} {l : List S26} (h : tameC t fl d l = true) : (0 ≤ t ∧ t < 256) ∧ (0 ≤ fl ∧ fl < 256) ∧ (∀ b ∈ d, 0 ≤ b ∧ b < 256) ∧ okL l = true ∧ d.length + szL l ≤ 4194300 := by
  unfold tameC at h
  simpa [and_assoc] using h
def goodK (k : S94) : Bool := decide (0 ≤ k.f3) && (decide (0 < k.f5) && (decide (0 ≤ k.f6) && (decide (k.f6 ≤ 6) && ((k.f0 != 3 || decide (12 ≤ k.f3)) && ((k.f0 != 64 || decide (17 ≤ k.f3)) && (k.f0 != 194 || (k.f3 == 4 && k.f5 == 8)))))))
theorem kTab_good (t : Int) (k : S94) (h : kTab.find? (fun x => x.f0 == t) = some k) : k.f0 = t ∧ 0 ≤ k.f3 ∧ 0 < k.f5 ∧ 0 ≤ k.f6 ∧ k.f6 ≤ 6 ∧ (t = 3 → 12 ≤ k.f3) ∧ (t = 64 → 17 ≤ k.f3) ∧ (t = 194 → k.f3 = 4 ∧ k.f5 = 8) := by
  have h1 : k.f0 = t := by have := List.find?_some h; simpa using this
  have hm := List.mem_of_find?_eq_some h
  have hall : ∀ y ∈ kTab, goodK y = true := List.all_eq_true.1 (by decide)
  have hg := hall k hm
  unfold goodK at hg
  simp only [Bool.and_eq_true, Bool.or_eq_true, decide_eq_true_eq, bne_iff_ne, ne_eq, beq_iff_eq] at hg
  obtain ⟨a, b, c, d, e, f, g⟩ := hg
  refine ⟨h1, a, b, c, d, fun ht => ?_, fun ht => ?_, fun ht => ?_⟩
  · rcases e with e | e
    · exact absurd (h1.trans ht) e
    · exact e
  · rcases f with e | e
    · exact absurd (h1.trans ht) e
    · exact e
  · rcases g with e | e
    · exact absurd (h1.trans ht) e
    · exact e
theorem chunkSize_any (t fl : Int) (d : List Int) (l : List S26) (A1 : Option Addr) (c1 : Nat) (A2 : Option Addr) (c2 : Nat) (hs : d.length + szL l ≤ 4194300) (w : World) (hr1 : Kd.C (Kd.int .u8) w A1 d.length d) (hc1 : d.length ≤ c1) (hr2 : Kd.C k26 w A2 l.length l) (hc2 : l.length ≤ c2) :
    Calls Tryz.prog 70 #[chV t fl A1 d.length c1 A2 l.length c2] w fun e w' => e = .returned (.int .i64 ((4 + d.length + szL l : Nat) : Int)) ∧ Below w.heap.size w w' := by
  have hev := nodeSize_ev (ctL l) l (Nat.le_refl _) (by omega)
  obtain ⟨k, hk⟩ := hev.rounds
  refine chunk_Size.calls k t fl A1 c1 d A2 c2 l _ w hr1 hc1 hr2 hc2 ?_
  unfold chunk_Size.f
  rw [hk, Option.bind_some, w64 (n := 4 + (d.length : Int)) (by omega) (by omega), w64 (by omega) (by omega)]
  congr 1
def zeroK : S94 := ⟨0, ⟨#[]⟩, 0, 0, 0, 0, 0⟩
theorem etaN (x : S26) : (⟨x.f0, x.f1, x.f2⟩ : S26) = x := by cases x; rfl
theorem chunkCheck.any (t fl : Int) (d : List Int) (l : List S26) (A1 : Option Addr) (c1 : Nat) (A2 : Option Addr) (c2 : Nat) (ht : tameC t fl d l = true) (w : World) (hr1 : Kd.C (Kd.int .u8) w A1 d.length d) (hc1 : d.length ≤ c1) (hr2 : Kd.C k26 w A2 l.length l) (hc2 : l.length ≤ c2) (hL : Laid w) :
    Calls Tryz.prog 37 #[chV t fl A1 d.length c1 A2 l.length c2] w fun e w' => e = .returned (errI (chkC t fl d l)) ∧ Below w.heap.size w w' := by
  obtain ⟨ht0, hf0, hby, hok, hsz⟩ := tameC_iff ht
  have hll := szL_len l
  have HLD := Aside0.mk hL
  have HR2 := Aside0.mk hr2
  have HSZ := Aside0.mk (fun W (hb : Below w.heap.size w W) => chunkSize_any t fl d l A1 c1 A2 c2 hsz W (Kd.C_below hr1 hb) hc1 (Kd.C_below hr2 hb) hc2)
  have kid : ∀ ci, ∀ x ∈ l, ∀ (B1 B2 : Option Addr) (d1 d2 : Nat) (W : World), x.f1.length ≤ d1 → (Kd.int .u8).C W B1 x.f1.length x.f1 → x.f2.length ≤ d2 → Kd.C k26 W B2 x.f2.length x.f2 →
      Calls Tryz.prog 53 #[.int .i64 ci, .agg #[.int .u16 x.f0, .slice B1 x.f1.length d1, .slice B2 x.f2.length d2]] W fun e w' => e = .returned (errI (chk 4 ci x)) ∧ Below W.heap.size W w' := by
    intro ci x hx B1 B2 d1 d2 W a1 a2 a3 a4
    have hz := sz_mem hx
    have hkx := okL_mem hok x hx
    refine node_Check.calls ci x.f0 B1 d1 x.f1 B2 d2 x.f2 _ W a2 a1 a4 a3 ?_
    unfold node_Check.f
    have htn : tameN x = true := by
      unfold tameN
      rw [Bool.and_eq_true, decide_eq_true_eq]
      exact ⟨hkx, by omega⟩
    rw [etaN, if_pos htn]
  have hin : ∀ k6 : Int, 0 ≤ k6 → k6 ≤ 6 → kind_Inside.f k6 = some (rd kIns (k6 * 3), rd kIns (k6 * 3 + 1), rd kIns (k6 * 3 + 2)) := fun k6 h0 h6 => by unfold kind_Inside.f; rw [if_neg (by omega)]
  unfold chkC
  cases hf : kTab.find? (fun x => x.f0 == t) with
  | none =>
    have HOF := Aside0.mk (fun W (hb : Below w.heap.size w W) => kind_Of.calls t _ _ _ _ _ _ _ _ W (hL.below hb) (show kind_Of.f t = some (0, ⟨#[]⟩, 0, 0, 0, 0, 0, false) from by unfold kind_Of.f; rw [if_pos ht0, hf]))
    have HIN := Aside0.mk (fun W (hb : Below w.heap.size w W) => kind_Inside.calls 0 _ _ _ W (hL.below hb) (hin 0 (by omega) (by omega)))
    dsimp only
    by_cases hl : l.length = 0
    · rw [if_pos hl]
      exact chC.loop_false t fl d A1 c1 l A2 c2 zeroK false _ _ _ w (chk 4 0) _ (4 + d.length + szL l) ⟨rfl⟩ (by omega) hl HOF HIN HLD HR2 ⟨kid 0⟩ HSZ
    · rw [if_neg hl]
      exact chC.bare t fl d A1 c1 l A2 c2 zeroK false _ _ _ w (by omega) (by omega) HOF HIN HLD
  | some k =>
    obtain ⟨e0, g3, g5, g60, g66, h3, h64, h194⟩ := kTab_good t k hf
    have HOF := Aside0.mk (fun W (hb : Below w.heap.size w W) => kind_Of.calls t _ _ _ _ _ _ _ _ W (hL.below hb) (show kind_Of.f t = some (k.f0, k.f1, k.f2, k.f3, k.f4, k.f5, k.f6, true) from by unfold kind_Of.f; rw [if_pos ht0, hf]))
    have HIN := Aside0.mk (fun W (hb : Below w.heap.size w W) => kind_Inside.calls k.f6 _ _ _ W (hL.below hb) (hin k.f6 g60 g66))
    have hFlags : ∀ b, fbad fl k.f2 = b → ∀ W, Below w.heap.size w W → _ := fun b hb W (_ : Below w.heap.size w W) => flags.any t fl A1 d.length c1 A2 l.length c2 k b hb W
    have hData : ∀ b, fitsK k d.length = b → ∀ W, Below w.heap.size w W → _ := fun b hb W (_ : Below w.heap.size w W) => data.any t fl A1 d.length c1 A2 l.length c2 k b hb ⟨g3, g5⟩ (by omega) W
    have hKids : ∀ b, kOK k.f6 l = b → ∀ W, Below w.heap.size w W → _ := fun b hb W (hB : Below w.heap.size w W) => kids.any t fl A1 d.length c1 A2 c2 l k b hb g60 g66 (by omega) W (hL.below hB) (Kd.C_below hr2 hB)
    dsimp only
    cases hb0 : fbad fl k.f2 with
    | true =>
      rw [if_pos rfl]
      refine chC.bad 6 t fl d A1 c1 l A2 c2 k true _ _ _ w HOF HIN ⟨fun W g hB hG => ?_⟩ HLD
      exact first.at0 6 t fl A1 d.length c1 A2 l.length c2 k g W hG ⟨fun W2 hB2 => (hFlags true hb0 W2 (hB.trans (hB2.mono hB.size))).mono fun _ _ h => ⟨⟨_, h.1⟩, h.2⟩⟩
    | false =>
      rw [if_neg (by simp)]
      have H0 : ∀ W2, Below w.heap.size w W2 → _ := fun W2 hB2 => hFlags false hb0 W2 hB2
      cases hb1 : fitsK k d.length with
      | false =>
        rw [if_neg (by simp)]
        refine chC.bad 7 t fl d A1 c1 l A2 c2 k true _ _ _ w HOF HIN ⟨fun W g hB hG => ?_⟩ HLD
        exact first.at1 7 t fl A1 d.length c1 A2 l.length c2 k g W hG ⟨fun W2 hB2 => H0 W2 (hB.trans (hB2.mono hB.size))⟩ ⟨fun W2 hB2 => (hData false hb1 W2 (hB.trans (hB2.mono hB.size))).mono fun _ _ h => ⟨⟨_, h.1⟩, h.2⟩⟩
      | true =>
        rw [if_pos rfl]
        have H1 : ∀ W2, Below w.heap.size w W2 → _ := fun W2 hB2 => hData true hb1 W2 hB2
        have hfit := hb1
        unfold fitsK at hfit
        simp only [Bool.and_eq_true, decide_eq_true_eq, beq_iff_eq] at hfit
        cases hb2 : kOK k.f6 l with
        | false =>
          rw [if_neg (by simp)]
          refine chC.bad 7 t fl d A1 c1 l A2 c2 k true _ _ _ w HOF HIN ⟨fun W g hB hG => ?_⟩ HLD
          exact first.at2 7 t fl A1 d.length c1 A2 l.length c2 k g W hG ⟨fun W2 hB2 => H0 W2 (hB.trans (hB2.mono hB.size))⟩ ⟨fun W2 hB2 => H1 W2 (hB.trans (hB2.mono hB.size))⟩ ⟨fun W2 hB2 => (hKids false hb2 W2 (hB.trans (hB2.mono hB.size))).mono fun _ _ h => ⟨⟨_, h.1⟩, h.2⟩⟩
        | true =>
          rw [if_pos rfl]
          have H2 : ∀ W2, Below w.heap.size w W2 → _ := fun W2 hB2 => hKids true hb2 W2 hB2
          have hCount : ∀ b, (t == 3 && cntB d) = b → ∀ W, Below w.heap.size w W → Calls Tryz.prog 67 #[chV t fl A1 d.length c1 A2 l.length c2, kdV k] W fun e w' => e = .returned (if b then fltV 8 12 else .nilIface) ∧ Below W.heap.size W w' := by
            intro b hb W hB
            by_cases e3 : t = 3
            · subst e3
              have hd := h3 rfl
              exact count.yes fl d A1 c1 A2 l.length c2 k b (by rw [← hb]; rfl) (by omega) (by omega) W hc1 (Kd.C_below hr1 hB)
            · have e3' : (t == 3) = false := by simp [e3]
              rw [e3', Bool.false_and] at hb
              subst hb
              exact count.no t fl A1 d.length c1 A2 l.length c2 k W e3'
          cases hb3 : (t == 3 && cntB d) with
          | true =>
            rw [if_pos rfl]
            refine chC.bad 8 t fl d A1 c1 l A2 c2 k true _ _ _ w HOF HIN ⟨fun W g hB hG => ?_⟩ HLD
            exact first.at3 8 t fl A1 d.length c1 A2 l.length c2 k g W hG ⟨fun W2 hB2 => H0 W2 (hB.trans (hB2.mono hB.size))⟩ ⟨fun W2 hB2 => H1 W2 (hB.trans (hB2.mono hB.size))⟩ ⟨fun W2 hB2 => H2 W2 (hB.trans (hB2.mono hB.size))⟩ ⟨fun W2 hB2 => (hCount true hb3 W2 (hB.trans (hB2.mono hB.size))).mono fun _ _ h => ⟨⟨_, h.1⟩, h.2⟩⟩
          | false =>
            rw [if_neg (by simp)]
            have H3 : ∀ W2, Below w.heap.size w W2 → _ := fun W2 hB2 => hCount false hb3 W2 hB2
            have hValue : ∀ b, valB t d = b → ∀ W, Below w.heap.size w W → Calls Tryz.prog 68 #[chV t fl A1 d.length c1 A2 l.length c2, kdV k] W fun e w' => (∃ at_, e = .returned (if b then fltV 11 at_ else .nilIface)) ∧ Below W.heap.size W w' := by
              intro b hb W hB
              by_cases e64 : t = 64
              · subst e64
                have hd := h64 rfl
                exact (value.idata fl d A1 c1 A2 l.length c2 k b (by rw [← hb]; unfold valB; simp) (by omega) W (Kd.C_below hr1 hB)).mono fun _ _ h => ⟨⟨_, h.1⟩, h.2⟩
              · by_cases e194 : t = 194
                · subst e194
                  obtain ⟨hd3, hd5⟩ := h194 rfl
                  exact value.iforward fl d ((d.length - 4) / 8) (by rw [hd3, hd5] at hfit; omega) A1 c1 A2 l.length c2 k b (by rw [← hb]; unfold valB; simp) (by omega) W hc1 (Kd.C_below hr1 hB)
                · have a64 : (t == 64) = false := by simp [e64]
                  have a194 : (t == 194) = false := by simp [e194]
                  unfold valB at hb
                  rw [a64, a194, Bool.false_and, Bool.false_and, Bool.false_or] at hb
                  subst hb
                  exact (value.no t fl A1 d.length c1 A2 l.length c2 k W a64 a194).mono fun _ _ h => ⟨⟨0, h.1⟩, h.2⟩
            cases hb4 : valB t d with
            | true =>
              rw [if_pos rfl]
              refine chC.bad 11 t fl d A1 c1 l A2 c2 k true _ _ _ w HOF HIN ⟨fun W g hB hG => ?_⟩ HLD
              exact first.at4 11 t fl A1 d.length c1 A2 l.length c2 k g W hG ⟨fun W2 hB2 => H0 W2 (hB.trans (hB2.mono hB.size))⟩ ⟨fun W2 hB2 => H1 W2 (hB.trans (hB2.mono hB.size))⟩ ⟨fun W2 hB2 => H2 W2 (hB.trans (hB2.mono hB.size))⟩ ⟨fun W2 hB2 => H3 W2 (hB.trans (hB2.mono hB.size))⟩ ⟨fun W2 hB2 => hValue true hb4 W2 (hB.trans (hB2.mono hB.size))⟩
            | false =>
              rw [if_neg (by simp)]
              refine chC.loop_true t fl d A1 c1 l A2 c2 k true _ _ _ w (chk 4 (rd kIns (k.f6 * 3))) _ (4 + d.length + szL l) ⟨rfl⟩ (by omega) HOF HIN ⟨fun W g hB hG => ?_⟩ HLD HR2 ⟨kid _⟩ HSZ
              exact first.at5 0 t fl A1 d.length c1 A2 l.length c2 k g W hG ⟨fun W2 hB2 => H0 W2 (hB.trans (hB2.mono hB.size))⟩ ⟨fun W2 hB2 => H1 W2 (hB.trans (hB2.mono hB.size))⟩ ⟨fun W2 hB2 => H2 W2 (hB.trans (hB2.mono hB.size))⟩ ⟨fun W2 hB2 => H3 W2 (hB.trans (hB2.mono hB.size))⟩ ⟨fun W2 hB2 => (hValue false hb4 W2 (hB.trans (hB2.mono hB.size))).mono fun _ _ h => ⟨h.1.choose_spec, h.2⟩⟩
end Go.Proofs.YtpgfhbdnlojdfaaGreatDoor.P
namespace Go.Proofs.YtpgfhbdnlojdfaaGreatDoor.P
open Go.RowKit Go.Proofs.YtpgfhbdnlojdfaaGreatDoorW.PrintWords Go.Proofs.YtpgfhbdnlojdfaaGreatDoorW.PrintLast Go.Proofs.YtpgfhbdnlojdfaaGreatDoorW.PrintMore
set_option linter.unusedVariables false
set_option linter.unusedSimpArgs false
theorem cloneB_f (l : List Int) (h : l.length ≤ 4194304) : slices_Clone_byte_byte.f l = some l := by
  unfold slices_Clone_byte_byte.f
  rw [if_pos (by omega)]
theorem nodeClone_ev : ∀ (c : Nat) (a : Int) (d : List Int) (l : List S26), ctL l ≤ c → d.length ≤ 4194304 → szL l ≤ 4194304 → Ev (fun k => node_Clone.f k a d l) (a, d, l) := by
  intro c
  induction c with
  | zero =>
    intro a d l hc hd hs
    cases l with
    | cons x l => rw [ctL_cons, ctN_eq] at hc; omega
    | nil =>
      refine Ev.step (f := fun k => node_Clone.l0 k [] 0 0 a d []) (fun k => ?_) ?_
      · rw [node_Clone.f, cloneB_f d hd]; rfl
      · exact Ev.step (f := fun _ => some (a, d, [])) (fun k => rfl) (Ev.now _)
  | succ c ih =>
    intro a d l hc hd hs
    refine Ev.step (f := fun k => node_Clone.l0 k l (l.length : Int) 0 a d []) (fun k => ?_) ?_
    · rw [node_Clone.f, cloneB_f d hd]; rfl
    have hll := szL_len l
    have key : ∀ (m i : Nat), l.length - i = m → i ≤ l.length → Ev (fun k => node_Clone.l0 k l (l.length : Int) (i : Int) a d (l.take i)) (a, d, l) := by
      intro m
      induction m with
      | zero =>
        intro i hm hi
        refine Ev.step (f := fun _ => some (a, d, l)) (fun k => ?_) (Ev.now _)
        rw [node_Clone.l0, if_neg (by omega), List.take_of_length_le (by omega)]
      | succ m ihm =>
        intro i hm hi
        have hlt : i < l.length := by omega
        have hct := ct_mem (List.getElem_mem hlt)
        rw [ctN_eq] at hct
        have hsz := sz_mem (List.getElem_mem hlt)
        have hx := szN_eq l[i]
        have e : ∀ k, node_Clone.l0 (k + 1) l (l.length : Int) (i : Int) a d (l.take i) = (node_Clone.f k l[i].f0 l[i].f1 l[i].f2).bind fun b => (if (l.take i).length < 2513169434916 then (node_Clone.l0 k l (l.length : Int) (wrap64 ((i : Int) + 1)) a d (l.take i ++ [(⟨b.1, b.2.1, b.2.2⟩ : S26)])) else none) := fun k => by
          rw [node_Clone.l0, if_pos (by omega), if_pos (by omega), if_pos (by omega), rdN_at l i hlt]
        refine Ev.step e (Ev.bind (ih l[i].f0 l[i].f1 l[i].f2 (by omega) (by omega) (by omega)) ?_)
        refine Ev.congr (fun k => if_pos (by rw [List.length_take]; omega)) ?_
        rw [w64 (by omega) (by omega)]
        have := ihm (i + 1) (by omega) (by omega)
        rw [List.take_succ_eq_append_getElem hlt] at this
        dsimp only
        rw [etaN]
        exact this
    exact key l.length 0 rfl (Nat.zero_le _)
theorem chunkClone_ev (t fl : Int) (d : List Int) (l : List S26) (hs : d.length + szL l ≤ 4194300) : Ev (fun k => chunk_Clone.f k t fl d l) (t, fl, d, l) := by
  have h := nodeClone_ev (ctL l) 0 [] l (Nat.le_refl _) (by simp) (by omega)
  refine Ev.congr (f := fun k => (node_Clone.f k 0 [] l).bind fun b => some (t, fl, d, b.2.2)) (fun k => ?_) (Ev.bind h (Ev.now _))
  unfold chunk_Clone.f
  rw [cloneB_f d (by omega)]
  rfl
def oddT (t : Int) : Bool := decide (t < 13) || decide (18 < t)
set_option maxHeartbeats 1000000 in
theorem make1 (t : Int) (A1 : Option Addr) (n1 c1 : Nat) (A2 : Option Addr) (n2 c2 : Nat) (w : World) :
    Calls Tryz.prog 35 #[.agg #[.int .u16 t, .slice A1 n1 c1, .slice A2 n2 c2]] w fun e w' => e = .returned (.bool (oddT t)) ∧ Below w.heap.size w w' := by
  have hd : oddT t = (decide (t < 13) || decide (18 < t)) := rfl
  have HD := Aside0.mk hd
  clear hd
  by_cases h1 : t < 13
  · have HR := Aside0.mk (show oddT t = true from by unfold oddT; simp [h1])
    clear HD
    go_enter Tryz.func35, Tryz.ntmps35
    go_wp2
    go_ret
    exact ⟨by rw [HR.out]; rfl, (Below.refl _ w).alloc (Nat.le_refl _) _⟩
  · by_cases h2 : 18 < t
    · have HR := Aside0.mk (show oddT t = true from by unfold oddT; simp [h2])
      clear HD
      go_enter Tryz.func35, Tryz.ntmps35
      go_wp2
      go_ret
      exact ⟨by rw [HR.out]; rfl, (Below.refl _ w).alloc (Nat.le_refl _) _⟩
    · have HR := Aside0.mk (show oddT t = false from by unfold oddT; simp [h1, h2])
      clear HD
      go_enter Tryz.func35, Tryz.ntmps35
      go_wp2
      go_ret
      exact ⟨by rw [HR.out]; rfl, (Below.refl _ w).alloc (Nat.le_refl _) _⟩
def FoundB (b : Bool) (r : Int) : Prop := decide (0 ≤ r) = b
set_option maxHeartbeats 2000000 in
theorem indexOdd (l : List S26) (A : Option Addr) (c : Nat) (hl : l.length ≤ 4194304) (w : World) (h : Kd.C k26 w A l.length l) :
    Calls Tryz.prog 60 #[.slice A l.length c, .func (.func 35) #[] #[]] w fun e w' => (∃ r : Int, e = .returned (.int .i64 r) ∧ FoundB (l.any fun n => oddT n.f0) r) ∧ Below w.heap.size w w' := by
  have HC := Aside0.mk h
  have hl2 : (l.length : Int) ≤ 4194304 := by omega
  clear h hl
  go_enter Tryz.func60, Tryz.ntmps60
  go_wp2
  go_loopw [8] (fun i W => ∃ j : Nat, j ≤ l.length ∧ i = .int .i64 j ∧ Aside0 (((l.take j).any fun n => oddT n.f0) = false) ∧ Aside0 (Below w.heap.size w W)) (fun i _ => l.length - (intOf i).toNat)
  case atStart => exact ⟨0, Nat.zero_le _, rfl, ⟨rfl⟩, ⟨Below.refl _ w⟩⟩
  case round =>
    obtain ⟨j, hj, rfl, HF, HB⟩ := hrel
    have HRW := Aside0.mk (Kd.C_below HC.out HB.out)
    by_cases hlt : j < l.length
    · obtain ⟨ad, B1, d1, B2, d2, e, hx0, hx1, hx2, l1, g1, l2, g2⟩ := at_T26 HRW.out (j : Int) (by omega) (by omega)
      rw [rdN_at l j hlt] at hx0 hx1 hx2 l1 g1 l2 g2
      rw [Int.toNat_natCast] at hx0 hx1 hx2
      subst e
      have HT := Aside0.mk (show (l.take (j + 1)).any (fun n => oddT n.f0) = oddT l[j].f0 from by rw [List.take_succ_eq_append_getElem hlt, List.any_append, HF.out]; simp)
      have HM := Aside0.mk (show oddT l[j].f0 = true → l.any (fun n => oddT n.f0) = true from fun h => List.any_eq_true.2 ⟨l[j], List.getElem_mem hlt, h⟩)
      obtain ⟨x, hx⟩ : ∃ x, x = l[j] := ⟨_, rfl⟩
      rw [← hx] at hx0 hx1 hx2 HT HM
      clear hx l1 g1 l2 g2
      have hlt2 : (j : Int) < (l.length : Int) := by omega
      have H1 := Aside0.mk (fun W => make1 x.f0 B1 x.f1.length d1 B2 x.f2.length d2 W)
      cases hb : oddT x.f0 with
      | true =>
        have HR := Aside0.mk (HM.out hb)
        rw [hb] at H1
        clear hb HT HM HF
        go_wp2_with (first | (go_at_call 35; refine (H1.out _).mono ?_; rintro e w1 ⟨rfl, hb⟩; have HB1 := Aside0.mk (HB.out.trans (hb.mono HB.out.size)); clear hb))
        go_ret
        exact ⟨⟨_, rfl, by unfold FoundB; rw [HR.out]; simp⟩, HB1.out⟩
      | false =>
        have HR := Aside0.mk (HT.out.trans hb)
        rw [hb] at H1
        clear hb HT HM HF
        go_wp2_with (first | (go_at_call 35; refine (H1.out _).mono ?_; rintro e w1 ⟨rfl, hb⟩; have HB1 := Aside0.mk (HB.out.trans (hb.mono HB.out.size)); clear hb))
        refine ⟨⟨j + 1, by omega, by go_num, ⟨HR.out⟩, ⟨HB1.out⟩⟩, by simp [intOf]; omega⟩
    · obtain rfl : j = l.length := by omega
      have HR := Aside0.mk (show (l.any fun n => oddT n.f0) = false from by have := HF.out; rwa [List.take_length] at this)
      clear HF
      go_wp2
      go_ret
      exact ⟨⟨_, rfl, by unfold FoundB; rw [HR.out]; rfl⟩, HB.out⟩
set_option maxHeartbeats 1000000 in
theorem containsOdd (l : List S26) (A : Option Addr) (c : Nat) (b : Bool) (hb : (l.any fun n => oddT n.f0) = b) (hl : l.length ≤ 4194304) (w : World) (h : Kd.C k26 w A l.length l) :
    Calls Tryz.prog 36 #[.slice A l.length c, .func (.func 35) #[] #[]] w fun e w' => e = .returned (.bool b) ∧ Below w.heap.size w w' := by
  have HI := Aside0.mk (indexOdd l A c hl w h)
  have HB := Aside0.mk hb
  clear hb h hl
  go_enter Tryz.func36, Tryz.ntmps36
  go_wp2_with (first | (go_at_call 60; refine HI.out.mono ?_; rintro e w1 ⟨⟨r, rfl, hr⟩, hb⟩; have HR := Aside0.mk (show decide (0 ≤ r) = b from hr.trans HB.out); have HBB := Aside0.mk hb; clear hr hb))
  go_ret
  exact ⟨by rw [← HR.out]; rfl, HBB.out⟩
def makeOk (l : List S26) : Bool := !(l.any fun n => oddT n.f0) && chkC 130 0 [] l == 0
def stream_Make.f (l0 : List S26) : Option (Int × Int × List Int × List S26 × Bool) :=
  if tameC 130 0 [] l0 then (if makeOk l0 then some (130, 0, [], l0, true) else some (0, 0, [], [], false)) else none
set_option maxRecDepth 100000 in
set_option maxHeartbeats 2000000 in
theorem stream_Make.calls (A0 : Option Addr) (c0 : Nat) (l0 : List S26) (r1 r2 : Int) (r3 : List Int) (r4 : List S26) (r5 : Bool) (w : World) (hr0 : Kd.C k26 w A0 l0.length l0) (hc0 : l0.length ≤ c0) (hL_ : Laid w) (h : stream_Make.f l0 = some (r1, r2, r3, r4, r5)) :
    Calls Tryz.prog 15 #[.slice A0 l0.length c0] w fun e w' => ∃ v2_ v3_ : Value, e = .returned (.tuple #[.agg #[.int .u8 r1, .int .u8 r2, v2_, v3_], .bool r5]) ∧ Kd.R (Kd.int .u8) 5 w' w.heap.size (fun _ => True) v2_ r3 ∧ Kd.R k26 26 w' w.heap.size (fun k_ => some k_ ≠ (v2_ : Value).ownBlock) v3_ r4 ∧ Below w.heap.size w w' := by
  unfold stream_Make.f at h
  by_cases ht : tameC 130 0 [] l0 = true
  · rw [if_pos ht] at h
    obtain ⟨_, _, _, hok, hsz⟩ := tameC_iff ht
    have hll := szL_len l0
    have hlen : l0.length ≤ 4194304 := by simp at hsz; omega
    have hnil : ∀ W, Kd.C (Kd.int .u8) W none ([] : List Int).length [] := fun W => ⟨rfl, by simp, fun h => absurd h (by simp)⟩
    obtain ⟨X, hX⟩ : ∃ X, X = (w.alloc (.cells #[.int .u8 0, .int .u8 0, .slice none 0 0, .slice none 0 0] 37)).alloc (.cells #[.int .u8 130, .int .u8 0, .slice none 0 0, .slice A0 l0.length c0] 37) := ⟨_, rfl⟩
    have hBX : Below w.heap.size w X := by rw [hX]; exact ((Below.refl _ w).alloc (Nat.le_refl _) _).alloc (by simp) _
    have HCO := Aside0.mk (containsOdd l0 A0 c0 (l0.any fun n => oddT n.f0) rfl hlen X (Kd.C_below hr0 hBX))
    have BK0 : X.heap[w.heap.size]? = some (.cells #[.int .u8 0, .int .u8 0, .slice none 0 0, .slice none 0 0] 37 (0, 0)) := by rw [hX]; exact blk_alloc (heap_alloc_new w _) _
    have BK1 : X.heap[w.heap.size + 1]? = some (.cells #[.int .u8 130, .int .u8 0, .slice none 0 0, .slice A0 l0.length c0] 37 (0, 0)) := by
      have h := heap_alloc_new (w.alloc (.cells #[.int .u8 0, .int .u8 0, .slice none 0 0, .slice none 0 0] 37)) (.cells #[.int .u8 130, .int .u8 0, .slice none 0 0, .slice A0 l0.length c0] 37)
      rw [show (w.alloc (.cells #[.int .u8 0, .int .u8 0, .slice none 0 0, .slice none 0 0] 37)).heap.size = w.heap.size + 1 from by simp] at h
      rw [hX]; exact h
    have BK0 := Aside0.mk BK0
    have BK1 := Aside0.mk BK1
    have HBX := Aside0.mk hBX
    rw [hX] at HCO BK0 BK1 HBX
    have HCK := Aside0.mk (fun W (hb : Below w.heap.size w W) => chunkCheck.any 130 0 [] l0 none 0 A0 c0 ht W (hnil W) (Nat.le_refl _) (Kd.C_below hr0 hb) hc0 (hL_.below hb))
    have hcl := chunkClone_ev 130 0 [] l0 hsz
    obtain ⟨kc, hkc⟩ := hcl.rounds
    have HCL := Aside0.mk (fun W (hb : Below w.heap.size w W) => chunk_Clone.calls kc 130 0 none 0 [] A0 c0 l0 _ _ _ _ W (hnil W) (Nat.le_refl _) (Kd.C_below hr0 hb) hc0 hkc)
    unfold makeOk at h
    clear hX hBX hkc hcl ht hok hsz hll hlen hnil hr0 hc0 hL_
    cases hany : (l0.any fun n => oddT n.f0) with
    | true =>
      rw [hany] at h HCO
      have h := Option.some.inj h
      simp only [Prod.mk.injEq] at h
      obtain ⟨rfl, rfl, rfl, rfl, rfl⟩ := h
      clear hany HCK HCL
      go_enter Tryz.func15, Tryz.ntmps15
      go_wp2_with (first | (go_at_call 36; refine HCO.out.mono ?_; rintro e w1 ⟨rfl, hb⟩; have HB1 := Aside0.mk (HBX.out.trans (hb.mono HBX.out.size)); have K0 := Aside0.mk (blk_below BK0.out hb); have K1 := Aside0.mk (blk_below BK1.out hb); have z0 := (blk_cell K0.out 0).trans (show _ = some (Value.int .u8 0) from rfl); have z1 := (blk_cell K0.out 1).trans (show _ = some (Value.int .u8 0) from rfl); have z2 := (blk_cell K0.out 2).trans (show _ = some (Value.slice none 0 0) from rfl); have z3 := (blk_cell K0.out 3).trans (show _ = some (Value.slice none 0 0) from rfl); have f0 := blk_frozen K0.out 0; have f1 := blk_frozen K0.out 1; have f2 := blk_frozen K0.out 2; have f3 := blk_frozen K0.out 3; have y0 := (blk_cell K1.out 0).trans (show _ = some (Value.int .u8 130) from rfl); have y1 := (blk_cell K1.out 1).trans (show _ = some (Value.int .u8 0) from rfl); have y2 := (blk_cell K1.out 2).trans (show _ = some (Value.slice none 0 0) from rfl); have y3 := (blk_cell K1.out 3).trans (show _ = some (Value.slice A0 l0.length c0) from rfl); clear hb))
      refine bodyPost_ret (results_ct rfl _ _ w.heap.size 37 #[.int .u8 0, .int .u8 0, .slice none 0 0, .slice none 0 0] (0, 0) _ rfl (by refine blk_put (cs := #[.int .u8 0, .int .u8 0, .slice none 0 0, .slice none 0 0]) ?_ 3 _ rfl; refine blk_put (cs := #[.int .u8 0, .int .u8 0, .slice none 0 0, .slice none 0 0]) ?_ 2 _ rfl; refine blk_put (cs := #[.int .u8 0, .int .u8 0, .slice none 0 0, .slice none 0 0]) ?_ 1 _ rfl; refine blk_put (cs := #[.int .u8 0, .int .u8 0, .slice none 0 0, .slice none 0 0]) ?_ 0 _ rfl; exact K0.out) Tryz.underlying37 rfl (by kernel_rfl)) rfl ?_
      exact ⟨_, _, rfl, Kd.R_nil _ _ _ _ _, Kd.R_nil _ _ _ _ _, (((HB1.out.setCell (Nat.le_refl _) _).setCell (Nat.le_refl _) _).setCell (Nat.le_refl _) _).setCell (Nat.le_refl _) _⟩
    | false =>
      rw [hany] at h HCO
      clear hany
      by_cases hc : chkC 130 0 [] l0 = 0
      · rw [hc] at h
        have h := Option.some.inj h
        simp only [Prod.mk.injEq] at h
        obtain ⟨rfl, rfl, rfl, rfl, rfl⟩ := h
        have HE := Aside0.mk (show errI (chkC 130 0 [] l0) = .nilIface from by rw [hc]; rfl)
        rw [HE.out] at HCK
        clear hc HE
        go_enter Tryz.func15, Tryz.ntmps15
        go_wp2_with (first | (go_at_call 36; refine HCO.out.mono ?_; rintro e w1 ⟨rfl, hb⟩; have HB1 := Aside0.mk (HBX.out.trans (hb.mono HBX.out.size)); have K0 := Aside0.mk (blk_below BK0.out hb); have K1 := Aside0.mk (blk_below BK1.out hb); have z0 := (blk_cell K0.out 0).trans (show _ = some (Value.int .u8 0) from rfl); have z1 := (blk_cell K0.out 1).trans (show _ = some (Value.int .u8 0) from rfl); have z2 := (blk_cell K0.out 2).trans (show _ = some (Value.slice none 0 0) from rfl); have z3 := (blk_cell K0.out 3).trans (show _ = some (Value.slice none 0 0) from rfl); have f0 := blk_frozen K0.out 0; have f1 := blk_frozen K0.out 1; have f2 := blk_frozen K0.out 2; have f3 := blk_frozen K0.out 3; have y0 := (blk_cell K1.out 0).trans (show _ = some (Value.int .u8 130) from rfl); have y1 := (blk_cell K1.out 1).trans (show _ = some (Value.int .u8 0) from rfl); have y2 := (blk_cell K1.out 2).trans (show _ = some (Value.slice none 0 0) from rfl); have y3 := (blk_cell K1.out 3).trans (show _ = some (Value.slice A0 l0.length c0) from rfl); clear hb) | (go_at_call 37; refine (HCK.out _ HB1.out).mono ?_; rintro e w2 ⟨rfl, hb⟩; have HB2 := Aside0.mk (HB1.out.trans (hb.mono HB1.out.size)); have K0 := Aside0.mk (blk_below K0.out hb); have K1 := Aside0.mk (blk_below K1.out hb); clear z0 z1 z2 z3 f0 f1 f2 f3 y0 y1 y2 y3; have z0 := (blk_cell K0.out 0).trans (show _ = some (Value.int .u8 0) from rfl); have z1 := (blk_cell K0.out 1).trans (show _ = some (Value.int .u8 0) from rfl); have z2 := (blk_cell K0.out 2).trans (show _ = some (Value.slice none 0 0) from rfl); have z3 := (blk_cell K0.out 3).trans (show _ = some (Value.slice none 0 0) from rfl); have f0 := blk_frozen K0.out 0; have f1 := blk_frozen K0.out 1; have f2 := blk_frozen K0.out 2; have f3 := blk_frozen K0.out 3; have y0 := (blk_cell K1.out 0).trans (show _ = some (Value.int .u8 130) from rfl); have y1 := (blk_cell K1.out 1).trans (show _ = some (Value.int .u8 0) from rfl); have y2 := (blk_cell K1.out 2).trans (show _ = some (Value.slice none 0 0) from rfl); have y3 := (blk_cell K1.out 3).trans (show _ = some (Value.slice A0 l0.length c0) from rfl); clear hb) | (go_at_call 38; refine (HCL.out _ HB2.out).mono ?_; rintro e w3 ⟨v2, v3, rfl, hr2, hr3, hb⟩; have HB3 := Aside0.mk (HB2.out.trans (hb.mono HB2.out.size)); obtain ⟨Ap, cp, rfl⟩ := Kd.R_slice hr2; obtain ⟨Aq, cq, rfl⟩ := Kd.R_slice hr3; have RA := Aside0.mk (Kd.R_lower hr2 HB2.out.size); have RB := Aside0.mk (Kd.R_lower hr3 HB2.out.size); have K0 := Aside0.mk (blk_below K0.out hb); have K1 := Aside0.mk (blk_below K1.out hb); clear z0 z1 z2 z3 f0 f1 f2 f3 y0 y1 y2 y3; have z0 := (blk_cell K0.out 0).trans (show _ = some (Value.int .u8 0) from rfl); have z1 := (blk_cell K0.out 1).trans (show _ = some (Value.int .u8 0) from rfl); have z2 := (blk_cell K0.out 2).trans (show _ = some (Value.slice none 0 0) from rfl); have z3 := (blk_cell K0.out 3).trans (show _ = some (Value.slice none 0 0) from rfl); have f0 := blk_frozen K0.out 0; have f1 := blk_frozen K0.out 1; have f2 := blk_frozen K0.out 2; have f3 := blk_frozen K0.out 3; have y0 := (blk_cell K1.out 0).trans (show _ = some (Value.int .u8 130) from rfl); have y1 := (blk_cell K1.out 1).trans (show _ = some (Value.int .u8 0) from rfl); have y2 := (blk_cell K1.out 2).trans (show _ = some (Value.slice none 0 0) from rfl); have y3 := (blk_cell K1.out 3).trans (show _ = some (Value.slice A0 l0.length c0) from rfl); clear hb hr2 hr3))
        refine bodyPost_ret (results_ct rfl _ _ w.heap.size 37 #[.int .u8 130, .int .u8 0, .slice Ap ([] : List Int).length cp, .slice Aq l0.length cq] (0, 0) _ rfl (by refine blk_put (cs := #[.int .u8 130, .int .u8 0, .slice Ap ([] : List Int).length cp, .slice none 0 0]) ?_ 3 _ rfl; refine blk_put (cs := #[.int .u8 130, .int .u8 0, .slice none 0 0, .slice none 0 0]) ?_ 2 _ rfl; refine blk_put (cs := #[.int .u8 130, .int .u8 0, .slice none 0 0, .slice none 0 0]) ?_ 1 _ rfl; refine blk_put (cs := #[.int .u8 0, .int .u8 0, .slice none 0 0, .slice none 0 0]) ?_ 0 _ rfl; exact K0.out) Tryz.underlying37 rfl (by kernel_rfl)) rfl ?_
        exact ⟨_, _, rfl, Kd.R_mono (Kd.R_far (p := ⟨w.heap.size, 3, none⟩) (Kd.R_far (p := ⟨w.heap.size, 2, none⟩) (Kd.R_far (p := ⟨w.heap.size, 1, none⟩) (Kd.R_far (p := ⟨w.heap.size, 0, none⟩) (Kd.R_types RA.out K0.out (by decide)) (fun _ hk => hk.2) _) (fun _ hk => hk.2) _) (fun _ hk => hk.2) _) (fun _ hk => hk.2) _) (fun _ hk => trivial), Kd.R_mono (Kd.R_far (p := ⟨w.heap.size, 3, none⟩) (Kd.R_far (p := ⟨w.heap.size, 2, none⟩) (Kd.R_far (p := ⟨w.heap.size, 1, none⟩) (Kd.R_far (p := ⟨w.heap.size, 0, none⟩) (Kd.R_types RB.out K0.out (by decide)) (fun _ hk => hk.2) _) (fun _ hk => hk.2) _) (fun _ hk => hk.2) _) (fun _ hk => hk.2) _) (fun _ hk => hk.1), (((HB3.out.setCell (Nat.le_refl _) _).setCell (Nat.le_refl _) _).setCell (Nat.le_refl _) _).setCell (Nat.le_refl _) _⟩
      · rw [show (chkC 130 0 [] l0 == 0) = false from by simp [hc]] at h
        have h := Option.some.inj h
        simp only [Prod.mk.injEq] at h
        obtain ⟨rfl, rfl, rfl, rfl, rfl⟩ := h
        have HE := Aside0.mk (show errI (chkC 130 0 [] l0) = .iface 101 (.int .i64 (chkC 130 0 [] l0)) from by unfold errI; rw [if_neg hc]; rfl)
        rw [HE.out] at HCK
        generalize chkC 130 0 [] l0 = v at HCK
        clear hc HE HCL
        go_enter Tryz.func15, Tryz.ntmps15
        go_wp2_with (first | (go_at_call 36; refine HCO.out.mono ?_; rintro e w1 ⟨rfl, hb⟩; have HB1 := Aside0.mk (HBX.out.trans (hb.mono HBX.out.size)); have K0 := Aside0.mk (blk_below BK0.out hb); have K1 := Aside0.mk (blk_below BK1.out hb); have z0 := (blk_cell K0.out 0).trans (show _ = some (Value.int .u8 0) from rfl); have z1 := (blk_cell K0.out 1).trans (show _ = some (Value.int .u8 0) from rfl); have z2 := (blk_cell K0.out 2).trans (show _ = some (Value.slice none 0 0) from rfl); have z3 := (blk_cell K0.out 3).trans (show _ = some (Value.slice none 0 0) from rfl); have f0 := blk_frozen K0.out 0; have f1 := blk_frozen K0.out 1; have f2 := blk_frozen K0.out 2; have f3 := blk_frozen K0.out 3; have y0 := (blk_cell K1.out 0).trans (show _ = some (Value.int .u8 130) from rfl); have y1 := (blk_cell K1.out 1).trans (show _ = some (Value.int .u8 0) from rfl); have y2 := (blk_cell K1.out 2).trans (show _ = some (Value.slice none 0 0) from rfl); have y3 := (blk_cell K1.out 3).trans (show _ = some (Value.slice A0 l0.length c0) from rfl); clear hb) | (go_at_call 37; refine (HCK.out _ HB1.out).mono ?_; rintro e w2 ⟨rfl, hb⟩; have HB2 := Aside0.mk (HB1.out.trans (hb.mono HB1.out.size)); have K0 := Aside0.mk (blk_below K0.out hb); have K1 := Aside0.mk (blk_below K1.out hb); clear z0 z1 z2 z3 f0 f1 f2 f3 y0 y1 y2 y3; have z0 := (blk_cell K0.out 0).trans (show _ = some (Value.int .u8 0) from rfl); have z1 := (blk_cell K0.out 1).trans (show _ = some (Value.int .u8 0) from rfl); have z2 := (blk_cell K0.out 2).trans (show _ = some (Value.slice none 0 0) from rfl); have z3 := (blk_cell K0.out 3).trans (show _ = some (Value.slice none 0 0) from rfl); have f0 := blk_frozen K0.out 0; have f1 := blk_frozen K0.out 1; have f2 := blk_frozen K0.out 2; have f3 := blk_frozen K0.out 3; have y0 := (blk_cell K1.out 0).trans (show _ = some (Value.int .u8 130) from rfl); have y1 := (blk_cell K1.out 1).trans (show _ = some (Value.int .u8 0) from rfl); have y2 := (blk_cell K1.out 2).trans (show _ = some (Value.slice none 0 0) from rfl); have y3 := (blk_cell K1.out 3).trans (show _ = some (Value.slice A0 l0.length c0) from rfl); clear hb))
        refine bodyPost_ret (results_ct rfl _ _ w.heap.size 37 #[.int .u8 0, .int .u8 0, .slice none 0 0, .slice none 0 0] (0, 0) _ rfl (by refine blk_put (cs := #[.int .u8 0, .int .u8 0, .slice none 0 0, .slice none 0 0]) ?_ 3 _ rfl; refine blk_put (cs := #[.int .u8 0, .int .u8 0, .slice none 0 0, .slice none 0 0]) ?_ 2 _ rfl; refine blk_put (cs := #[.int .u8 0, .int .u8 0, .slice none 0 0, .slice none 0 0]) ?_ 1 _ rfl; refine blk_put (cs := #[.int .u8 0, .int .u8 0, .slice none 0 0, .slice none 0 0]) ?_ 0 _ rfl; exact K0.out) Tryz.underlying37 rfl (by kernel_rfl)) rfl ?_
        exact ⟨_, _, rfl, Kd.R_nil _ _ _ _ _, Kd.R_nil _ _ _ _ _, (((HB2.out.setCell (Nat.le_refl _) _).setCell (Nat.le_refl _) _).setCell (Nat.le_refl _) _).setCell (Nat.le_refl _) _⟩
  · rw [if_neg ht] at h; cases h
end Go.Proofs.YtpgfhbdnlojdfaaGreatDoor.P
