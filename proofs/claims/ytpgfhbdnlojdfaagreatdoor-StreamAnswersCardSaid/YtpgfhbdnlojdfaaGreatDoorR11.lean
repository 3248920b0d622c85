/- Packed by wip/tools/pack.py out of Seq. -/
import Derived.RangeFuncNested
import Derived.RangeFuncBound
import Derived.RangeFuncCalls
import Derived.RangeFuncLeaves
import Derived.Shelf.Abstract
import Derived.WalkKit
import Derived.OwnWalkIn
import Derived.TacticsInMore
import Derived.LoopNIn
import Derived.LoopIn
import Derived.RegionIn
import Derived.RecoverIn
namespace Go.Proofs.YtpgfhbdnlojdfaaGreatDoor.Seq
open Go Go.RowKit
structure Keeps (Need : Nat → Prop) (B : Nat) (O : Nat → Prop) (W W' : World) : Prop where
  size : W.heap.size ≤ W'.heap.size
  same : ∀ i, i < W.heap.size → (Need i ∨ (B ≤ i ∧ ¬ O i)) → W'.heap[i]? = W.heap[i]?
def Sub (O O' : Nat → Prop) (W : World) : Prop := ∀ k, O' k → O k ∨ W.heap.size ≤ k
theorem Keeps.refl (Need : Nat → Prop) (B : Nat) (O : Nat → Prop) (W : World) : Keeps Need B O W W := ⟨Nat.le_refl _, fun _ _ _ => rfl⟩
theorem Keeps.trans {Need : Nat → Prop} {B : Nat} {O : Nat → Prop} {X Y Z : World} (h : Keeps Need B O X Y) (k : Keeps Need B O Y Z) : Keeps Need B O X Z :=
  ⟨Nat.le_trans h.size k.size, fun i hi hn => (k.same i (Nat.lt_of_lt_of_le hi h.size) hn).trans (h.same i hi hn)⟩
theorem Keeps.of_grown {Need : Nat → Prop} {B : Nat} {O : Nat → Prop} {W W' : World} {row : Option Nat} (hg : W.grownBy W' row) (hr : ∀ r, row = some r → ¬ Need r ∧ (r < B ∨ O r)) : Keeps Need B O W W' :=
  ⟨hg.size, fun i hi hn => hg.block i hi (fun e => by
    have := hr i e.symm
    rcases hn with h | h
    · exact this.1 h
    · rcases this.2 with h2 | h2
      · omega
      · exact h.2 h2)⟩
theorem Keeps.of_below {Need : Nat → Prop} {B : Nat} {O : Nat → Prop} {W W' : World} (h : Below W.heap.size W W') : Keeps Need B O W W' := ⟨h.size, fun i hi _ => h.block i hi⟩
theorem Keeps.mono {Need Need' : Nat → Prop} {B B' : Nat} {O O' : Nat → Prop} {W W' : World} (h : Keeps Need B O W W') (hn : ∀ i, i < W.heap.size → (Need' i ∨ (B' ≤ i ∧ ¬ O' i)) → (Need i ∨ (B ≤ i ∧ ¬ O i))) : Keeps Need' B' O' W W' :=
  ⟨h.size, fun i hi hx => h.same i hi (hn i hi hx)⟩
def St {α : Type} (B : Nat) (J : List α → (Nat → Prop) → World → Prop) : Prop :=
  ∀ pre O W W' row, J pre O W → W.grownBy W' row → (∀ r, row = some r → B ≤ r ∧ ¬ O r) → J pre O W'
theorem St.mono {α : Type} {B B' : Nat} {J : List α → (Nat → Prop) → World → Prop} (h : St B J) (hb : B ≤ B') : St B' J :=
  fun pre O W W' row hs hg hr => h pre O W W' row hs hg (fun r e => ⟨Nat.le_trans hb (hr r e).1, (hr r e).2⟩)
theorem St.put {α : Type} {B : Nat} {J : List α → (Nat → Prop) → World → Prop} (h : St B J) {pre : List α} {O : Nat → Prop} {W : World} {l : Nat} (o' : Obj) (hs : J pre O W) (hl : B ≤ l) (ho : ¬ O l) : J pre O (W.putObj l o') :=
  h pre O W _ (some l) hs (grownBy_putObj' W l o') (fun r e => by cases e; exact ⟨hl, ho⟩)
theorem St.below {α : Type} {B : Nat} {J : List α → (Nat → Prop) → World → Prop} (h : St B J) {pre : List α} {O : Nat → Prop} {W W' : World} (hs : J pre O W) (hb : Below W.heap.size W W') : J pre O W' :=
  h pre O W W' none hs ⟨hb.os, hb.tape, hb.output, hb.size, fun i hi _ => hb.block i hi⟩ (fun r e => by cases e)
def SeqL {α : Type} (P : Program) (g : Nat) (lb : Array Value) (encs : α → Array Value) (Need : Nat → Prop) (xs : List α) (w : World) : Prop :=
  ∀ (m l : Nat) (J Jx : List α → (Nat → Prop) → World → Prop) (W : World), Below w.heap.size w W → St W.heap.size J → St W.heap.size Jx →
    (∀ pre x rest O W1, xs = pre ++ x :: rest → (∀ k, O k → W.heap.size ≤ k) → J pre O W1 → YieldAt Fence.wide m P l (encs x) W1 fun e W' =>
      (e = .returned (.bool true) ∧ ∃ O', J (pre ++ [x]) O' W' ∧ Keeps Need W.heap.size O W1 W' ∧ Sub O O' W1) ∨ (e = .returned (.bool false) ∧ ∃ O', Jx (pre ++ [x]) O' W' ∧ Keeps Need W.heap.size O W1 W' ∧ Sub O O' W1)) →
    J [] (fun _ => False) W →
    CallsIn Fence.wide m P g (#[.func (.yield l) #[] #[]] ++ lb) W fun e W' => (∃ v, e = .returned v) ∧ ((∃ O', J xs O' W') ∨ (∃ pre rest O', xs = pre ++ rest ∧ Jx pre O' W'))
theorem roundIn_any {m m' : Nat} {P : Program} {l : Nat} {f : FuncId} {tmps : Array Value} {assign body : Code} {W : World} {R : Ending → World → Prop} (h : RoundIn Fence.wide m P l f tmps assign body W R) : RoundIn Fence.wide m' P l f tmps assign body W R :=
  ⟨h.1, fun c cs _ => h.2 c cs (room_wide _)⟩
def postW {α : Type} (Need : Nat → Prop) (B : Nat) (I : List α → (Nat → Prop) → World → Prop) (Ix : Code → List α → (Nat → Prop) → World → Prop) (xs : List α) (O : Nat → Prop) (W : World) : Exit → Act → World → Prop
  | .normal, _, W' => ∃ O', Keeps Need B O W W' ∧ Sub O O' W ∧ I xs O' W'
  | .ret, _, W' => ∃ O', Keeps Need B O W W' ∧ Sub O O' W ∧ Ix .ret xs O' W'
  | .exit id, _, W' => ∃ O', Keeps Need B O W W' ∧ Sub O O' W ∧ Ix (.exit id) xs O' W'
  | .goto t, _, W' => ∃ O', Keeps Need B O W W' ∧ Sub O O' W ∧ Ix (.goto t) xs O' W'
  | .panic _, _, _ => False
  | .outgrown, _, _ => False
theorem heap_up {W W' : World} {row : Option Nat} {k : Nat} {o : Obj} (hg : W.grownBy W' row) (hr : some k ≠ row) (h : W.heap[k]? = some o) : W'.heap[k]? = some o := (hg.block k (Array.getElem?_eq_some_iff.1 h).1 hr).trans h
variable {P : Program} {m : Nat}
theorem wp_rangeW {α : Type} {g : Operand} {ps : Array Tmp} {assign body : Code} {Q : Exit → Act → World → Prop} {a : Act} {w : World}
    {gf : Nat} {lb : Array Value} (hg : a.eval g = .func (.func gf) #[] lb) (eg : ∀ args w, (callFunc gf args).run P w = .ok (.enter gf args) w)
    {encs : α → Array Value} {Need : Nat → Prop} {xs : List α} {w0 : World} (hseq : SeqL P gf lb encs Need xs w0)
    (hNeed : ∀ i, Need i → i < w.heap.size) (hb0 : Below w0.heap.size w0 w) (hps : ∀ x, (encs x).size = ps.size)
    (I : List α → (Nat → Prop) → World → Prop) (Ix : Code → List α → (Nat → Prop) → World → Prop) (hI : St w.heap.size I) (hIx : ∀ c, St w.heap.size (Ix c)) (h0 : I [] (fun _ => False) w)
    (hround : ∀ (l : Nat) (pre : List α) (x : α) (rest : List α) (O : Nat → Prop) (W : World), xs = pre ++ x :: rest → (∀ k, O k → w.heap.size + 2 ≤ k) → I pre O W →
      assign.wpIn (Fence.wide.inRound l) m P (Exit.then (fun a' W' => W.grownBy W' none ∧
        ∀ W2, I pre O W2 → W'.grownBy W2 (some (w.heap.size + 1)) → body.wpIn (Fence.wide.inRound l) m P (postW Need w.heap.size I Ix (pre ++ [x]) O W2) a' W2) (fun _ _ _ => False))
        { tmps := (ps.zip (encs x)).foldl (fun t (p, v) => t.setIfInBounds p v) a.tmps, defers := [] } W)
    (hdone : ∀ (D : Nat) (O : Nat → Prop) (W : World), w.heap.size ≤ D → ¬ O D → I xs O W → W.heap[D]? = some (.deferred (some [])) → Q .normal { a with defers := { target := .collected D, args := #[] } :: a.defers } W)
    (hstop : ∀ (D : Nat) (c : Code) (pre rest : List α) (O : Nat → Prop) (W : World), w.heap.size ≤ D → ¬ O D → xs = pre ++ rest → Ix c pre O W → W.heap[D]? = some (.deferred (some [])) → c.wpIn Fence.wide m P Q { a with defers := { target := .collected D, args := #[] } :: a.defers } W) :
    (Code.rangeFunc g ps assign body).wpIn Fence.wide m P Q a w := by
  refine wpIn_rangeFunc ?_
  intro fn hfn
  rw [show Fence.wide.round = none from rfl]
  obtain ⟨rec, hrec⟩ : ∃ rec : LoopState → Option Code → Loop, rec = fun st pe => { state := st, pending := pe, fn, tmps := a.tmps, params := ps, assign, body, defers := w.heap.size } := ⟨_, rfl⟩
  obtain ⟨W1, hW1⟩ : ∃ W1, (w.alloc (.deferred (some []))).alloc (.loop (rec .ready none)) = W1 := ⟨_, rfl⟩
  have hL1 : W1.heap[w.heap.size + 1]? = some (.loop (rec .ready none)) := by
    rw [← hW1]; have := World.alloc_heap_new (w.alloc (.deferred (some []))) (.loop (rec .ready none)); rwa [World.size_alloc] at this
  have hK1 : W1.heap[w.heap.size]? = some (.deferred (some [])) := by
    rw [← hW1]; exact (Below.heap_alloc _ _ _ (by simp)).trans (World.alloc_heap_new w _)
  have hs1 : W1.heap.size = w.heap.size + 2 := by rw [← hW1]; simp
  have hb2 : Below w.heap.size w W1 := by rw [← hW1]; exact ((Below.refl _ w).alloc (Nat.le_refl _) _).alloc (by simp) _
  have hI1 : I [] (fun _ => False) W1 := hI.below h0 hb2
  have hb1 : Below w0.heap.size w0 W1 := hb0.trans (hb2.mono hb0.size)
  refine ⟨w.heap.size + 1, [{ target := .collected w.heap.size, args := #[] }], W1, { target := .fn (.func gf) lb, args := #[.func (.yield (w.heap.size + 1)) #[] #[]] }, W1, gf,
    #[.func (.yield (w.heap.size + 1)) #[] #[]] ++ lb, W1, ?_, ?_, ?_, ?_, fun h => by simp [Fence.wide] at h, ?_⟩
  · rw [← hW1, hrec]; exact run_enterLoop_outer _ _ _ _ _
  · simp only [resolve, hg]
    simp [go_sem]
  · intro f' _; trivial
  · simp [invoke, go_sem, eg]
  · have mine : ∀ {A B : World} {O : Nat → Prop} {row : Option Nat} {k : Nat} {o : Obj}, A.grownBy B row → (∀ r, row = some r → W1.heap.size ≤ r ∧ ¬ O r) → k < W1.heap.size → A.heap[k]? = some o → B.heap[k]? = some o :=
      fun hg' hr hk ho => heap_up hg' (fun e => by have := (hr _ e.symm).1; omega) ho
    refine (hseq (m - 1) (w.heap.size + 1)
      (fun pre O W => I pre O W ∧ (∀ k, O k → W1.heap.size ≤ k) ∧ W.heap[w.heap.size + 1]? = some (.loop (rec .ready none)) ∧ W.heap[w.heap.size]? = some (.deferred (some [])))
      (fun pre O W => ∃ c, Ix c pre O W ∧ (∀ k, O k → W1.heap.size ≤ k) ∧ W.heap[w.heap.size + 1]? = some (.loop (rec .done (some c))) ∧ W.heap[w.heap.size]? = some (.deferred (some [])))
      W1 hb1
      (fun s O A B row hs hg' hr => ⟨hI s O A B row hs.1 hg' (fun r e => ⟨by have := (hr r e).1; omega, (hr r e).2⟩), hs.2.1, mine (O := O) hg' hr (by omega) hs.2.2.1, mine (O := O) hg' hr (by omega) hs.2.2.2⟩)
      (fun s O A B row hs hg' hr => by
        obtain ⟨c, hc, ho, hl, hk⟩ := hs
        exact ⟨c, hIx c s O A B row hc hg' (fun r e => ⟨by have := (hr r e).1; omega, (hr r e).2⟩), ho, mine (O := O) hg' hr (by omega) hl, mine (O := O) hg' hr (by omega) hk⟩)
      ?_ ⟨hI1, fun k h => h.elim, hL1, hK1⟩).mono ?_
    · rintro pre x rest O W hx hO ⟨hi, _, hl, hk⟩
      have hO2 : ∀ k, O k → w.heap.size + 2 ≤ k := fun k h => by have := hO k h; omega
      have hlt : w.heap.size + 1 < W.heap.size := (Array.getElem?_eq_some_iff.1 hl).1
      have hy := run_yield (P := P) (args := encs x) hl (by rw [hrec]; exact hps x)
      rw [hrec] at hy
      refine ⟨fn, _, assign, body, hy, roundIn_any (roundIn_of_wpIn (n := m) hfn (wpIn_mono (hround _ pre x rest O W hx hO2 hi) ?_))⟩
      intro e1 a' Wa hA
      cases e1 with
      | ret => exact hA.elim
      | exit _ => exact hA.elim
      | goto _ => exact hA.elim
      | panic _ => exact hA.elim
      | outgrown => exact hA.elim
      | normal =>
      obtain ⟨hga, hbody⟩ := hA
      have hla := heap_up hga (by simp) hl
      have hka := heap_up hga (by simp) hk
      have hlta : w.heap.size + 1 < Wa.heap.size := (Array.getElem?_eq_some_iff.1 hla).1
      refine ⟨_, run_beginRound hla (by rw [hrec]), ?_⟩
      obtain ⟨W2, hW2⟩ : ∃ W2, Wa.putObj (w.heap.size + 1) (.loop { rec .ready none with state := .busy }) = W2 := ⟨_, rfl⟩
      have hg2 : Wa.grownBy W2 (some (w.heap.size + 1)) := by rw [← hW2]; exact grownBy_putObj' _ _ _
      have hl2 : W2.heap[w.heap.size + 1]? = some (.loop { rec .ready none with state := .busy }) := by rw [← hW2]; exact World.putObj_heap_same hlta
      have hk2 : W2.heap[w.heap.size]? = some (.deferred (some [])) := heap_up hg2 (by simp) hka
      have hlt2 : w.heap.size + 1 < W2.heap.size := (Array.getElem?_eq_some_iff.1 hl2).1
      have hi2 : I pre O W2 := hI _ _ _ _ _ (hI _ _ _ _ _ hi hga (fun r e => by cases e)) hg2 (fun r e => by cases e; exact ⟨by omega, fun h => by have := hO2 _ h; omega⟩)
      have hkW : Keeps Need W1.heap.size O W W2 := (Keeps.of_grown hga (fun r e => by cases e)).trans (Keeps.of_grown hg2 (fun r e => by cases e; exact ⟨fun h => by have := hNeed _ h; omega, .inl (by omega)⟩))
      rw [hW2]
      refine wpIn_mono (hbody W2 hi2 hg2) ?_
      have fin : ∀ (jump : Option Code) (W3 : World), Keeps Need w.heap.size O W2 W3 →
          (Instr.endRound (w.heap.size + 1) jump).run P W3 = .ok (.bool jump.isNone) (W3.putObj (w.heap.size + 1) (.loop (rec (if jump.isNone then .ready else .done) jump))) ∧
          (W3.putObj (w.heap.size + 1) (.loop (rec (if jump.isNone then .ready else .done) jump))).heap[w.heap.size + 1]? = some (.loop (rec (if jump.isNone then .ready else .done) jump)) ∧
          (W3.putObj (w.heap.size + 1) (.loop (rec (if jump.isNone then .ready else .done) jump))).heap[w.heap.size]? = some (.deferred (some [])) ∧
          Keeps Need W1.heap.size O W (W3.putObj (w.heap.size + 1) (.loop (rec (if jump.isNone then .ready else .done) jump))) := fun jump W3 hk3 => by
        have hl3 : W3.heap[w.heap.size + 1]? = some (.loop { rec .ready none with state := .busy }) := (hk3.same _ (Array.getElem?_eq_some_iff.1 hl2).1 (.inr ⟨by omega, fun h => by have := hO2 _ h; omega⟩)).trans hl2
        have hk4 : W3.heap[w.heap.size]? = some (.deferred (some [])) := (hk3.same _ (Array.getElem?_eq_some_iff.1 hk2).1 (.inr ⟨by omega, fun h => by have := hO2 _ h; omega⟩)).trans hk2
        have := run_endRound (P := P) jump hl3
        rw [hrec] at this ⊢
        refine ⟨this, World.putObj_heap_same (Array.getElem?_eq_some_iff.1 hl3).1, (World.putObj_heap_other (by omega)).trans hk4, (hkW.trans (hk3.mono (fun i hi hn => hn.elim .inl (fun h => .inr ⟨by omega, h.2⟩)))).trans (Keeps.of_grown (grownBy_putObj' _ _ _) (fun r e => by cases e; exact ⟨fun h => by have := hNeed _ h; omega, .inl (by omega)⟩))⟩
      have own' : ∀ {O' : Nat → Prop}, Sub O O' W2 → (∀ k, O' k → W1.heap.size ≤ k) ∧ Sub O O' W ∧ ¬ O' (w.heap.size + 1) := by
        intro O' hs
        have hsz : W.heap.size ≤ W2.heap.size := hkW.size
        have h1 : ∀ k, O' k → W1.heap.size ≤ k := fun k h => (hs k h).elim (hO k) (fun h2 => by omega)
        exact ⟨h1, fun k h => (hs k h).elim .inl (fun h2 => .inr (by omega)), fun h => by have := h1 _ h; omega⟩
      rintro e a3 W3 hp
      cases e with
      | normal =>
        obtain ⟨O', hk3, hsub, hi3⟩ := hp
        obtain ⟨hr, hl4, hk4, hkk⟩ := fin none W3 hk3
        obtain ⟨ho1, ho2, ho3⟩ := own' hsub
        exact ⟨_, _, hr, .inl ⟨rfl, O', ⟨hI.put _ hi3 (by omega) ho3, ho1, hl4, hk4⟩, hkk, ho2⟩⟩
      | ret =>
        obtain ⟨O', hk3, hsub, hi3⟩ := hp
        obtain ⟨hr, hl4, hk4, hkk⟩ := fin (some .ret) W3 hk3
        obtain ⟨ho1, ho2, ho3⟩ := own' hsub
        exact ⟨_, _, hr, .inr ⟨rfl, O', ⟨.ret, (hIx _).put _ hi3 (by omega) ho3, ho1, hl4, hk4⟩, hkk, ho2⟩⟩
      | exit id =>
        obtain ⟨O', hk3, hsub, hi3⟩ := hp
        obtain ⟨hr, hl4, hk4, hkk⟩ := fin (some (.exit id)) W3 hk3
        obtain ⟨ho1, ho2, ho3⟩ := own' hsub
        exact ⟨_, _, hr, .inr ⟨rfl, O', ⟨.exit id, (hIx _).put _ hi3 (by omega) ho3, ho1, hl4, hk4⟩, hkk, ho2⟩⟩
      | goto t =>
        obtain ⟨O', hk3, hsub, hi3⟩ := hp
        obtain ⟨hr, hl4, hk4, hkk⟩ := fin (some (.goto t)) W3 hk3
        obtain ⟨ho1, ho2, ho3⟩ := own' hsub
        exact ⟨_, _, hr, .inr ⟨rfl, O', ⟨.goto t, (hIx _).put _ hi3 (by omega) ho3, ho1, hl4, hk4⟩, hkk, ho2⟩⟩
      | panic ch => exact hp.elim
      | outgrown => exact hp.elim
    · rintro e W2 ⟨⟨v, rfl⟩, (⟨O, hi, ho, hl, hk⟩ | ⟨pre, rest, O, hSp, c, hi, ho, hl, hk⟩)⟩
      · exact ⟨none, _, by have := run_endLoop (P := P) hl (by rw [hrec]; simp); rw [hrec] at this; exact this, hdone _ O _ (Nat.le_refl _) (fun h => by have := ho _ h; omega) (hI.put _ hi (by omega) (fun h => by have := ho _ h; omega)) ((World.putObj_heap_other (by omega)).trans hk)⟩
      · exact ⟨some c, _, by have := run_endLoop (P := P) hl (by rw [hrec]; simp); rw [hrec] at this; exact this, hstop _ c pre rest O _ (Nat.le_refl _) (fun h => by have := ho _ h; omega) hSp ((hIx c).put _ hi (by omega) (fun h => by have := ho _ h; omega)) ((World.putObj_heap_other (by omega)).trans hk)⟩
end Go.Proofs.YtpgfhbdnlojdfaaGreatDoor.Seq
