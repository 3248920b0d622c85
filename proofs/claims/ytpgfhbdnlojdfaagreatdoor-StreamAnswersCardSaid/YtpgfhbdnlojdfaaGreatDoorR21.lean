/- Packed by wip/tools/pack.py out of MChk, MCheck, MNode. -/
import Derived.Deep.DeepMust
import Derived.Test.YtpgfhbdnlojdfaaGreatDoorR08
import Derived.Test.YtpgfhbdnlojdfaaGreatDoorR13
import Derived.Test.YtpgfhbdnlojdfaaGreatDoorR19
import Derived.Test.YtpgfhbdnlojdfaaGreatDoorR20
namespace Go.Proofs.YtpgfhbdnlojdfaaGreatDoor.P
open Go.RowKit Go.Proofs.YtpgfhbdnlojdfaaGreatDoorW.PrintWords Go.Proofs.YtpgfhbdnlojdfaaGreatDoorW.PrintLast Go.Proofs.YtpgfhbdnlojdfaaGreatDoorW.PrintMore
set_option linter.unusedVariables false
def fitsF (x : S143) (n : Nat) : Bool := decide (x.f3 ≤ n) && (decide ((n : Int) ≤ x.f4) && ((n : Int) - x.f3) % x.f5 == 0)
def kidsB (kd : Int) (l : List S26) : Bool :=
  if kd = 0 then l.length == 0 else if kd = 1 then l.length == 1 else if kd = 4 then l.length == 1 && ((rd_T26 l 0).f0 == 5 || (rd_T26 l 0).f0 == 6) else decide (1 ≤ l.length) && decide (l.length ≤ 16384)
def insC (kd : Int) : Int := if kd = 3 then 2 else if kd = 0 then 0 else 1
def bad8 (c t : Int) (l : List Int) : Bool := c == 2 && (t == 2 && (decide (l.length < 4) || numB (l.take 4) != ((l.length - 4) / 2 : Nat)))
def firstE : List Int → Int
  | [] => 0
  | x :: l => if x = 0 then firstE l else x
def chkRest (ck : Int → S26 → Int) (c kd : Int) (n : S26) : Int :=
  if bad8 c n.f0 n.f1 then 8 else if firstE (n.f2.map (ck (insC kd))) = 0 then (if 65535 < szN n then 4 else 0) else firstE (n.f2.map (ck (insC kd)))
def chk : Nat → Int → S26 → Int
  | 0, _, _ => 9
  | d + 1, c, n =>
    match lastF n.f0 (formsOf c) with
    | none => if n.f2.length = 0 then chkRest (chk d) c 0 n else 7
    | some x => if fitsF x n.f1.length && kidsB x.f6 n.f2 then chkRest (chk d) c x.f6 n else 7
theorem lastF_mem (t : Int) : ∀ (l : List S143) (acc : Option S143) (x : S143), l.foldl (fun acc x => if x.f1 = t then some x else acc) acc = some x → (x ∈ l ∧ x.f1 = t) ∨ acc = some x
  | [], acc, x, h => .inr h
  | y :: l, acc, x, h => by
    rw [List.foldl_cons] at h
    rcases lastF_mem t l _ x h with h | h
    · exact .inl ⟨List.mem_cons_of_mem _ h.1, h.2⟩
    · by_cases e : y.f1 = t
      · rw [if_pos e] at h; cases h; exact .inl ⟨List.mem_cons_self, e⟩
      · rw [if_neg e] at h; exact .inr h
def goodRow (x : S143) : Bool := decide (0 ≤ x.f3) && (decide (0 < x.f5) && (decide (x.f6 = 0 ∨ x.f6 = 1 ∨ x.f6 = 2 ∨ x.f6 = 3 ∨ x.f6 = 4) && decide (x.f4 ≤ 65531)))
theorem form_good (c t : Int) (x : S143) (h : lastF t (formsOf c) = some x) : 0 ≤ x.f3 ∧ 0 < x.f5 ∧ (x.f6 = 0 ∨ x.f6 = 1 ∨ x.f6 = 2 ∨ x.f6 = 3 ∨ x.f6 = 4) ∧ x.f4 ≤ 65531 := by
  have hm : x ∈ formsOf c := by
    rcases lastF_mem t _ none x h with h | h
    · exact h.1
    · cases h
  have hall : ∀ y ∈ formsOf c, goodRow y = true := by
    unfold formsOf
    split
    · exact List.all_eq_true.1 (by decide)
    · split
      · exact List.all_eq_true.1 (by decide)
      · intro y hy; cases hy
  have := hall x hm
  simpa [goodRow] using this
theorem shapeFits_row (x : S143) (c : Int) (n : Nat) (hg : 0 ≤ x.f3 ∧ 0 < x.f5) (hn : n ≤ 4194304) : shape_Fits.f c x.f1 x.f2 x.f3 x.f4 x.f5 x.f6 (n : Int) = some (fitsF x n) := by
  unfold shape_Fits.f fitsF
  by_cases h1 : (n : Int) ≥ x.f3
  · rw [if_pos h1]
    by_cases h2 : (n : Int) ≤ x.f4
    · rw [if_pos h2, if_neg (by omega), w64 (by omega) (by omega), Int.tmod_eq_emod_of_nonneg (by omega)]
      simp [h1, h2]
    · rw [if_neg h2]; simp [h2]
  · rw [if_neg h1]; simp; intro h; omega
theorem shapeInside_row (kd : Int) (h : kd = 0 ∨ kd = 1 ∨ kd = 2 ∨ kd = 3 ∨ kd = 4) (k : Nat) : ∃ lo hi, shape_Inside.f (k + 1) kd = some (insC kd, lo, hi) := by
  rcases h with rfl | rfl | rfl | rfl | rfl <;> exact ⟨_, _, rfl⟩
theorem nodeKids_row (x : S143) (c : Int) (l : List S26) (hg : x.f6 = 0 ∨ x.f6 = 1 ∨ x.f6 = 2 ∨ x.f6 = 3 ∨ x.f6 = 4) (k : Nat) : node_kids.f (k + 1) c x.f1 x.f2 x.f3 x.f4 x.f5 x.f6 l = some (kidsB x.f6 l) := by
  unfold node_kids.f kidsB
  rcases hg with h | h | h | h | h <;> rw [h]
  · rw [show shape_Inside.f (k + 1) 0 = some (0, 0, 0) from rfl, Option.bind_some]
    dsimp only
    cases l with
    | nil => rfl
    | cons y l => rw [if_pos (by omega), if_neg (by simp)]; rfl
  · rw [show shape_Inside.f (k + 1) 1 = some (1, 1, 1) from rfl, Option.bind_some]
    dsimp only
    by_cases h0 : (l.length : Int) ≥ 1
    · rw [if_pos h0]
      by_cases h1 : (l.length : Int) ≤ 1
      · rw [if_pos h1, if_neg (by omega)]; simp; omega
      · rw [if_neg h1]; simp; omega
    · rw [if_neg h0]; simp; omega
  · rw [show shape_Inside.f (k + 1) 2 = some (1, 1, 16384) from rfl, Option.bind_some]
    dsimp only
    by_cases h0 : (l.length : Int) ≥ 1
    · rw [if_pos h0]
      by_cases h1 : (l.length : Int) ≤ 16384
      · rw [if_pos h1, if_neg (by omega)]; simp; omega
      · rw [if_neg h1]; simp; omega
    · rw [if_neg h0]; simp; omega
  · rw [show shape_Inside.f (k + 1) 3 = some (2, 1, 16384) from rfl, Option.bind_some]
    dsimp only
    by_cases h0 : (l.length : Int) ≥ 1
    · rw [if_pos h0]
      by_cases h1 : (l.length : Int) ≤ 16384
      · rw [if_pos h1, if_neg (by omega)]; simp; omega
      · rw [if_neg h1]; simp; omega
    · rw [if_neg h0]; simp; omega
  · rw [show shape_Inside.f (k + 1) 4 = some (1, 1, 1) from rfl, Option.bind_some]
    dsimp only
    by_cases h0 : (l.length : Int) ≥ 1
    · rw [if_pos h0]
      by_cases h1 : (l.length : Int) ≤ 1
      · rw [if_pos h1, if_pos rfl, if_pos (by omega)]
        have hl : l.length = 1 := by omega
        by_cases h5 : (rd_T26 l 0).f0 = 5
        · rw [if_pos h5]; simp [hl, h5]
        · rw [if_neg h5]
          have e5 : ((rd_T26 l 0).f0 == 5) = false := by simpa using h5
          simp [hl, e5]
      · rw [if_neg h1]; simp; intro h; omega
    · rw [if_neg h0]; simp; intro h; omega
end Go.Proofs.YtpgfhbdnlojdfaaGreatDoor.P
namespace Go.Proofs.YtpgfhbdnlojdfaaGreatDoor.P
open Go.RowKit Go.Proofs.YtpgfhbdnlojdfaaGreatDoorW.PrintWords Go.Proofs.YtpgfhbdnlojdfaaGreatDoorW.PrintLast Go.Proofs.YtpgfhbdnlojdfaaGreatDoorW.PrintMore
set_option linter.unusedVariables false
set_option linter.unusedSimpArgs false
def errI (e : Int) : Value := errW (if e = 0 then none else some e)
mutual
def okN : S26 → Bool
  | ⟨t, d, k⟩ => decide (0 ≤ t ∧ t < 65536) && (d.all (fun b => decide (0 ≤ b ∧ b < 256)) && okL k)
def okL : List S26 → Bool
  | [] => true
  | x :: l => okN x && okL l
end
theorem okN_iff (x : S26) (h : okN x = true) : (0 ≤ x.f0 ∧ x.f0 < 65536) ∧ (∀ b ∈ x.f1, 0 ≤ b ∧ b < 256) ∧ okL x.f2 = true := by
  cases x
  rw [okN] at h
  simpa [and_assoc] using h
theorem okL_mem {l : List S26} (h : okL l = true) : ∀ x ∈ l, okN x = true := by
  induction l with
  | nil => intro x hx; cases hx
  | cons y l ih =>
    rw [okL, Bool.and_eq_true] at h
    intro x hx
    rcases List.mem_cons.1 hx with rfl | hx
    · exact h.1
    · exact ih h.2 x hx
theorem shapeOf_some (c t : Int) (ht : 0 ≤ t ∧ t < 65536) (x : S143) (h : lastF t (formsOf c) = some x) : shape_Of.f c t = some (c, x.f1, x.f2, x.f3, x.f4, x.f5, x.f6, true) := by unfold shape_Of.f; rw [if_pos ht, h]
theorem shapeOf_none (c t : Int) (ht : 0 ≤ t ∧ t < 65536) (h : lastF t (formsOf c) = none) : shape_Of.f c t = some (0, 0, ⟨#[]⟩, 0, 0, 0, 0, false) := by unfold shape_Of.f; rw [if_pos ht, h]
set_option maxRecDepth 100000 in
set_option maxHeartbeats 8000000 in
theorem check.deep (c : Int) (n : S26) (A1 A2 : Option Addr) (c1 c2 : Nat) (w : World) :
    Calls Tryz.prog 82 #[.int .i64 c, .agg #[.int .u16 n.f0, .slice A1 n.f1.length c1, .slice A2 n.f2.length c2], .int .i64 5] w fun e w' => e = .returned (errI 9) ∧ Below w.heap.size w w' := by
  go_enter Tryz.func82, Tryz.ntmps82
  go_wp2
  go_ret
  exact ⟨rfl, (Below.refl _ w).alloc (Nat.le_refl _) _⟩
set_option maxRecDepth 100000 in
set_option maxHeartbeats 8000000 in
theorem check.form (dp c : Int) (hdp : dp ≤ 4) (n : S26) (A1 A2 : Option Addr) (c1 c2 : Nat) (w : World) (r1 r2 : Int) (r3 : ByteArray) (r4 r5 r6 r7 : Int) (r8 : Bool) (b1 b2 : Bool)
    (HOF : Aside0 (∀ W, Calls Tryz.prog 98 #[.int .i64 c, .int .u16 n.f0] W fun e w' => e = .returned (.tuple #[.agg #[.int .i64 r1, .int .u16 r2, .string r3, .int .i64 r4, .int .i64 r5, .int .i64 r6, .int .i64 r7], .bool r8]) ∧ Below W.heap.size W w'))
    (HFI : Aside0 (r8 = true → ∀ W, Calls Tryz.prog 99 #[.agg #[.int .i64 r1, .int .u16 r2, .string r3, .int .i64 r4, .int .i64 r5, .int .i64 r6, .int .i64 r7], .int .i64 (n.f1.length : Int)] W fun e w' => e = .returned (.bool b1) ∧ Below W.heap.size W w'))
    (HR2 : Aside0 (Kd.C k26 w A2 n.f2.length n.f2)) (HR1 : Aside0 (Kd.C (Kd.int .u8) w A1 n.f1.length n.f1))
    (HKI : Aside0 (r8 = true → ∀ W, Kd.C k26 W A2 n.f2.length n.f2 → Calls Tryz.prog 100 #[.agg #[.int .i64 r1, .int .u16 r2, .string r3, .int .i64 r4, .int .i64 r5, .int .i64 r6, .int .i64 r7], .slice A2 n.f2.length c2] W fun e w' => e = .returned (.bool b2) ∧ Below W.heap.size W w'))
    (hbad : (r8 = false ∧ n.f2.length ≠ 0) ∨ (r8 = true ∧ (b1 = false ∨ b2 = false))) :
    Calls Tryz.prog 82 #[.int .i64 c, .agg #[.int .u16 n.f0, .slice A1 n.f1.length c1, .slice A2 n.f2.length c2], .int .i64 dp] w fun e w' => e = .returned (errI 7) ∧ Below w.heap.size w w' := by
  have hl : n.f2.length ≠ 0 → 0 < n.f2.length := by omega
  rcases hbad with ⟨rfl, h⟩ | ⟨rfl, rfl | rfl⟩
  · have h2 := hl h
    clear hl h
    go_enter Tryz.func82, Tryz.ntmps82
    go_wp2_with (first | (go_at_call 98; refine (HOF.out _).mono ?_; rintro e w1 ⟨rfl, hb⟩; have BK4 := Aside0.mk (blk_below (heap_alloc_new w (.cells #[.int .u16 n.f0, .slice A1 n.f1.length c1, .slice A2 n.f2.length c2] 26)) hb); have HB := Aside0.mk (((Below.refl _ w).alloc (Nat.le_refl _) _).trans (hb.mono (by simp))); have q40 := (blk_cell (blk_alloc BK4.out (.cells #[.int .i64 r1, .int .u16 r2, .string r3, .int .i64 r4, .int .i64 r5, .int .i64 r6, .int .i64 r7] 143)) 0).trans (show _ = some (Value.int .u16 n.f0) from rfl); have q41 := (blk_cell (blk_alloc BK4.out (.cells #[.int .i64 r1, .int .u16 r2, .string r3, .int .i64 r4, .int .i64 r5, .int .i64 r6, .int .i64 r7] 143)) 1).trans (show _ = some (Value.slice A1 n.f1.length c1) from rfl); have q42 := (blk_cell (blk_alloc BK4.out (.cells #[.int .i64 r1, .int .u16 r2, .string r3, .int .i64 r4, .int .i64 r5, .int .i64 r6, .int .i64 r7] 143)) 2).trans (show _ = some (Value.slice A2 n.f2.length c2) from rfl); clear hb) | (go_at_call 99; refine (HFI.out (by first | rfl | trivial) _).mono ?_; rintro e w2 ⟨rfl, hb⟩; (first | (have n4 := Aside0.mk (blk_below BK4.out hb); have n7 := Aside0.mk (blk_below BK7.out hb); have nb := Aside0.mk (HB.out.trans (hb.mono HB.out.size)); (try clear q40 q41 q42); (try clear q70 q71 q72 q73 q74 q75 q76); clear BK4 BK7 HB; have BK4 := n4; have BK7 := n7; have HB := nb; clear n4 n7 nb) | (have n4 := Aside0.mk (blk_below (blk_alloc BK4.out (.cells #[.int .i64 r1, .int .u16 r2, .string r3, .int .i64 r4, .int .i64 r5, .int .i64 r6, .int .i64 r7] 143)) hb); have n7 := Aside0.mk (blk_below (heap_alloc_new w1 (.cells #[.int .i64 r1, .int .u16 r2, .string r3, .int .i64 r4, .int .i64 r5, .int .i64 r6, .int .i64 r7] 143)) hb); have nb := Aside0.mk ((HB.out.alloc HB.out.size (.cells #[.int .i64 r1, .int .u16 r2, .string r3, .int .i64 r4, .int .i64 r5, .int .i64 r6, .int .i64 r7] 143)).trans (hb.mono (by have := HB.out.size; simp; omega))); (try clear q40 q41 q42); (try clear q70 q71 q72 q73 q74 q75 q76); clear BK4 HB; have BK4 := n4; have BK7 := n7; have HB := nb; clear n4 n7 nb)); have q40 := (blk_cell BK4.out 0).trans (show _ = some (Value.int .u16 n.f0) from rfl); have q41 := (blk_cell BK4.out 1).trans (show _ = some (Value.slice A1 n.f1.length c1) from rfl); have q42 := (blk_cell BK4.out 2).trans (show _ = some (Value.slice A2 n.f2.length c2) from rfl); have q70 := (blk_cell BK7.out 0).trans (show _ = some (Value.int .i64 r1) from rfl); have q71 := (blk_cell BK7.out 1).trans (show _ = some (Value.int .u16 r2) from rfl); have q72 := (blk_cell BK7.out 2).trans (show _ = some (Value.string r3) from rfl); have q73 := (blk_cell BK7.out 3).trans (show _ = some (Value.int .i64 r4) from rfl); have q74 := (blk_cell BK7.out 4).trans (show _ = some (Value.int .i64 r5) from rfl); have q75 := (blk_cell BK7.out 5).trans (show _ = some (Value.int .i64 r6) from rfl); have q76 := (blk_cell BK7.out 6).trans (show _ = some (Value.int .i64 r7) from rfl); clear hb) | (go_at_call 100; refine (HKI.out (by first | rfl | trivial) _ (Kd.C_below HR2.out HB.out)).mono ?_; rintro e w3 ⟨rfl, hb⟩; (first | (have n4 := Aside0.mk (blk_below BK4.out hb); have n7 := Aside0.mk (blk_below BK7.out hb); have nb := Aside0.mk (HB.out.trans (hb.mono HB.out.size)); (try clear q40 q41 q42); (try clear q70 q71 q72 q73 q74 q75 q76); clear BK4 BK7 HB; have BK4 := n4; have BK7 := n7; have HB := nb; clear n4 n7 nb) | (have n4 := Aside0.mk (blk_below (blk_alloc BK4.out (.cells #[.int .i64 r1, .int .u16 r2, .string r3, .int .i64 r4, .int .i64 r5, .int .i64 r6, .int .i64 r7] 143)) hb); have n7 := Aside0.mk (blk_below (heap_alloc_new w1 (.cells #[.int .i64 r1, .int .u16 r2, .string r3, .int .i64 r4, .int .i64 r5, .int .i64 r6, .int .i64 r7] 143)) hb); have nb := Aside0.mk ((HB.out.alloc HB.out.size (.cells #[.int .i64 r1, .int .u16 r2, .string r3, .int .i64 r4, .int .i64 r5, .int .i64 r6, .int .i64 r7] 143)).trans (hb.mono (by have := HB.out.size; simp; omega))); (try clear q40 q41 q42); (try clear q70 q71 q72 q73 q74 q75 q76); clear BK4 HB; have BK4 := n4; have BK7 := n7; have HB := nb; clear n4 n7 nb)); have q40 := (blk_cell BK4.out 0).trans (show _ = some (Value.int .u16 n.f0) from rfl); have q41 := (blk_cell BK4.out 1).trans (show _ = some (Value.slice A1 n.f1.length c1) from rfl); have q42 := (blk_cell BK4.out 2).trans (show _ = some (Value.slice A2 n.f2.length c2) from rfl); have q70 := (blk_cell BK7.out 0).trans (show _ = some (Value.int .i64 r1) from rfl); have q71 := (blk_cell BK7.out 1).trans (show _ = some (Value.int .u16 r2) from rfl); have q72 := (blk_cell BK7.out 2).trans (show _ = some (Value.string r3) from rfl); have q73 := (blk_cell BK7.out 3).trans (show _ = some (Value.int .i64 r4) from rfl); have q74 := (blk_cell BK7.out 4).trans (show _ = some (Value.int .i64 r5) from rfl); have q75 := (blk_cell BK7.out 5).trans (show _ = some (Value.int .i64 r6) from rfl); have q76 := (blk_cell BK7.out 6).trans (show _ = some (Value.int .i64 r7) from rfl); clear hb) | (go_at_call 101; refine (HCO.out _ (Kd.C_below HR1.out (by first | exact HB.out | exact HB.out.alloc HB.out.size _))).mono ?_; rintro e w4 ⟨rfl, hb⟩; (first | (have n4 := Aside0.mk (blk_below BK4.out hb); have n7 := Aside0.mk (blk_below BK7.out hb); have nb := Aside0.mk (HB.out.trans (hb.mono HB.out.size)); (try clear q40 q41 q42); (try clear q70 q71 q72 q73 q74 q75 q76); clear BK4 BK7 HB; have BK4 := n4; have BK7 := n7; have HB := nb; clear n4 n7 nb) | (have n4 := Aside0.mk (blk_below (blk_alloc BK4.out (.cells #[.int .i64 r1, .int .u16 r2, .string r3, .int .i64 r4, .int .i64 r5, .int .i64 r6, .int .i64 r7] 143)) hb); have n7 := Aside0.mk (blk_below (heap_alloc_new w1 (.cells #[.int .i64 r1, .int .u16 r2, .string r3, .int .i64 r4, .int .i64 r5, .int .i64 r6, .int .i64 r7] 143)) hb); have nb := Aside0.mk ((HB.out.alloc HB.out.size (.cells #[.int .i64 r1, .int .u16 r2, .string r3, .int .i64 r4, .int .i64 r5, .int .i64 r6, .int .i64 r7] 143)).trans (hb.mono (by have := HB.out.size; simp; omega))); (try clear q40 q41 q42); (try clear q70 q71 q72 q73 q74 q75 q76); clear BK4 HB; have BK4 := n4; have BK7 := n7; have HB := nb; clear n4 n7 nb)); have q40 := (blk_cell BK4.out 0).trans (show _ = some (Value.int .u16 n.f0) from rfl); have q41 := (blk_cell BK4.out 1).trans (show _ = some (Value.slice A1 n.f1.length c1) from rfl); have q42 := (blk_cell BK4.out 2).trans (show _ = some (Value.slice A2 n.f2.length c2) from rfl); have q70 := (blk_cell BK7.out 0).trans (show _ = some (Value.int .i64 r1) from rfl); have q71 := (blk_cell BK7.out 1).trans (show _ = some (Value.int .u16 r2) from rfl); have q72 := (blk_cell BK7.out 2).trans (show _ = some (Value.string r3) from rfl); have q73 := (blk_cell BK7.out 3).trans (show _ = some (Value.int .i64 r4) from rfl); have q74 := (blk_cell BK7.out 4).trans (show _ = some (Value.int .i64 r5) from rfl); have q75 := (blk_cell BK7.out 5).trans (show _ = some (Value.int .i64 r6) from rfl); have q76 := (blk_cell BK7.out 6).trans (show _ = some (Value.int .i64 r7) from rfl); clear hb) | (go_at_call 102; refine (HIN.out _).mono ?_; rintro e w5 ⟨rfl, nd, rfl⟩))
    go_ret
    exact ⟨rfl, by first | exact HB.out | exact HB.out.alloc HB.out.size _⟩
  · clear hl
    go_enter Tryz.func82, Tryz.ntmps82
    go_wp2_with (first | (go_at_call 98; refine (HOF.out _).mono ?_; rintro e w1 ⟨rfl, hb⟩; have BK4 := Aside0.mk (blk_below (heap_alloc_new w (.cells #[.int .u16 n.f0, .slice A1 n.f1.length c1, .slice A2 n.f2.length c2] 26)) hb); have HB := Aside0.mk (((Below.refl _ w).alloc (Nat.le_refl _) _).trans (hb.mono (by simp))); have q40 := (blk_cell (blk_alloc BK4.out (.cells #[.int .i64 r1, .int .u16 r2, .string r3, .int .i64 r4, .int .i64 r5, .int .i64 r6, .int .i64 r7] 143)) 0).trans (show _ = some (Value.int .u16 n.f0) from rfl); have q41 := (blk_cell (blk_alloc BK4.out (.cells #[.int .i64 r1, .int .u16 r2, .string r3, .int .i64 r4, .int .i64 r5, .int .i64 r6, .int .i64 r7] 143)) 1).trans (show _ = some (Value.slice A1 n.f1.length c1) from rfl); have q42 := (blk_cell (blk_alloc BK4.out (.cells #[.int .i64 r1, .int .u16 r2, .string r3, .int .i64 r4, .int .i64 r5, .int .i64 r6, .int .i64 r7] 143)) 2).trans (show _ = some (Value.slice A2 n.f2.length c2) from rfl); clear hb) | (go_at_call 99; refine (HFI.out (by first | rfl | trivial) _).mono ?_; rintro e w2 ⟨rfl, hb⟩; (first | (have n4 := Aside0.mk (blk_below BK4.out hb); have n7 := Aside0.mk (blk_below BK7.out hb); have nb := Aside0.mk (HB.out.trans (hb.mono HB.out.size)); (try clear q40 q41 q42); (try clear q70 q71 q72 q73 q74 q75 q76); clear BK4 BK7 HB; have BK4 := n4; have BK7 := n7; have HB := nb; clear n4 n7 nb) | (have n4 := Aside0.mk (blk_below (blk_alloc BK4.out (.cells #[.int .i64 r1, .int .u16 r2, .string r3, .int .i64 r4, .int .i64 r5, .int .i64 r6, .int .i64 r7] 143)) hb); have n7 := Aside0.mk (blk_below (heap_alloc_new w1 (.cells #[.int .i64 r1, .int .u16 r2, .string r3, .int .i64 r4, .int .i64 r5, .int .i64 r6, .int .i64 r7] 143)) hb); have nb := Aside0.mk ((HB.out.alloc HB.out.size (.cells #[.int .i64 r1, .int .u16 r2, .string r3, .int .i64 r4, .int .i64 r5, .int .i64 r6, .int .i64 r7] 143)).trans (hb.mono (by have := HB.out.size; simp; omega))); (try clear q40 q41 q42); (try clear q70 q71 q72 q73 q74 q75 q76); clear BK4 HB; have BK4 := n4; have BK7 := n7; have HB := nb; clear n4 n7 nb)); have q40 := (blk_cell BK4.out 0).trans (show _ = some (Value.int .u16 n.f0) from rfl); have q41 := (blk_cell BK4.out 1).trans (show _ = some (Value.slice A1 n.f1.length c1) from rfl); have q42 := (blk_cell BK4.out 2).trans (show _ = some (Value.slice A2 n.f2.length c2) from rfl); have q70 := (blk_cell BK7.out 0).trans (show _ = some (Value.int .i64 r1) from rfl); have q71 := (blk_cell BK7.out 1).trans (show _ = some (Value.int .u16 r2) from rfl); have q72 := (blk_cell BK7.out 2).trans (show _ = some (Value.string r3) from rfl); have q73 := (blk_cell BK7.out 3).trans (show _ = some (Value.int .i64 r4) from rfl); have q74 := (blk_cell BK7.out 4).trans (show _ = some (Value.int .i64 r5) from rfl); have q75 := (blk_cell BK7.out 5).trans (show _ = some (Value.int .i64 r6) from rfl); have q76 := (blk_cell BK7.out 6).trans (show _ = some (Value.int .i64 r7) from rfl); clear hb) | (go_at_call 100; refine (HKI.out (by first | rfl | trivial) _ (Kd.C_below HR2.out HB.out)).mono ?_; rintro e w3 ⟨rfl, hb⟩; (first | (have n4 := Aside0.mk (blk_below BK4.out hb); have n7 := Aside0.mk (blk_below BK7.out hb); have nb := Aside0.mk (HB.out.trans (hb.mono HB.out.size)); (try clear q40 q41 q42); (try clear q70 q71 q72 q73 q74 q75 q76); clear BK4 BK7 HB; have BK4 := n4; have BK7 := n7; have HB := nb; clear n4 n7 nb) | (have n4 := Aside0.mk (blk_below (blk_alloc BK4.out (.cells #[.int .i64 r1, .int .u16 r2, .string r3, .int .i64 r4, .int .i64 r5, .int .i64 r6, .int .i64 r7] 143)) hb); have n7 := Aside0.mk (blk_below (heap_alloc_new w1 (.cells #[.int .i64 r1, .int .u16 r2, .string r3, .int .i64 r4, .int .i64 r5, .int .i64 r6, .int .i64 r7] 143)) hb); have nb := Aside0.mk ((HB.out.alloc HB.out.size (.cells #[.int .i64 r1, .int .u16 r2, .string r3, .int .i64 r4, .int .i64 r5, .int .i64 r6, .int .i64 r7] 143)).trans (hb.mono (by have := HB.out.size; simp; omega))); (try clear q40 q41 q42); (try clear q70 q71 q72 q73 q74 q75 q76); clear BK4 HB; have BK4 := n4; have BK7 := n7; have HB := nb; clear n4 n7 nb)); have q40 := (blk_cell BK4.out 0).trans (show _ = some (Value.int .u16 n.f0) from rfl); have q41 := (blk_cell BK4.out 1).trans (show _ = some (Value.slice A1 n.f1.length c1) from rfl); have q42 := (blk_cell BK4.out 2).trans (show _ = some (Value.slice A2 n.f2.length c2) from rfl); have q70 := (blk_cell BK7.out 0).trans (show _ = some (Value.int .i64 r1) from rfl); have q71 := (blk_cell BK7.out 1).trans (show _ = some (Value.int .u16 r2) from rfl); have q72 := (blk_cell BK7.out 2).trans (show _ = some (Value.string r3) from rfl); have q73 := (blk_cell BK7.out 3).trans (show _ = some (Value.int .i64 r4) from rfl); have q74 := (blk_cell BK7.out 4).trans (show _ = some (Value.int .i64 r5) from rfl); have q75 := (blk_cell BK7.out 5).trans (show _ = some (Value.int .i64 r6) from rfl); have q76 := (blk_cell BK7.out 6).trans (show _ = some (Value.int .i64 r7) from rfl); clear hb) | (go_at_call 101; refine (HCO.out _ (Kd.C_below HR1.out (by first | exact HB.out | exact HB.out.alloc HB.out.size _))).mono ?_; rintro e w4 ⟨rfl, hb⟩; (first | (have n4 := Aside0.mk (blk_below BK4.out hb); have n7 := Aside0.mk (blk_below BK7.out hb); have nb := Aside0.mk (HB.out.trans (hb.mono HB.out.size)); (try clear q40 q41 q42); (try clear q70 q71 q72 q73 q74 q75 q76); clear BK4 BK7 HB; have BK4 := n4; have BK7 := n7; have HB := nb; clear n4 n7 nb) | (have n4 := Aside0.mk (blk_below (blk_alloc BK4.out (.cells #[.int .i64 r1, .int .u16 r2, .string r3, .int .i64 r4, .int .i64 r5, .int .i64 r6, .int .i64 r7] 143)) hb); have n7 := Aside0.mk (blk_below (heap_alloc_new w1 (.cells #[.int .i64 r1, .int .u16 r2, .string r3, .int .i64 r4, .int .i64 r5, .int .i64 r6, .int .i64 r7] 143)) hb); have nb := Aside0.mk ((HB.out.alloc HB.out.size (.cells #[.int .i64 r1, .int .u16 r2, .string r3, .int .i64 r4, .int .i64 r5, .int .i64 r6, .int .i64 r7] 143)).trans (hb.mono (by have := HB.out.size; simp; omega))); (try clear q40 q41 q42); (try clear q70 q71 q72 q73 q74 q75 q76); clear BK4 HB; have BK4 := n4; have BK7 := n7; have HB := nb; clear n4 n7 nb)); have q40 := (blk_cell BK4.out 0).trans (show _ = some (Value.int .u16 n.f0) from rfl); have q41 := (blk_cell BK4.out 1).trans (show _ = some (Value.slice A1 n.f1.length c1) from rfl); have q42 := (blk_cell BK4.out 2).trans (show _ = some (Value.slice A2 n.f2.length c2) from rfl); have q70 := (blk_cell BK7.out 0).trans (show _ = some (Value.int .i64 r1) from rfl); have q71 := (blk_cell BK7.out 1).trans (show _ = some (Value.int .u16 r2) from rfl); have q72 := (blk_cell BK7.out 2).trans (show _ = some (Value.string r3) from rfl); have q73 := (blk_cell BK7.out 3).trans (show _ = some (Value.int .i64 r4) from rfl); have q74 := (blk_cell BK7.out 4).trans (show _ = some (Value.int .i64 r5) from rfl); have q75 := (blk_cell BK7.out 5).trans (show _ = some (Value.int .i64 r6) from rfl); have q76 := (blk_cell BK7.out 6).trans (show _ = some (Value.int .i64 r7) from rfl); clear hb) | (go_at_call 102; refine (HIN.out _).mono ?_; rintro e w5 ⟨rfl, nd, rfl⟩))
    go_ret
    exact ⟨rfl, by first | exact HB.out | exact HB.out.alloc HB.out.size _⟩
  · clear hl
    cases b1
    all_goals
      go_enter Tryz.func82, Tryz.ntmps82
      go_wp2_with (first | (go_at_call 98; refine (HOF.out _).mono ?_; rintro e w1 ⟨rfl, hb⟩; have BK4 := Aside0.mk (blk_below (heap_alloc_new w (.cells #[.int .u16 n.f0, .slice A1 n.f1.length c1, .slice A2 n.f2.length c2] 26)) hb); have HB := Aside0.mk (((Below.refl _ w).alloc (Nat.le_refl _) _).trans (hb.mono (by simp))); have q40 := (blk_cell (blk_alloc BK4.out (.cells #[.int .i64 r1, .int .u16 r2, .string r3, .int .i64 r4, .int .i64 r5, .int .i64 r6, .int .i64 r7] 143)) 0).trans (show _ = some (Value.int .u16 n.f0) from rfl); have q41 := (blk_cell (blk_alloc BK4.out (.cells #[.int .i64 r1, .int .u16 r2, .string r3, .int .i64 r4, .int .i64 r5, .int .i64 r6, .int .i64 r7] 143)) 1).trans (show _ = some (Value.slice A1 n.f1.length c1) from rfl); have q42 := (blk_cell (blk_alloc BK4.out (.cells #[.int .i64 r1, .int .u16 r2, .string r3, .int .i64 r4, .int .i64 r5, .int .i64 r6, .int .i64 r7] 143)) 2).trans (show _ = some (Value.slice A2 n.f2.length c2) from rfl); clear hb) | (go_at_call 99; refine (HFI.out (by first | rfl | trivial) _).mono ?_; rintro e w2 ⟨rfl, hb⟩; (first | (have n4 := Aside0.mk (blk_below BK4.out hb); have n7 := Aside0.mk (blk_below BK7.out hb); have nb := Aside0.mk (HB.out.trans (hb.mono HB.out.size)); (try clear q40 q41 q42); (try clear q70 q71 q72 q73 q74 q75 q76); clear BK4 BK7 HB; have BK4 := n4; have BK7 := n7; have HB := nb; clear n4 n7 nb) | (have n4 := Aside0.mk (blk_below (blk_alloc BK4.out (.cells #[.int .i64 r1, .int .u16 r2, .string r3, .int .i64 r4, .int .i64 r5, .int .i64 r6, .int .i64 r7] 143)) hb); have n7 := Aside0.mk (blk_below (heap_alloc_new w1 (.cells #[.int .i64 r1, .int .u16 r2, .string r3, .int .i64 r4, .int .i64 r5, .int .i64 r6, .int .i64 r7] 143)) hb); have nb := Aside0.mk ((HB.out.alloc HB.out.size (.cells #[.int .i64 r1, .int .u16 r2, .string r3, .int .i64 r4, .int .i64 r5, .int .i64 r6, .int .i64 r7] 143)).trans (hb.mono (by have := HB.out.size; simp; omega))); (try clear q40 q41 q42); (try clear q70 q71 q72 q73 q74 q75 q76); clear BK4 HB; have BK4 := n4; have BK7 := n7; have HB := nb; clear n4 n7 nb)); have q40 := (blk_cell BK4.out 0).trans (show _ = some (Value.int .u16 n.f0) from rfl); have q41 := (blk_cell BK4.out 1).trans (show _ = some (Value.slice A1 n.f1.length c1) from rfl); have q42 := (blk_cell BK4.out 2).trans (show _ = some (Value.slice A2 n.f2.length c2) from rfl); have q70 := (blk_cell BK7.out 0).trans (show _ = some (Value.int .i64 r1) from rfl); have q71 := (blk_cell BK7.out 1).trans (show _ = some (Value.int .u16 r2) from rfl); have q72 := (blk_cell BK7.out 2).trans (show _ = some (Value.string r3) from rfl); have q73 := (blk_cell BK7.out 3).trans (show _ = some (Value.int .i64 r4) from rfl); have q74 := (blk_cell BK7.out 4).trans (show _ = some (Value.int .i64 r5) from rfl); have q75 := (blk_cell BK7.out 5).trans (show _ = some (Value.int .i64 r6) from rfl); have q76 := (blk_cell BK7.out 6).trans (show _ = some (Value.int .i64 r7) from rfl); clear hb) | (go_at_call 100; refine (HKI.out (by first | rfl | trivial) _ (Kd.C_below HR2.out HB.out)).mono ?_; rintro e w3 ⟨rfl, hb⟩; (first | (have n4 := Aside0.mk (blk_below BK4.out hb); have n7 := Aside0.mk (blk_below BK7.out hb); have nb := Aside0.mk (HB.out.trans (hb.mono HB.out.size)); (try clear q40 q41 q42); (try clear q70 q71 q72 q73 q74 q75 q76); clear BK4 BK7 HB; have BK4 := n4; have BK7 := n7; have HB := nb; clear n4 n7 nb) | (have n4 := Aside0.mk (blk_below (blk_alloc BK4.out (.cells #[.int .i64 r1, .int .u16 r2, .string r3, .int .i64 r4, .int .i64 r5, .int .i64 r6, .int .i64 r7] 143)) hb); have n7 := Aside0.mk (blk_below (heap_alloc_new w1 (.cells #[.int .i64 r1, .int .u16 r2, .string r3, .int .i64 r4, .int .i64 r5, .int .i64 r6, .int .i64 r7] 143)) hb); have nb := Aside0.mk ((HB.out.alloc HB.out.size (.cells #[.int .i64 r1, .int .u16 r2, .string r3, .int .i64 r4, .int .i64 r5, .int .i64 r6, .int .i64 r7] 143)).trans (hb.mono (by have := HB.out.size; simp; omega))); (try clear q40 q41 q42); (try clear q70 q71 q72 q73 q74 q75 q76); clear BK4 HB; have BK4 := n4; have BK7 := n7; have HB := nb; clear n4 n7 nb)); have q40 := (blk_cell BK4.out 0).trans (show _ = some (Value.int .u16 n.f0) from rfl); have q41 := (blk_cell BK4.out 1).trans (show _ = some (Value.slice A1 n.f1.length c1) from rfl); have q42 := (blk_cell BK4.out 2).trans (show _ = some (Value.slice A2 n.f2.length c2) from rfl); have q70 := (blk_cell BK7.out 0).trans (show _ = some (Value.int .i64 r1) from rfl); have q71 := (blk_cell BK7.out 1).trans (show _ = some (Value.int .u16 r2) from rfl); have q72 := (blk_cell BK7.out 2).trans (show _ = some (Value.string r3) from rfl); have q73 := (blk_cell BK7.out 3).trans (show _ = some (Value.int .i64 r4) from rfl); have q74 := (blk_cell BK7.out 4).trans (show _ = some (Value.int .i64 r5) from rfl); have q75 := (blk_cell BK7.out 5).trans (show _ = some (Value.int .i64 r6) from rfl); have q76 := (blk_cell BK7.out 6).trans (show _ = some (Value.int .i64 r7) from rfl); clear hb) | (go_at_call 101; refine (HCO.out _ (Kd.C_below HR1.out (by first | exact HB.out | exact HB.out.alloc HB.out.size _))).mono ?_; rintro e w4 ⟨rfl, hb⟩; (first | (have n4 := Aside0.mk (blk_below BK4.out hb); have n7 := Aside0.mk (blk_below BK7.out hb); have nb := Aside0.mk (HB.out.trans (hb.mono HB.out.size)); (try clear q40 q41 q42); (try clear q70 q71 q72 q73 q74 q75 q76); clear BK4 BK7 HB; have BK4 := n4; have BK7 := n7; have HB := nb; clear n4 n7 nb) | (have n4 := Aside0.mk (blk_below (blk_alloc BK4.out (.cells #[.int .i64 r1, .int .u16 r2, .string r3, .int .i64 r4, .int .i64 r5, .int .i64 r6, .int .i64 r7] 143)) hb); have n7 := Aside0.mk (blk_below (heap_alloc_new w1 (.cells #[.int .i64 r1, .int .u16 r2, .string r3, .int .i64 r4, .int .i64 r5, .int .i64 r6, .int .i64 r7] 143)) hb); have nb := Aside0.mk ((HB.out.alloc HB.out.size (.cells #[.int .i64 r1, .int .u16 r2, .string r3, .int .i64 r4, .int .i64 r5, .int .i64 r6, .int .i64 r7] 143)).trans (hb.mono (by have := HB.out.size; simp; omega))); (try clear q40 q41 q42); (try clear q70 q71 q72 q73 q74 q75 q76); clear BK4 HB; have BK4 := n4; have BK7 := n7; have HB := nb; clear n4 n7 nb)); have q40 := (blk_cell BK4.out 0).trans (show _ = some (Value.int .u16 n.f0) from rfl); have q41 := (blk_cell BK4.out 1).trans (show _ = some (Value.slice A1 n.f1.length c1) from rfl); have q42 := (blk_cell BK4.out 2).trans (show _ = some (Value.slice A2 n.f2.length c2) from rfl); have q70 := (blk_cell BK7.out 0).trans (show _ = some (Value.int .i64 r1) from rfl); have q71 := (blk_cell BK7.out 1).trans (show _ = some (Value.int .u16 r2) from rfl); have q72 := (blk_cell BK7.out 2).trans (show _ = some (Value.string r3) from rfl); have q73 := (blk_cell BK7.out 3).trans (show _ = some (Value.int .i64 r4) from rfl); have q74 := (blk_cell BK7.out 4).trans (show _ = some (Value.int .i64 r5) from rfl); have q75 := (blk_cell BK7.out 5).trans (show _ = some (Value.int .i64 r6) from rfl); have q76 := (blk_cell BK7.out 6).trans (show _ = some (Value.int .i64 r7) from rfl); clear hb) | (go_at_call 102; refine (HIN.out _).mono ?_; rintro e w5 ⟨rfl, nd, rfl⟩))
      go_ret
      exact ⟨rfl, by first | exact HB.out | exact HB.out.alloc HB.out.size _⟩
set_option maxRecDepth 100000 in
set_option maxHeartbeats 8000000 in
theorem check.count (dp c : Int) (hdp : dp ≤ 4) (n : S26) (A1 A2 : Option Addr) (c1 c2 : Nat) (w : World) (r1 r2 : Int) (r3 : ByteArray) (r4 r5 r6 r7 : Int) (r8 : Bool) (b1 b2 : Bool)
    (HOF : Aside0 (∀ W, Calls Tryz.prog 98 #[.int .i64 c, .int .u16 n.f0] W fun e w' => e = .returned (.tuple #[.agg #[.int .i64 r1, .int .u16 r2, .string r3, .int .i64 r4, .int .i64 r5, .int .i64 r6, .int .i64 r7], .bool r8]) ∧ Below W.heap.size W w'))
    (HFI : Aside0 (r8 = true → ∀ W, Calls Tryz.prog 99 #[.agg #[.int .i64 r1, .int .u16 r2, .string r3, .int .i64 r4, .int .i64 r5, .int .i64 r6, .int .i64 r7], .int .i64 (n.f1.length : Int)] W fun e w' => e = .returned (.bool b1) ∧ Below W.heap.size W w'))
    (HR2 : Aside0 (Kd.C k26 w A2 n.f2.length n.f2)) (HR1 : Aside0 (Kd.C (Kd.int .u8) w A1 n.f1.length n.f1))
    (HKI : Aside0 (r8 = true → ∀ W, Kd.C k26 W A2 n.f2.length n.f2 → Calls Tryz.prog 100 #[.agg #[.int .i64 r1, .int .u16 r2, .string r3, .int .i64 r4, .int .i64 r5, .int .i64 r6, .int .i64 r7], .slice A2 n.f2.length c2] W fun e w' => e = .returned (.bool b2) ∧ Below W.heap.size W w'))
    (HCO : Aside0 (∀ W, Kd.C (Kd.int .u8) W A1 n.f1.length n.f1 → Calls Tryz.prog 101 #[.int .i64 c, .int .u16 n.f0, .slice A1 n.f1.length c1] W fun e w' => e = .returned (.bool true) ∧ Below W.heap.size W w'))
    (hgood : (r8 = false ∧ n.f2.length = 0) ∨ (r8 = true ∧ b1 = true ∧ b2 = true)) :
    Calls Tryz.prog 82 #[.int .i64 c, .agg #[.int .u16 n.f0, .slice A1 n.f1.length c1, .slice A2 n.f2.length c2], .int .i64 dp] w fun e w' => e = .returned (errI 8) ∧ Below w.heap.size w w' := by
  have hz : n.f2.length = 0 → decide (0 < (n.f2.length : Int)) = false ∧ decide (0 < n.f2.length) = false := fun h => by simp [h]
  rcases hgood with ⟨rfl, h⟩ | ⟨rfl, rfl, rfl⟩
  · obtain ⟨hz1, hz2⟩ := hz h
    clear hz h
    go_enter Tryz.func82, Tryz.ntmps82
    go_wp2_with (first | (go_at_call 98; refine (HOF.out _).mono ?_; rintro e w1 ⟨rfl, hb⟩; have BK4 := Aside0.mk (blk_below (heap_alloc_new w (.cells #[.int .u16 n.f0, .slice A1 n.f1.length c1, .slice A2 n.f2.length c2] 26)) hb); have HB := Aside0.mk (((Below.refl _ w).alloc (Nat.le_refl _) _).trans (hb.mono (by simp))); have q40 := (blk_cell (blk_alloc BK4.out (.cells #[.int .i64 r1, .int .u16 r2, .string r3, .int .i64 r4, .int .i64 r5, .int .i64 r6, .int .i64 r7] 143)) 0).trans (show _ = some (Value.int .u16 n.f0) from rfl); have q41 := (blk_cell (blk_alloc BK4.out (.cells #[.int .i64 r1, .int .u16 r2, .string r3, .int .i64 r4, .int .i64 r5, .int .i64 r6, .int .i64 r7] 143)) 1).trans (show _ = some (Value.slice A1 n.f1.length c1) from rfl); have q42 := (blk_cell (blk_alloc BK4.out (.cells #[.int .i64 r1, .int .u16 r2, .string r3, .int .i64 r4, .int .i64 r5, .int .i64 r6, .int .i64 r7] 143)) 2).trans (show _ = some (Value.slice A2 n.f2.length c2) from rfl); clear hb) | (go_at_call 99; refine (HFI.out (by first | rfl | trivial) _).mono ?_; rintro e w2 ⟨rfl, hb⟩; (first | (have n4 := Aside0.mk (blk_below BK4.out hb); have n7 := Aside0.mk (blk_below BK7.out hb); have nb := Aside0.mk (HB.out.trans (hb.mono HB.out.size)); (try clear q40 q41 q42); (try clear q70 q71 q72 q73 q74 q75 q76); clear BK4 BK7 HB; have BK4 := n4; have BK7 := n7; have HB := nb; clear n4 n7 nb) | (have n4 := Aside0.mk (blk_below (blk_alloc BK4.out (.cells #[.int .i64 r1, .int .u16 r2, .string r3, .int .i64 r4, .int .i64 r5, .int .i64 r6, .int .i64 r7] 143)) hb); have n7 := Aside0.mk (blk_below (heap_alloc_new w1 (.cells #[.int .i64 r1, .int .u16 r2, .string r3, .int .i64 r4, .int .i64 r5, .int .i64 r6, .int .i64 r7] 143)) hb); have nb := Aside0.mk ((HB.out.alloc HB.out.size (.cells #[.int .i64 r1, .int .u16 r2, .string r3, .int .i64 r4, .int .i64 r5, .int .i64 r6, .int .i64 r7] 143)).trans (hb.mono (by have := HB.out.size; simp; omega))); (try clear q40 q41 q42); (try clear q70 q71 q72 q73 q74 q75 q76); clear BK4 HB; have BK4 := n4; have BK7 := n7; have HB := nb; clear n4 n7 nb)); have q40 := (blk_cell BK4.out 0).trans (show _ = some (Value.int .u16 n.f0) from rfl); have q41 := (blk_cell BK4.out 1).trans (show _ = some (Value.slice A1 n.f1.length c1) from rfl); have q42 := (blk_cell BK4.out 2).trans (show _ = some (Value.slice A2 n.f2.length c2) from rfl); have q70 := (blk_cell BK7.out 0).trans (show _ = some (Value.int .i64 r1) from rfl); have q71 := (blk_cell BK7.out 1).trans (show _ = some (Value.int .u16 r2) from rfl); have q72 := (blk_cell BK7.out 2).trans (show _ = some (Value.string r3) from rfl); have q73 := (blk_cell BK7.out 3).trans (show _ = some (Value.int .i64 r4) from rfl); have q74 := (blk_cell BK7.out 4).trans (show _ = some (Value.int .i64 r5) from rfl); have q75 := (blk_cell BK7.out 5).trans (show _ = some (Value.int .i64 r6) from rfl); have q76 := (blk_cell BK7.out 6).trans (show _ = some (Value.int .i64 r7) from rfl); clear hb) | (go_at_call 100; refine (HKI.out (by first | rfl | trivial) _ (Kd.C_below HR2.out HB.out)).mono ?_; rintro e w3 ⟨rfl, hb⟩; (first | (have n4 := Aside0.mk (blk_below BK4.out hb); have n7 := Aside0.mk (blk_below BK7.out hb); have nb := Aside0.mk (HB.out.trans (hb.mono HB.out.size)); (try clear q40 q41 q42); (try clear q70 q71 q72 q73 q74 q75 q76); clear BK4 BK7 HB; have BK4 := n4; have BK7 := n7; have HB := nb; clear n4 n7 nb) | (have n4 := Aside0.mk (blk_below (blk_alloc BK4.out (.cells #[.int .i64 r1, .int .u16 r2, .string r3, .int .i64 r4, .int .i64 r5, .int .i64 r6, .int .i64 r7] 143)) hb); have n7 := Aside0.mk (blk_below (heap_alloc_new w1 (.cells #[.int .i64 r1, .int .u16 r2, .string r3, .int .i64 r4, .int .i64 r5, .int .i64 r6, .int .i64 r7] 143)) hb); have nb := Aside0.mk ((HB.out.alloc HB.out.size (.cells #[.int .i64 r1, .int .u16 r2, .string r3, .int .i64 r4, .int .i64 r5, .int .i64 r6, .int .i64 r7] 143)).trans (hb.mono (by have := HB.out.size; simp; omega))); (try clear q40 q41 q42); (try clear q70 q71 q72 q73 q74 q75 q76); clear BK4 HB; have BK4 := n4; have BK7 := n7; have HB := nb; clear n4 n7 nb)); have q40 := (blk_cell BK4.out 0).trans (show _ = some (Value.int .u16 n.f0) from rfl); have q41 := (blk_cell BK4.out 1).trans (show _ = some (Value.slice A1 n.f1.length c1) from rfl); have q42 := (blk_cell BK4.out 2).trans (show _ = some (Value.slice A2 n.f2.length c2) from rfl); have q70 := (blk_cell BK7.out 0).trans (show _ = some (Value.int .i64 r1) from rfl); have q71 := (blk_cell BK7.out 1).trans (show _ = some (Value.int .u16 r2) from rfl); have q72 := (blk_cell BK7.out 2).trans (show _ = some (Value.string r3) from rfl); have q73 := (blk_cell BK7.out 3).trans (show _ = some (Value.int .i64 r4) from rfl); have q74 := (blk_cell BK7.out 4).trans (show _ = some (Value.int .i64 r5) from rfl); have q75 := (blk_cell BK7.out 5).trans (show _ = some (Value.int .i64 r6) from rfl); have q76 := (blk_cell BK7.out 6).trans (show _ = some (Value.int .i64 r7) from rfl); clear hb) | (go_at_call 101; refine (HCO.out _ (Kd.C_below HR1.out (by first | exact HB.out | exact HB.out.alloc HB.out.size _))).mono ?_; rintro e w4 ⟨rfl, hb⟩; (first | (have n4 := Aside0.mk (blk_below BK4.out hb); have n7 := Aside0.mk (blk_below BK7.out hb); have nb := Aside0.mk (HB.out.trans (hb.mono HB.out.size)); (try clear q40 q41 q42); (try clear q70 q71 q72 q73 q74 q75 q76); clear BK4 BK7 HB; have BK4 := n4; have BK7 := n7; have HB := nb; clear n4 n7 nb) | (have n4 := Aside0.mk (blk_below (blk_alloc BK4.out (.cells #[.int .i64 r1, .int .u16 r2, .string r3, .int .i64 r4, .int .i64 r5, .int .i64 r6, .int .i64 r7] 143)) hb); have n7 := Aside0.mk (blk_below (heap_alloc_new w1 (.cells #[.int .i64 r1, .int .u16 r2, .string r3, .int .i64 r4, .int .i64 r5, .int .i64 r6, .int .i64 r7] 143)) hb); have nb := Aside0.mk ((HB.out.alloc HB.out.size (.cells #[.int .i64 r1, .int .u16 r2, .string r3, .int .i64 r4, .int .i64 r5, .int .i64 r6, .int .i64 r7] 143)).trans (hb.mono (by have := HB.out.size; simp; omega))); (try clear q40 q41 q42); (try clear q70 q71 q72 q73 q74 q75 q76); clear BK4 HB; have BK4 := n4; have BK7 := n7; have HB := nb; clear n4 n7 nb)); have q40 := (blk_cell BK4.out 0).trans (show _ = some (Value.int .u16 n.f0) from rfl); have q41 := (blk_cell BK4.out 1).trans (show _ = some (Value.slice A1 n.f1.length c1) from rfl); have q42 := (blk_cell BK4.out 2).trans (show _ = some (Value.slice A2 n.f2.length c2) from rfl); have q70 := (blk_cell BK7.out 0).trans (show _ = some (Value.int .i64 r1) from rfl); have q71 := (blk_cell BK7.out 1).trans (show _ = some (Value.int .u16 r2) from rfl); have q72 := (blk_cell BK7.out 2).trans (show _ = some (Value.string r3) from rfl); have q73 := (blk_cell BK7.out 3).trans (show _ = some (Value.int .i64 r4) from rfl); have q74 := (blk_cell BK7.out 4).trans (show _ = some (Value.int .i64 r5) from rfl); have q75 := (blk_cell BK7.out 5).trans (show _ = some (Value.int .i64 r6) from rfl); have q76 := (blk_cell BK7.out 6).trans (show _ = some (Value.int .i64 r7) from rfl); clear hb) | (go_at_call 102; refine (HIN.out _).mono ?_; rintro e w5 ⟨rfl, nd, rfl⟩))
    go_ret
    exact ⟨rfl, by first | exact HB.out | exact HB.out.alloc HB.out.size _⟩
  · clear hz
    go_enter Tryz.func82, Tryz.ntmps82
    go_wp2_with (first | (go_at_call 98; refine (HOF.out _).mono ?_; rintro e w1 ⟨rfl, hb⟩; have BK4 := Aside0.mk (blk_below (heap_alloc_new w (.cells #[.int .u16 n.f0, .slice A1 n.f1.length c1, .slice A2 n.f2.length c2] 26)) hb); have HB := Aside0.mk (((Below.refl _ w).alloc (Nat.le_refl _) _).trans (hb.mono (by simp))); have q40 := (blk_cell (blk_alloc BK4.out (.cells #[.int .i64 r1, .int .u16 r2, .string r3, .int .i64 r4, .int .i64 r5, .int .i64 r6, .int .i64 r7] 143)) 0).trans (show _ = some (Value.int .u16 n.f0) from rfl); have q41 := (blk_cell (blk_alloc BK4.out (.cells #[.int .i64 r1, .int .u16 r2, .string r3, .int .i64 r4, .int .i64 r5, .int .i64 r6, .int .i64 r7] 143)) 1).trans (show _ = some (Value.slice A1 n.f1.length c1) from rfl); have q42 := (blk_cell (blk_alloc BK4.out (.cells #[.int .i64 r1, .int .u16 r2, .string r3, .int .i64 r4, .int .i64 r5, .int .i64 r6, .int .i64 r7] 143)) 2).trans (show _ = some (Value.slice A2 n.f2.length c2) from rfl); clear hb) | (go_at_call 99; refine (HFI.out (by first | rfl | trivial) _).mono ?_; rintro e w2 ⟨rfl, hb⟩; (first | (have n4 := Aside0.mk (blk_below BK4.out hb); have n7 := Aside0.mk (blk_below BK7.out hb); have nb := Aside0.mk (HB.out.trans (hb.mono HB.out.size)); (try clear q40 q41 q42); (try clear q70 q71 q72 q73 q74 q75 q76); clear BK4 BK7 HB; have BK4 := n4; have BK7 := n7; have HB := nb; clear n4 n7 nb) | (have n4 := Aside0.mk (blk_below (blk_alloc BK4.out (.cells #[.int .i64 r1, .int .u16 r2, .string r3, .int .i64 r4, .int .i64 r5, .int .i64 r6, .int .i64 r7] 143)) hb); have n7 := Aside0.mk (blk_below (heap_alloc_new w1 (.cells #[.int .i64 r1, .int .u16 r2, .string r3, .int .i64 r4, .int .i64 r5, .int .i64 r6, .int .i64 r7] 143)) hb); have nb := Aside0.mk ((HB.out.alloc HB.out.size (.cells #[.int .i64 r1, .int .u16 r2, .string r3, .int .i64 r4, .int .i64 r5, .int .i64 r6, .int .i64 r7] 143)).trans (hb.mono (by have := HB.out.size; simp; omega))); (try clear q40 q41 q42); (try clear q70 q71 q72 q73 q74 q75 q76); clear BK4 HB; have BK4 := n4; have BK7 := n7; have HB := nb; clear n4 n7 nb)); have q40 := (blk_cell BK4.out 0).trans (show _ = some (Value.int .u16 n.f0) from rfl); have q41 := (blk_cell BK4.out 1).trans (show _ = some (Value.slice A1 n.f1.length c1) from rfl); have q42 := (blk_cell BK4.out 2).trans (show _ = some (Value.slice A2 n.f2.length c2) from rfl); have q70 := (blk_cell BK7.out 0).trans (show _ = some (Value.int .i64 r1) from rfl); have q71 := (blk_cell BK7.out 1).trans (show _ = some (Value.int .u16 r2) from rfl); have q72 := (blk_cell BK7.out 2).trans (show _ = some (Value.string r3) from rfl); have q73 := (blk_cell BK7.out 3).trans (show _ = some (Value.int .i64 r4) from rfl); have q74 := (blk_cell BK7.out 4).trans (show _ = some (Value.int .i64 r5) from rfl); have q75 := (blk_cell BK7.out 5).trans (show _ = some (Value.int .i64 r6) from rfl); have q76 := (blk_cell BK7.out 6).trans (show _ = some (Value.int .i64 r7) from rfl); clear hb) | (go_at_call 100; refine (HKI.out (by first | rfl | trivial) _ (Kd.C_below HR2.out HB.out)).mono ?_; rintro e w3 ⟨rfl, hb⟩; (first | (have n4 := Aside0.mk (blk_below BK4.out hb); have n7 := Aside0.mk (blk_below BK7.out hb); have nb := Aside0.mk (HB.out.trans (hb.mono HB.out.size)); (try clear q40 q41 q42); (try clear q70 q71 q72 q73 q74 q75 q76); clear BK4 BK7 HB; have BK4 := n4; have BK7 := n7; have HB := nb; clear n4 n7 nb) | (have n4 := Aside0.mk (blk_below (blk_alloc BK4.out (.cells #[.int .i64 r1, .int .u16 r2, .string r3, .int .i64 r4, .int .i64 r5, .int .i64 r6, .int .i64 r7] 143)) hb); have n7 := Aside0.mk (blk_below (heap_alloc_new w1 (.cells #[.int .i64 r1, .int .u16 r2, .string r3, .int .i64 r4, .int .i64 r5, .int .i64 r6, .int .i64 r7] 143)) hb); have nb := Aside0.mk ((HB.out.alloc HB.out.size (.cells #[.int .i64 r1, .int .u16 r2, .string r3, .int .i64 r4, .int .i64 r5, .int .i64 r6, .int .i64 r7] 143)).trans (hb.mono (by have := HB.out.size; simp; omega))); (try clear q40 q41 q42); (try clear q70 q71 q72 q73 q74 q75 q76); clear BK4 HB; have BK4 := n4; have BK7 := n7; have HB := nb; clear n4 n7 nb)); have q40 := (blk_cell BK4.out 0).trans (show _ = some (Value.int .u16 n.f0) from rfl); have q41 := (blk_cell BK4.out 1).trans (show _ = some (Value.slice A1 n.f1.length c1) from rfl); have q42 := (blk_cell BK4.out 2).trans (show _ = some (Value.slice A2 n.f2.length c2) from rfl); have q70 := (blk_cell BK7.out 0).trans (show _ = some (Value.int .i64 r1) from rfl); have q71 := (blk_cell BK7.out 1).trans (show _ = some (Value.int .u16 r2) from rfl); have q72 := (blk_cell BK7.out 2).trans (show _ = some (Value.string r3) from rfl); have q73 := (blk_cell BK7.out 3).trans (show _ = some (Value.int .i64 r4) from rfl); have q74 := (blk_cell BK7.out 4).trans (show _ = some (Value.int .i64 r5) from rfl); have q75 := (blk_cell BK7.out 5).trans (show _ = some (Value.int .i64 r6) from rfl); have q76 := (blk_cell BK7.out 6).trans (show _ = some (Value.int .i64 r7) from rfl); clear hb) | (go_at_call 101; refine (HCO.out _ (Kd.C_below HR1.out (by first | exact HB.out | exact HB.out.alloc HB.out.size _))).mono ?_; rintro e w4 ⟨rfl, hb⟩; (first | (have n4 := Aside0.mk (blk_below BK4.out hb); have n7 := Aside0.mk (blk_below BK7.out hb); have nb := Aside0.mk (HB.out.trans (hb.mono HB.out.size)); (try clear q40 q41 q42); (try clear q70 q71 q72 q73 q74 q75 q76); clear BK4 BK7 HB; have BK4 := n4; have BK7 := n7; have HB := nb; clear n4 n7 nb) | (have n4 := Aside0.mk (blk_below (blk_alloc BK4.out (.cells #[.int .i64 r1, .int .u16 r2, .string r3, .int .i64 r4, .int .i64 r5, .int .i64 r6, .int .i64 r7] 143)) hb); have n7 := Aside0.mk (blk_below (heap_alloc_new w1 (.cells #[.int .i64 r1, .int .u16 r2, .string r3, .int .i64 r4, .int .i64 r5, .int .i64 r6, .int .i64 r7] 143)) hb); have nb := Aside0.mk ((HB.out.alloc HB.out.size (.cells #[.int .i64 r1, .int .u16 r2, .string r3, .int .i64 r4, .int .i64 r5, .int .i64 r6, .int .i64 r7] 143)).trans (hb.mono (by have := HB.out.size; simp; omega))); (try clear q40 q41 q42); (try clear q70 q71 q72 q73 q74 q75 q76); clear BK4 HB; have BK4 := n4; have BK7 := n7; have HB := nb; clear n4 n7 nb)); have q40 := (blk_cell BK4.out 0).trans (show _ = some (Value.int .u16 n.f0) from rfl); have q41 := (blk_cell BK4.out 1).trans (show _ = some (Value.slice A1 n.f1.length c1) from rfl); have q42 := (blk_cell BK4.out 2).trans (show _ = some (Value.slice A2 n.f2.length c2) from rfl); have q70 := (blk_cell BK7.out 0).trans (show _ = some (Value.int .i64 r1) from rfl); have q71 := (blk_cell BK7.out 1).trans (show _ = some (Value.int .u16 r2) from rfl); have q72 := (blk_cell BK7.out 2).trans (show _ = some (Value.string r3) from rfl); have q73 := (blk_cell BK7.out 3).trans (show _ = some (Value.int .i64 r4) from rfl); have q74 := (blk_cell BK7.out 4).trans (show _ = some (Value.int .i64 r5) from rfl); have q75 := (blk_cell BK7.out 5).trans (show _ = some (Value.int .i64 r6) from rfl); have q76 := (blk_cell BK7.out 6).trans (show _ = some (Value.int .i64 r7) from rfl); clear hb) | (go_at_call 102; refine (HIN.out _).mono ?_; rintro e w5 ⟨rfl, nd, rfl⟩))
    go_ret
    exact ⟨rfl, by first | exact HB.out | exact HB.out.alloc HB.out.size _⟩
theorem blk_one {W : World} {g : Nat} {n : S26} {A1 A2 : Option Addr} {c1 c2 : Nat} (h : W.heap[g]? = some (.cells #[.int .u16 n.f0, .slice A1 n.f1.length c1, .slice A2 n.f2.length c2] 26 (0, 0))) (l1 : n.f1.length ≤ c1) (g1 : (Kd.int .u8).C W A1 n.f1.length n.f1) (l2 : n.f2.length ≤ c2) (g2 : Kd.C k26 W A2 n.f2.length n.f2) :
    Kd.C k26 W (some ⟨g, 0, none⟩) 1 [n] := by
  refine ⟨rfl, by decide, fun _ => ⟨⟨g, 0, none⟩, rfl, fun j p hj => ?_⟩⟩
  cases j with
  | succ j => simp at hj
  | zero =>
    obtain rfl : n = p := by simpa using hj
    refine ⟨[.int .u16 n.f0, .slice A1 n.f1.length c1, .slice A2 n.f2.length c2], rfl, k26_mk W n l1 g1 l2 g2, fun i u hu => ?_⟩
    rw [Nat.zero_mul, Nat.zero_add, show (⟨g, 0, none⟩ : Addr).add i = ⟨g, i, none⟩ by unfold Addr.add; split <;> simp_all]
    rw [blk_cell h i]
    simpa using hu
theorem firstE_take (f : S26 → Int) : ∀ (l : List S26) (j : Nat) (h : j < l.length), firstE ((l.take j).map f) = 0 → (f l[j] = 0 → firstE ((l.take (j + 1)).map f) = 0) ∧ (f l[j] ≠ 0 → firstE (l.map f) = f l[j])
  | x :: l, 0, h, _ => ⟨fun e => by have e' : f x = 0 := e; simp [firstE, e'], fun e => by have e' : f x ≠ 0 := e; simp [firstE, e']⟩
  | x :: l, j + 1, h, h0 => by
    simp only [List.take_succ_cons, List.map_cons, firstE] at h0
    by_cases e : f x = 0
    · rw [if_pos e] at h0
      have ih := firstE_take f l j (by simpa using h) h0
      simp only [List.getElem_cons_succ, List.take_succ_cons, List.map_cons, firstE, if_pos e]
      exact ih
    · rw [if_neg e] at h0; exact absurd h0 e
set_option maxRecDepth 100000 in
set_option maxHeartbeats 8000000 in
theorem check.loop (dp c ci lo hi : Int) (hdp0 : 0 ≤ dp) (hdp : dp ≤ 4) (n : S26) (A1 A2 : Option Addr) (c1 c2 : Nat) (w : World) (r1 r2 : Int) (r3 : ByteArray) (r4 r5 r6 r7 : Int) (r8 : Bool) (b1 b2 : Bool) (ck : S26 → Int) (E : Int) (HEQ : Aside0 (E = (if firstE (n.f2.map ck) = 0 then (if 65535 < szN n then 4 else 0) else firstE (n.f2.map ck))))
    (HOF : Aside0 (∀ W, Calls Tryz.prog 98 #[.int .i64 c, .int .u16 n.f0] W fun e w' => e = .returned (.tuple #[.agg #[.int .i64 r1, .int .u16 r2, .string r3, .int .i64 r4, .int .i64 r5, .int .i64 r6, .int .i64 r7], .bool r8]) ∧ Below W.heap.size W w'))
    (HFI : Aside0 (r8 = true → ∀ W, Calls Tryz.prog 99 #[.agg #[.int .i64 r1, .int .u16 r2, .string r3, .int .i64 r4, .int .i64 r5, .int .i64 r6, .int .i64 r7], .int .i64 (n.f1.length : Int)] W fun e w' => e = .returned (.bool b1) ∧ Below W.heap.size W w'))
    (HC1 : Aside0 (n.f1.length ≤ c1)) (HC2 : Aside0 (n.f2.length ≤ c2)) (hlen : n.f2.length ≤ 1048576)
    (HR2 : Aside0 (Kd.C k26 w A2 n.f2.length n.f2)) (HR1 : Aside0 (Kd.C (Kd.int .u8) w A1 n.f1.length n.f1))
    (HKI : Aside0 (r8 = true → ∀ W, Kd.C k26 W A2 n.f2.length n.f2 → Calls Tryz.prog 100 #[.agg #[.int .i64 r1, .int .u16 r2, .string r3, .int .i64 r4, .int .i64 r5, .int .i64 r6, .int .i64 r7], .slice A2 n.f2.length c2] W fun e w' => e = .returned (.bool b2) ∧ Below W.heap.size W w'))
    (HCO : Aside0 (∀ W, Kd.C (Kd.int .u8) W A1 n.f1.length n.f1 → Calls Tryz.prog 101 #[.int .i64 c, .int .u16 n.f0, .slice A1 n.f1.length c1] W fun e w' => e = .returned (.bool false) ∧ Below W.heap.size W w'))
    (HIN : Aside0 (∀ W, Calls Tryz.prog 102 #[.int .i64 r7] W fun e w' => e = .returned (.tuple #[.int .i64 ci, .int .i64 lo, .int .i64 hi]) ∧ Drawn0 W w'))
    (HKD : Aside0 (∀ x ∈ n.f2, ∀ (B1 B2 : Option Addr) (d1 d2 : Nat) (W : World), x.f1.length ≤ d1 → (Kd.int .u8).C W B1 x.f1.length x.f1 → x.f2.length ≤ d2 → Kd.C k26 W B2 x.f2.length x.f2 →
      Calls Tryz.prog 82 #[.int .i64 ci, .agg #[.int .u16 x.f0, .slice B1 x.f1.length d1, .slice B2 x.f2.length d2], .int .i64 (dp + 1)] W fun e w' => e = .returned (errI (ck x)) ∧ Below W.heap.size W w'))
    (HSZ : Aside0 (∀ (g : Nat) (W : World), Kd.C k26 W (some ⟨g, 0, none⟩) 1 [n] → Calls Tryz.prog 94 #[.slice (some ⟨g, 0, none⟩) 1 1] W fun e w' => e = .returned (.int .i64 (szN n : Int)) ∧ Below W.heap.size W w'))
    (hgood : (r8 = false ∧ n.f2.length = 0) ∨ (r8 = true ∧ b1 = true ∧ b2 = true)) :
    Calls Tryz.prog 82 #[.int .i64 c, .agg #[.int .u16 n.f0, .slice A1 n.f1.length c1, .slice A2 n.f2.length c2], .int .i64 dp] w fun e w' => e = .returned (errI E) ∧ Below w.heap.size w w' := by
  have HLE := Aside0.mk hlen
  have hlen2 : (n.f2.length : Int) ≤ 1048576 := by omega
  clear hlen
  have hz : n.f2.length = 0 → decide (0 < (n.f2.length : Int)) = false ∧ decide (0 < n.f2.length) = false := fun h => by simp [h]
  rcases hgood with ⟨rfl, h⟩ | ⟨rfl, rfl, rfl⟩
  · obtain ⟨hz1, hz2⟩ := hz h
    clear hz h
    go_enter Tryz.func82, Tryz.ntmps82
    go_wp2_with (first | (go_at_call 98; refine (HOF.out _).mono ?_; rintro e w1 ⟨rfl, hb⟩; have BK4 := Aside0.mk (blk_below (heap_alloc_new w (.cells #[.int .u16 n.f0, .slice A1 n.f1.length c1, .slice A2 n.f2.length c2] 26)) hb); have HB := Aside0.mk (((Below.refl _ w).alloc (Nat.le_refl _) _).trans (hb.mono (by simp))); have q40 := (blk_cell (blk_alloc BK4.out (.cells #[.int .i64 r1, .int .u16 r2, .string r3, .int .i64 r4, .int .i64 r5, .int .i64 r6, .int .i64 r7] 143)) 0).trans (show _ = some (Value.int .u16 n.f0) from rfl); have q41 := (blk_cell (blk_alloc BK4.out (.cells #[.int .i64 r1, .int .u16 r2, .string r3, .int .i64 r4, .int .i64 r5, .int .i64 r6, .int .i64 r7] 143)) 1).trans (show _ = some (Value.slice A1 n.f1.length c1) from rfl); have q42 := (blk_cell (blk_alloc BK4.out (.cells #[.int .i64 r1, .int .u16 r2, .string r3, .int .i64 r4, .int .i64 r5, .int .i64 r6, .int .i64 r7] 143)) 2).trans (show _ = some (Value.slice A2 n.f2.length c2) from rfl); clear hb) | (go_at_call 99; refine (HFI.out (by first | rfl | trivial) _).mono ?_; rintro e w2 ⟨rfl, hb⟩; (first | (have n4 := Aside0.mk (blk_below BK4.out hb); have n7 := Aside0.mk (blk_below BK7.out hb); have nb := Aside0.mk (HB.out.trans (hb.mono HB.out.size)); (try clear q40 q41 q42); (try clear q70 q71 q72 q73 q74 q75 q76); clear BK4 BK7 HB; have BK4 := n4; have BK7 := n7; have HB := nb; clear n4 n7 nb) | (have n4 := Aside0.mk (blk_below (blk_alloc BK4.out (.cells #[.int .i64 r1, .int .u16 r2, .string r3, .int .i64 r4, .int .i64 r5, .int .i64 r6, .int .i64 r7] 143)) hb); have n7 := Aside0.mk (blk_below (heap_alloc_new w1 (.cells #[.int .i64 r1, .int .u16 r2, .string r3, .int .i64 r4, .int .i64 r5, .int .i64 r6, .int .i64 r7] 143)) hb); have nb := Aside0.mk ((HB.out.alloc HB.out.size (.cells #[.int .i64 r1, .int .u16 r2, .string r3, .int .i64 r4, .int .i64 r5, .int .i64 r6, .int .i64 r7] 143)).trans (hb.mono (by have := HB.out.size; simp; omega))); (try clear q40 q41 q42); (try clear q70 q71 q72 q73 q74 q75 q76); clear BK4 HB; have BK4 := n4; have BK7 := n7; have HB := nb; clear n4 n7 nb)); have q40 := (blk_cell BK4.out 0).trans (show _ = some (Value.int .u16 n.f0) from rfl); have q41 := (blk_cell BK4.out 1).trans (show _ = some (Value.slice A1 n.f1.length c1) from rfl); have q42 := (blk_cell BK4.out 2).trans (show _ = some (Value.slice A2 n.f2.length c2) from rfl); have q70 := (blk_cell BK7.out 0).trans (show _ = some (Value.int .i64 r1) from rfl); have q71 := (blk_cell BK7.out 1).trans (show _ = some (Value.int .u16 r2) from rfl); have q72 := (blk_cell BK7.out 2).trans (show _ = some (Value.string r3) from rfl); have q73 := (blk_cell BK7.out 3).trans (show _ = some (Value.int .i64 r4) from rfl); have q74 := (blk_cell BK7.out 4).trans (show _ = some (Value.int .i64 r5) from rfl); have q75 := (blk_cell BK7.out 5).trans (show _ = some (Value.int .i64 r6) from rfl); have q76 := (blk_cell BK7.out 6).trans (show _ = some (Value.int .i64 r7) from rfl); clear hb) | (go_at_call 100; refine (HKI.out (by first | rfl | trivial) _ (Kd.C_below HR2.out HB.out)).mono ?_; rintro e w3 ⟨rfl, hb⟩; (first | (have n4 := Aside0.mk (blk_below BK4.out hb); have n7 := Aside0.mk (blk_below BK7.out hb); have nb := Aside0.mk (HB.out.trans (hb.mono HB.out.size)); (try clear q40 q41 q42); (try clear q70 q71 q72 q73 q74 q75 q76); clear BK4 BK7 HB; have BK4 := n4; have BK7 := n7; have HB := nb; clear n4 n7 nb) | (have n4 := Aside0.mk (blk_below (blk_alloc BK4.out (.cells #[.int .i64 r1, .int .u16 r2, .string r3, .int .i64 r4, .int .i64 r5, .int .i64 r6, .int .i64 r7] 143)) hb); have n7 := Aside0.mk (blk_below (heap_alloc_new w1 (.cells #[.int .i64 r1, .int .u16 r2, .string r3, .int .i64 r4, .int .i64 r5, .int .i64 r6, .int .i64 r7] 143)) hb); have nb := Aside0.mk ((HB.out.alloc HB.out.size (.cells #[.int .i64 r1, .int .u16 r2, .string r3, .int .i64 r4, .int .i64 r5, .int .i64 r6, .int .i64 r7] 143)).trans (hb.mono (by have := HB.out.size; simp; omega))); (try clear q40 q41 q42); (try clear q70 q71 q72 q73 q74 q75 q76); clear BK4 HB; have BK4 := n4; have BK7 := n7; have HB := nb; clear n4 n7 nb)); have q40 := (blk_cell BK4.out 0).trans (show _ = some (Value.int .u16 n.f0) from rfl); have q41 := (blk_cell BK4.out 1).trans (show _ = some (Value.slice A1 n.f1.length c1) from rfl); have q42 := (blk_cell BK4.out 2).trans (show _ = some (Value.slice A2 n.f2.length c2) from rfl); have q70 := (blk_cell BK7.out 0).trans (show _ = some (Value.int .i64 r1) from rfl); have q71 := (blk_cell BK7.out 1).trans (show _ = some (Value.int .u16 r2) from rfl); have q72 := (blk_cell BK7.out 2).trans (show _ = some (Value.string r3) from rfl); have q73 := (blk_cell BK7.out 3).trans (show _ = some (Value.int .i64 r4) from rfl); have q74 := (blk_cell BK7.out 4).trans (show _ = some (Value.int .i64 r5) from rfl); have q75 := (blk_cell BK7.out 5).trans (show _ = some (Value.int .i64 r6) from rfl); have q76 := (blk_cell BK7.out 6).trans (show _ = some (Value.int .i64 r7) from rfl); clear hb) | (go_at_call 101; refine (HCO.out _ (Kd.C_below HR1.out (by first | exact HB.out | exact HB.out.alloc HB.out.size _))).mono ?_; rintro e w4 ⟨rfl, hb⟩; (first | (have n4 := Aside0.mk (blk_below BK4.out hb); have n7 := Aside0.mk (blk_below BK7.out hb); have nb := Aside0.mk (HB.out.trans (hb.mono HB.out.size)); (try clear q40 q41 q42); (try clear q70 q71 q72 q73 q74 q75 q76); clear BK4 BK7 HB; have BK4 := n4; have BK7 := n7; have HB := nb; clear n4 n7 nb) | (have n4 := Aside0.mk (blk_below (blk_alloc BK4.out (.cells #[.int .i64 r1, .int .u16 r2, .string r3, .int .i64 r4, .int .i64 r5, .int .i64 r6, .int .i64 r7] 143)) hb); have n7 := Aside0.mk (blk_below (heap_alloc_new w1 (.cells #[.int .i64 r1, .int .u16 r2, .string r3, .int .i64 r4, .int .i64 r5, .int .i64 r6, .int .i64 r7] 143)) hb); have nb := Aside0.mk ((HB.out.alloc HB.out.size (.cells #[.int .i64 r1, .int .u16 r2, .string r3, .int .i64 r4, .int .i64 r5, .int .i64 r6, .int .i64 r7] 143)).trans (hb.mono (by have := HB.out.size; simp; omega))); (try clear q40 q41 q42); (try clear q70 q71 q72 q73 q74 q75 q76); clear BK4 HB; have BK4 := n4; have BK7 := n7; have HB := nb; clear n4 n7 nb)); have q40 := (blk_cell BK4.out 0).trans (show _ = some (Value.int .u16 n.f0) from rfl); have q41 := (blk_cell BK4.out 1).trans (show _ = some (Value.slice A1 n.f1.length c1) from rfl); have q42 := (blk_cell BK4.out 2).trans (show _ = some (Value.slice A2 n.f2.length c2) from rfl); have q70 := (blk_cell BK7.out 0).trans (show _ = some (Value.int .i64 r1) from rfl); have q71 := (blk_cell BK7.out 1).trans (show _ = some (Value.int .u16 r2) from rfl); have q72 := (blk_cell BK7.out 2).trans (show _ = some (Value.string r3) from rfl); have q73 := (blk_cell BK7.out 3).trans (show _ = some (Value.int .i64 r4) from rfl); have q74 := (blk_cell BK7.out 4).trans (show _ = some (Value.int .i64 r5) from rfl); have q75 := (blk_cell BK7.out 5).trans (show _ = some (Value.int .i64 r6) from rfl); have q76 := (blk_cell BK7.out 6).trans (show _ = some (Value.int .i64 r7) from rfl); clear hb) | (go_at_call 102; refine (HIN.out _).mono ?_; rintro e w5 ⟨rfl, nd, rfl⟩))
    obtain ⟨wl, hwl⟩ : ∃ wl, wl = w4.drewN nd := ⟨_, rfl⟩
    have BKL := Aside0.mk (blk_drewN BK4.out nd)
    have HBL := Aside0.mk (pw_below_drewN HB.out nd)
    rw [← hwl] at BKL HBL ⊢
    clear hwl q40 q41 q42 q70 q71 q72 q73 q74 q75 q76 BK4 BK7 HB
    clear HOF HFI HKI HCO HIN
    go_loopw [69] (fun i W => ∃ j : Nat, j ≤ n.f2.length ∧ i = .int .i64 j ∧ Aside0 (firstE ((n.f2.take j).map ck) = 0) ∧ Aside0 (Below wl.heap.size wl W)) (fun i _ => n.f2.length - (intOf i).toNat)
    case atStart => exact ⟨0, Nat.zero_le _, rfl, ⟨rfl⟩, ⟨Below.refl _ wl⟩⟩
    case round =>
      obtain ⟨j, hj, rfl, HF, HW⟩ := hrel
      have HWW := Aside0.mk (HBL.out.trans (HW.out.mono HBL.out.size))
      have HRW := Aside0.mk (Kd.C_below HR2.out HWW.out)
      by_cases hlt : j < n.f2.length
      · obtain ⟨ad, B1, d1, B2, d2, e, hx0, hx1, hx2, l1, g1, l2, g2⟩ := at_T26 HRW.out (j : Int) (by omega) (by omega)
        rw [rdN_at n.f2 j hlt] at hx0 hx1 hx2 l1 g1 l2 g2
        rw [Int.toNat_natCast] at hx0 hx1 hx2
        subst e
        have HFT := Aside0.mk (firstE_take ck n.f2 j hlt HF.out)
        have HK := Aside0.mk (HKD.out n.f2[j] (List.getElem_mem hlt) B1 B2 d1 d2)
        obtain ⟨x, hx⟩ : ∃ x, x = n.f2[j] := ⟨_, rfl⟩
        rw [← hx] at hx0 hx1 hx2 l1 g1 l2 g2 HFT HK
        have HL1 := Aside0.mk l1
        have HL2 := Aside0.mk l2
        have HG1 := Aside0.mk g1
        have HG2 := Aside0.mk g2
        clear hx l1 l2 g1 g2
        have hlt2 : (j : Int) < n.f2.length := by omega
        by_cases hc : ck x = 0
        · have HE := Aside0.mk (show errI (ck x) = .nilIface from by rw [hc]; rfl)
          rw [HE.out] at HK
          have HFT1 := Aside0.mk (HFT.out.1 hc)
          clear hc
          go_wp2_with (first | (go_at_call 82; refine (HK.out _ HL1.out (Kd.C_alloc HG1.out _) HL2.out (Kd.C_alloc HG2.out _)).mono ?_; rintro e w9 ⟨rfl, hb⟩; have HB9 := Aside0.mk hb; clear hb))
          refine ⟨⟨j + 1, by omega, by go_num, ⟨HFT1.out⟩, ⟨(HW.out.alloc HW.out.size _).trans (HB9.out.mono (by have := HW.out.size; simp; omega))⟩⟩, by simp [intOf]; omega⟩
        · have HE := Aside0.mk (show errI (ck x) = .iface 101 (.int .i64 (ck x)) from by unfold errI; rw [if_neg hc]; rfl)
          have HFT1 := Aside0.mk (show errI E = errI (ck x) from by rw [HEQ.out, HFT.out.2 hc, if_neg hc])
          rw [HE.out] at HK
          clear hc HFT
          generalize ck x = v at HK HE HFT1
          go_wp2_with (first | (go_at_call 82; refine (HK.out _ HL1.out (Kd.C_alloc HG1.out _) HL2.out (Kd.C_alloc HG2.out _)).mono ?_; rintro e w9 ⟨rfl, hb⟩; have HB9 := Aside0.mk hb; clear hb))
          go_ret
          exact ⟨congrArg Ending.returned (HE.out.symm.trans HFT1.out.symm), (HWW.out.alloc HWW.out.size _).trans (HB9.out.mono (by have := HWW.out.size; simp; omega))⟩
      · obtain rfl : j = n.f2.length := by omega
        have hF := HF.out
        rw [List.take_length] at hF
        have HF0 := Aside0.mk (show ∀ e, e = (if 65535 < szN n then 4 else 0) → errI E = errI e from fun e he => by rw [HEQ.out, if_pos hF, he])
        have BKW := Aside0.mk (blk_below BKL.out HW.out)
        have q40 := (blk_cell BKW.out 0).trans (show _ = some (Value.int .u16 n.f0) from rfl)
        have q41 := (blk_cell BKW.out 1).trans (show _ = some (Value.slice A1 n.f1.length c1) from rfl)
        have q42 := (blk_cell BKW.out 2).trans (show _ = some (Value.slice A2 n.f2.length c2) from rfl)
        have HS1 := Aside0.mk (HSZ.out wr.heap.size (wr.alloc (.cells #[.int .u16 n.f0, .slice A1 n.f1.length c1, .slice A2 n.f2.length c2] 26)) (blk_one (heap_alloc_new wr _) HC1.out (Kd.C_alloc (Kd.C_below HR1.out HWW.out) _) HC2.out (Kd.C_alloc HRW.out _)))
        clear hF HF hlt
        obtain ⟨sz, hsz⟩ : ∃ sz, sz = szN n := ⟨_, rfl⟩
        rw [← hsz] at HS1 HF0
        clear hsz
        by_cases hs : 65535 < sz
        · have HF1 := Aside0.mk (HF0.out 4 (by rw [if_pos hs]))
          have hs2 : (65535 : Int) < (sz : Int) := by omega
          clear HF0
          go_wp2_with (first | (go_at_call 94; refine HS1.out.mono ?_; rintro e w9 ⟨rfl, hb⟩; have HB9 := Aside0.mk hb; clear hb))
          go_ret
          exact ⟨congrArg Ending.returned HF1.out.symm, (HWW.out.alloc HWW.out.size _).trans (HB9.out.mono (by have := HWW.out.size; simp; omega))⟩
        · have HF1 := Aside0.mk (HF0.out 0 (by rw [if_neg hs]))
          have hs2 : ¬ (65535 : Int) < (sz : Int) := by omega
          clear HF0
          go_wp2_with (first | (go_at_call 94; refine HS1.out.mono ?_; rintro e w9 ⟨rfl, hb⟩; have HB9 := Aside0.mk hb; clear hb))
          go_ret
          exact ⟨congrArg Ending.returned HF1.out.symm, (HWW.out.alloc HWW.out.size _).trans (HB9.out.mono (by have := HWW.out.size; simp; omega))⟩
  · clear hz
    go_enter Tryz.func82, Tryz.ntmps82
    go_wp2_with (first | (go_at_call 98; refine (HOF.out _).mono ?_; rintro e w1 ⟨rfl, hb⟩; have BK4 := Aside0.mk (blk_below (heap_alloc_new w (.cells #[.int .u16 n.f0, .slice A1 n.f1.length c1, .slice A2 n.f2.length c2] 26)) hb); have HB := Aside0.mk (((Below.refl _ w).alloc (Nat.le_refl _) _).trans (hb.mono (by simp))); have q40 := (blk_cell (blk_alloc BK4.out (.cells #[.int .i64 r1, .int .u16 r2, .string r3, .int .i64 r4, .int .i64 r5, .int .i64 r6, .int .i64 r7] 143)) 0).trans (show _ = some (Value.int .u16 n.f0) from rfl); have q41 := (blk_cell (blk_alloc BK4.out (.cells #[.int .i64 r1, .int .u16 r2, .string r3, .int .i64 r4, .int .i64 r5, .int .i64 r6, .int .i64 r7] 143)) 1).trans (show _ = some (Value.slice A1 n.f1.length c1) from rfl); have q42 := (blk_cell (blk_alloc BK4.out (.cells #[.int .i64 r1, .int .u16 r2, .string r3, .int .i64 r4, .int .i64 r5, .int .i64 r6, .int .i64 r7] 143)) 2).trans (show _ = some (Value.slice A2 n.f2.length c2) from rfl); clear hb) | (go_at_call 99; refine (HFI.out (by first | rfl | trivial) _).mono ?_; rintro e w2 ⟨rfl, hb⟩; (first | (have n4 := Aside0.mk (blk_below BK4.out hb); have n7 := Aside0.mk (blk_below BK7.out hb); have nb := Aside0.mk (HB.out.trans (hb.mono HB.out.size)); (try clear q40 q41 q42); (try clear q70 q71 q72 q73 q74 q75 q76); clear BK4 BK7 HB; have BK4 := n4; have BK7 := n7; have HB := nb; clear n4 n7 nb) | (have n4 := Aside0.mk (blk_below (blk_alloc BK4.out (.cells #[.int .i64 r1, .int .u16 r2, .string r3, .int .i64 r4, .int .i64 r5, .int .i64 r6, .int .i64 r7] 143)) hb); have n7 := Aside0.mk (blk_below (heap_alloc_new w1 (.cells #[.int .i64 r1, .int .u16 r2, .string r3, .int .i64 r4, .int .i64 r5, .int .i64 r6, .int .i64 r7] 143)) hb); have nb := Aside0.mk ((HB.out.alloc HB.out.size (.cells #[.int .i64 r1, .int .u16 r2, .string r3, .int .i64 r4, .int .i64 r5, .int .i64 r6, .int .i64 r7] 143)).trans (hb.mono (by have := HB.out.size; simp; omega))); (try clear q40 q41 q42); (try clear q70 q71 q72 q73 q74 q75 q76); clear BK4 HB; have BK4 := n4; have BK7 := n7; have HB := nb; clear n4 n7 nb)); have q40 := (blk_cell BK4.out 0).trans (show _ = some (Value.int .u16 n.f0) from rfl); have q41 := (blk_cell BK4.out 1).trans (show _ = some (Value.slice A1 n.f1.length c1) from rfl); have q42 := (blk_cell BK4.out 2).trans (show _ = some (Value.slice A2 n.f2.length c2) from rfl); have q70 := (blk_cell BK7.out 0).trans (show _ = some (Value.int .i64 r1) from rfl); have q71 := (blk_cell BK7.out 1).trans (show _ = some (Value.int .u16 r2) from rfl); have q72 := (blk_cell BK7.out 2).trans (show _ = some (Value.string r3) from rfl); have q73 := (blk_cell BK7.out 3).trans (show _ = some (Value.int .i64 r4) from rfl); have q74 := (blk_cell BK7.out 4).trans (show _ = some (Value.int .i64 r5) from rfl); have q75 := (blk_cell BK7.out 5).trans (show _ = some (Value.int .i64 r6) from rfl); have q76 := (blk_cell BK7.out 6).trans (show _ = some (Value.int .i64 r7) from rfl); clear hb) | (go_at_call 100; refine (HKI.out (by first | rfl | trivial) _ (Kd.C_below HR2.out HB.out)).mono ?_; rintro e w3 ⟨rfl, hb⟩; (first | (have n4 := Aside0.mk (blk_below BK4.out hb); have n7 := Aside0.mk (blk_below BK7.out hb); have nb := Aside0.mk (HB.out.trans (hb.mono HB.out.size)); (try clear q40 q41 q42); (try clear q70 q71 q72 q73 q74 q75 q76); clear BK4 BK7 HB; have BK4 := n4; have BK7 := n7; have HB := nb; clear n4 n7 nb) | (have n4 := Aside0.mk (blk_below (blk_alloc BK4.out (.cells #[.int .i64 r1, .int .u16 r2, .string r3, .int .i64 r4, .int .i64 r5, .int .i64 r6, .int .i64 r7] 143)) hb); have n7 := Aside0.mk (blk_below (heap_alloc_new w1 (.cells #[.int .i64 r1, .int .u16 r2, .string r3, .int .i64 r4, .int .i64 r5, .int .i64 r6, .int .i64 r7] 143)) hb); have nb := Aside0.mk ((HB.out.alloc HB.out.size (.cells #[.int .i64 r1, .int .u16 r2, .string r3, .int .i64 r4, .int .i64 r5, .int .i64 r6, .int .i64 r7] 143)).trans (hb.mono (by have := HB.out.size; simp; omega))); (try clear q40 q41 q42); (try clear q70 q71 q72 q73 q74 q75 q76); clear BK4 HB; have BK4 := n4; have BK7 := n7; have HB := nb; clear n4 n7 nb)); have q40 := (blk_cell BK4.out 0).trans (show _ = some (Value.int .u16 n.f0) from rfl); have q41 := (blk_cell BK4.out 1).trans (show _ = some (Value.slice A1 n.f1.length c1) from rfl); have q42 := (blk_cell BK4.out 2).trans (show _ = some (Value.slice A2 n.f2.length c2) from rfl); have q70 := (blk_cell BK7.out 0).trans (show _ = some (Value.int .i64 r1) from rfl); have q71 := (blk_cell BK7.out 1).trans (show _ = some (Value.int .u16 r2) from rfl); have q72 := (blk_cell BK7.out 2).trans (show _ = some (Value.string r3) from rfl); have q73 := (blk_cell BK7.out 3).trans (show _ = some (Value.int .i64 r4) from rfl); have q74 := (blk_cell BK7.out 4).trans (show _ = some (Value.int .i64 r5) from rfl); have q75 := (blk_cell BK7.out 5).trans (show _ = some (Value.int .i64 r6) from rfl); have q76 := (blk_cell BK7.out 6).trans (show _ = some (Value.int .i64 r7) from rfl); clear hb) | (go_at_call 101; refine (HCO.out _ (Kd.C_below HR1.out (by first | exact HB.out | exact HB.out.alloc HB.out.size _))).mono ?_; rintro e w4 ⟨rfl, hb⟩; (first | (have n4 := Aside0.mk (blk_below BK4.out hb); have n7 := Aside0.mk (blk_below BK7.out hb); have nb := Aside0.mk (HB.out.trans (hb.mono HB.out.size)); (try clear q40 q41 q42); (try clear q70 q71 q72 q73 q74 q75 q76); clear BK4 BK7 HB; have BK4 := n4; have BK7 := n7; have HB := nb; clear n4 n7 nb) | (have n4 := Aside0.mk (blk_below (blk_alloc BK4.out (.cells #[.int .i64 r1, .int .u16 r2, .string r3, .int .i64 r4, .int .i64 r5, .int .i64 r6, .int .i64 r7] 143)) hb); have n7 := Aside0.mk (blk_below (heap_alloc_new w1 (.cells #[.int .i64 r1, .int .u16 r2, .string r3, .int .i64 r4, .int .i64 r5, .int .i64 r6, .int .i64 r7] 143)) hb); have nb := Aside0.mk ((HB.out.alloc HB.out.size (.cells #[.int .i64 r1, .int .u16 r2, .string r3, .int .i64 r4, .int .i64 r5, .int .i64 r6, .int .i64 r7] 143)).trans (hb.mono (by have := HB.out.size; simp; omega))); (try clear q40 q41 q42); (try clear q70 q71 q72 q73 q74 q75 q76); clear BK4 HB; have BK4 := n4; have BK7 := n7; have HB := nb; clear n4 n7 nb)); have q40 := (blk_cell BK4.out 0).trans (show _ = some (Value.int .u16 n.f0) from rfl); have q41 := (blk_cell BK4.out 1).trans (show _ = some (Value.slice A1 n.f1.length c1) from rfl); have q42 := (blk_cell BK4.out 2).trans (show _ = some (Value.slice A2 n.f2.length c2) from rfl); have q70 := (blk_cell BK7.out 0).trans (show _ = some (Value.int .i64 r1) from rfl); have q71 := (blk_cell BK7.out 1).trans (show _ = some (Value.int .u16 r2) from rfl); have q72 := (blk_cell BK7.out 2).trans (show _ = some (Value.string r3) from rfl); have q73 := (blk_cell BK7.out 3).trans (show _ = some (Value.int .i64 r4) from rfl); have q74 := (blk_cell BK7.out 4).trans (show _ = some (Value.int .i64 r5) from rfl); have q75 := (blk_cell BK7.out 5).trans (show _ = some (Value.int .i64 r6) from rfl); have q76 := (blk_cell BK7.out 6).trans (show _ = some (Value.int .i64 r7) from rfl); clear hb) | (go_at_call 102; refine (HIN.out _).mono ?_; rintro e w5 ⟨rfl, nd, rfl⟩))
    obtain ⟨wl, hwl⟩ : ∃ wl, wl = w4.drewN nd := ⟨_, rfl⟩
    have BKL := Aside0.mk (blk_drewN BK4.out nd)
    have HBL := Aside0.mk (pw_below_drewN HB.out nd)
    rw [← hwl] at BKL HBL ⊢
    clear hwl q40 q41 q42 q70 q71 q72 q73 q74 q75 q76 BK4 BK7 HB
    clear HOF HFI HKI HCO HIN
    go_loopw [69] (fun i W => ∃ j : Nat, j ≤ n.f2.length ∧ i = .int .i64 j ∧ Aside0 (firstE ((n.f2.take j).map ck) = 0) ∧ Aside0 (Below wl.heap.size wl W)) (fun i _ => n.f2.length - (intOf i).toNat)
    case atStart => exact ⟨0, Nat.zero_le _, rfl, ⟨rfl⟩, ⟨Below.refl _ wl⟩⟩
    case round =>
      obtain ⟨j, hj, rfl, HF, HW⟩ := hrel
      have HWW := Aside0.mk (HBL.out.trans (HW.out.mono HBL.out.size))
      have HRW := Aside0.mk (Kd.C_below HR2.out HWW.out)
      by_cases hlt : j < n.f2.length
      · obtain ⟨ad, B1, d1, B2, d2, e, hx0, hx1, hx2, l1, g1, l2, g2⟩ := at_T26 HRW.out (j : Int) (by omega) (by omega)
        rw [rdN_at n.f2 j hlt] at hx0 hx1 hx2 l1 g1 l2 g2
        rw [Int.toNat_natCast] at hx0 hx1 hx2
        subst e
        have HFT := Aside0.mk (firstE_take ck n.f2 j hlt HF.out)
        have HK := Aside0.mk (HKD.out n.f2[j] (List.getElem_mem hlt) B1 B2 d1 d2)
        obtain ⟨x, hx⟩ : ∃ x, x = n.f2[j] := ⟨_, rfl⟩
        rw [← hx] at hx0 hx1 hx2 l1 g1 l2 g2 HFT HK
        have HL1 := Aside0.mk l1
        have HL2 := Aside0.mk l2
        have HG1 := Aside0.mk g1
        have HG2 := Aside0.mk g2
        clear hx l1 l2 g1 g2
        have hlt2 : (j : Int) < n.f2.length := by omega
        by_cases hc : ck x = 0
        · have HE := Aside0.mk (show errI (ck x) = .nilIface from by rw [hc]; rfl)
          rw [HE.out] at HK
          have HFT1 := Aside0.mk (HFT.out.1 hc)
          clear hc
          go_wp2_with (first | (go_at_call 82; refine (HK.out _ HL1.out (Kd.C_alloc HG1.out _) HL2.out (Kd.C_alloc HG2.out _)).mono ?_; rintro e w9 ⟨rfl, hb⟩; have HB9 := Aside0.mk hb; clear hb))
          refine ⟨⟨j + 1, by omega, by go_num, ⟨HFT1.out⟩, ⟨(HW.out.alloc HW.out.size _).trans (HB9.out.mono (by have := HW.out.size; simp; omega))⟩⟩, by simp [intOf]; omega⟩
        · have HE := Aside0.mk (show errI (ck x) = .iface 101 (.int .i64 (ck x)) from by unfold errI; rw [if_neg hc]; rfl)
          have HFT1 := Aside0.mk (show errI E = errI (ck x) from by rw [HEQ.out, HFT.out.2 hc, if_neg hc])
          rw [HE.out] at HK
          clear hc HFT
          generalize ck x = v at HK HE HFT1
          go_wp2_with (first | (go_at_call 82; refine (HK.out _ HL1.out (Kd.C_alloc HG1.out _) HL2.out (Kd.C_alloc HG2.out _)).mono ?_; rintro e w9 ⟨rfl, hb⟩; have HB9 := Aside0.mk hb; clear hb))
          go_ret
          exact ⟨congrArg Ending.returned (HE.out.symm.trans HFT1.out.symm), (HWW.out.alloc HWW.out.size _).trans (HB9.out.mono (by have := HWW.out.size; simp; omega))⟩
      · obtain rfl : j = n.f2.length := by omega
        have hF := HF.out
        rw [List.take_length] at hF
        have HF0 := Aside0.mk (show ∀ e, e = (if 65535 < szN n then 4 else 0) → errI E = errI e from fun e he => by rw [HEQ.out, if_pos hF, he])
        have BKW := Aside0.mk (blk_below BKL.out HW.out)
        have q40 := (blk_cell BKW.out 0).trans (show _ = some (Value.int .u16 n.f0) from rfl)
        have q41 := (blk_cell BKW.out 1).trans (show _ = some (Value.slice A1 n.f1.length c1) from rfl)
        have q42 := (blk_cell BKW.out 2).trans (show _ = some (Value.slice A2 n.f2.length c2) from rfl)
        have HS1 := Aside0.mk (HSZ.out wr.heap.size (wr.alloc (.cells #[.int .u16 n.f0, .slice A1 n.f1.length c1, .slice A2 n.f2.length c2] 26)) (blk_one (heap_alloc_new wr _) HC1.out (Kd.C_alloc (Kd.C_below HR1.out HWW.out) _) HC2.out (Kd.C_alloc HRW.out _)))
        clear hF HF hlt
        obtain ⟨sz, hsz⟩ : ∃ sz, sz = szN n := ⟨_, rfl⟩
        rw [← hsz] at HS1 HF0
        clear hsz
        by_cases hs : 65535 < sz
        · have HF1 := Aside0.mk (HF0.out 4 (by rw [if_pos hs]))
          have hs2 : (65535 : Int) < (sz : Int) := by omega
          clear HF0
          go_wp2_with (first | (go_at_call 94; refine HS1.out.mono ?_; rintro e w9 ⟨rfl, hb⟩; have HB9 := Aside0.mk hb; clear hb))
          go_ret
          exact ⟨congrArg Ending.returned HF1.out.symm, (HWW.out.alloc HWW.out.size _).trans (HB9.out.mono (by have := HWW.out.size; simp; omega))⟩
        · have HF1 := Aside0.mk (HF0.out 0 (by rw [if_neg hs]))
          have hs2 : ¬ (65535 : Int) < (sz : Int) := by omega
          clear HF0
          go_wp2_with (first | (go_at_call 94; refine HS1.out.mono ?_; rintro e w9 ⟨rfl, hb⟩; have HB9 := Aside0.mk hb; clear hb))
          go_ret
          exact ⟨congrArg Ending.returned HF1.out.symm, (HWW.out.alloc HWW.out.size _).trans (HB9.out.mono (by have := HWW.out.size; simp; omega))⟩
end Go.Proofs.YtpgfhbdnlojdfaaGreatDoor.P
namespace Go.Proofs.YtpgfhbdnlojdfaaGreatDoor.P
open Go.RowKit Go.Proofs.YtpgfhbdnlojdfaaGreatDoorW.PrintWords Go.Proofs.YtpgfhbdnlojdfaaGreatDoorW.PrintLast Go.Proofs.YtpgfhbdnlojdfaaGreatDoorW.PrintMore
set_option linter.unusedVariables false
theorem szL_one (n : S26) : szL [n] = szN n := by simp [szL]
theorem rows_len {n : S26} (hs : szN n ≤ 4194304) : n.f1.length ≤ 4194304 ∧ n.f2.length ≤ 1048576 ∧ szL n.f2 ≤ 4194304 := by
  have h := szN_eq n
  have h2 := szL_len n.f2
  omega
theorem size_one (n : S26) (hs : szN n ≤ 4194304) (g : Nat) (W : World) (h : Kd.C k26 W (some ⟨g, 0, none⟩) 1 [n]) :
    Calls Tryz.prog 94 #[.slice (some ⟨g, 0, none⟩) 1 1] W fun e w' => e = .returned (.int .i64 (szN n : Int)) ∧ Below W.heap.size W w' := by
  have hev := nodeSize_ev (ctL [n]) [n] (Nat.le_refl _) (by rw [szL_one]; exact hs)
  rw [szL_one] at hev
  obtain ⟨k, hk⟩ := hev.rounds
  exact node_Size.calls k (some ⟨g, 0, none⟩) 1 [n] _ W h (Nat.le_refl _) hk
theorem counted_all (c : Int) (n : S26) (hs : szN n ≤ 4194304) (A1 : Option Addr) (c1 : Nat) (hc1 : n.f1.length ≤ c1) (b : Bool) (hb : bad8 c n.f0 n.f1 = b) (W : World) (h : Kd.C (Kd.int .u8) W A1 n.f1.length n.f1) :
    Calls Tryz.prog 101 #[.int .i64 c, .int .u16 n.f0, .slice A1 n.f1.length c1] W fun e w' => e = .returned (.bool b) ∧ Below W.heap.size W w' := by
  refine node_counted.calls c n.f0 A1 c1 n.f1 b W h hc1 ?_
  unfold node_counted.f
  rw [if_pos (by have := (rows_len hs).1; omega), ← hb]
  rfl
theorem node_check.any : ∀ (d : Nat), d ≤ 4 → ∀ (c : Int) (n : S26) (A1 A2 : Option Addr) (c1 c2 : Nat) (w : World), okN n = true → szN n ≤ 4194304 →
    n.f1.length ≤ c1 → (Kd.int .u8).C w A1 n.f1.length n.f1 → n.f2.length ≤ c2 → Kd.C k26 w A2 n.f2.length n.f2 →
    Calls Tryz.prog 82 #[.int .i64 c, .agg #[.int .u16 n.f0, .slice A1 n.f1.length c1, .slice A2 n.f2.length c2], .int .i64 (5 - (d : Int))] w fun e w' => e = .returned (errI (chk d c n)) ∧ Below w.heap.size w w' := by
  intro d
  induction d with
  | zero => intro _ c n A1 A2 c1 c2 w _ _ _ _ _ _; exact check.deep c n A1 A2 c1 c2 w
  | succ d ih =>
    intro hd c n A1 A2 c1 c2 w hok hs l1 g1 l2 g2
    obtain ⟨ht, _, hk⟩ := okN_iff n hok
    obtain ⟨hl1, hl2, hsz⟩ := rows_len hs
    have hdp : (5 : Int) - ((d + 1 : Nat) : Int) = 4 - d := by omega
    rw [hdp]
    have HR2 := Aside0.mk g2
    have HR1 := Aside0.mk g1
    have HSZ := Aside0.mk (size_one n hs)
    have kid : ∀ ci, ∀ x ∈ n.f2, ∀ (B1 B2 : Option Addr) (d1 d2 : Nat) (W : World), x.f1.length ≤ d1 → (Kd.int .u8).C W B1 x.f1.length x.f1 → x.f2.length ≤ d2 → Kd.C k26 W B2 x.f2.length x.f2 →
        Calls Tryz.prog 82 #[.int .i64 ci, .agg #[.int .u16 x.f0, .slice B1 x.f1.length d1, .slice B2 x.f2.length d2], .int .i64 (4 - (d : Int) + 1)] W fun e w' => e = .returned (errI (chk d ci x)) ∧ Below W.heap.size W w' := by
      intro ci x hx B1 B2 d1 d2 W a1 a2 a3 a4
      have hz := sz_mem hx
      have := ih (by omega) ci x B1 B2 d1 d2 W (okL_mem hk x hx) (by omega) a1 a2 a3 a4
      rw [show (4 : Int) - (d : Int) + 1 = 5 - d by omega]
      exact this
    rw [chk]
    cases hf : lastF n.f0 (formsOf c) with
    | none =>
      have HOF := Aside0.mk (fun W => shape_Of.calls c n.f0 _ _ _ _ _ _ _ _ W (shapeOf_none c n.f0 ht hf))
      have hbad : ∀ b, bad8 c n.f0 n.f1 = b → _ := fun b hb => Aside0.mk (counted_all c n hs A1 c1 l1 b hb)
      dsimp only
      by_cases hk0 : n.f2.length = 0
      · rw [if_pos hk0]
        unfold chkRest
        cases hb : bad8 c n.f0 n.f1 with
        | true =>
          exact check.count (4 - d) c (by omega) n A1 A2 c1 c2 w 0 0 ⟨#[]⟩ 0 0 0 0 false true true HOF ⟨fun h => by cases h⟩ HR2 HR1 ⟨fun h => by cases h⟩ (hbad true hb) (.inl ⟨rfl, hk0⟩)
        | false =>
          obtain ⟨lo, hi, hin⟩ := shapeInside_row 0 (.inl rfl) 0
          exact check.loop (4 - d) c (insC 0) lo hi (by omega) (by omega) n A1 A2 c1 c2 w 0 0 ⟨#[]⟩ 0 0 0 0 false true true (chk d (insC 0)) _ ⟨rfl⟩ HOF ⟨fun h => by cases h⟩ ⟨l1⟩ ⟨l2⟩ hl2 HR2 HR1 ⟨fun h => by cases h⟩ (hbad false hb)
            ⟨fun W => shape_Inside.calls 1 0 _ _ _ W hin⟩ ⟨kid (insC 0)⟩ HSZ (.inl ⟨rfl, hk0⟩)
      · rw [if_neg hk0]
        exact check.form (4 - d) c (by omega) n A1 A2 c1 c2 w 0 0 ⟨#[]⟩ 0 0 0 0 false true true HOF ⟨fun h => by cases h⟩ HR2 HR1 ⟨fun h => by cases h⟩ (.inl ⟨rfl, hk0⟩)
    | some x =>
      obtain ⟨hg3, hg5, hg6, hg4⟩ := form_good c n.f0 x hf
      have HOF := Aside0.mk (fun W => shape_Of.calls c n.f0 _ _ _ _ _ _ _ _ W (shapeOf_some c n.f0 ht x hf))
      have HFI : Aside0 (true = true → ∀ W, _) := ⟨fun _ W => shape_Fits.calls c x.f1 x.f2 x.f3 x.f4 x.f5 x.f6 (n.f1.length : Int) _ W (shapeFits_row x c n.f1.length ⟨hg3, hg5⟩ hl1)⟩
      have HKI : Aside0 (true = true → ∀ W, Kd.C k26 W A2 n.f2.length n.f2 → _) := ⟨fun _ W hW => node_kids.calls 1 c x.f1 x.f2 x.f3 x.f4 x.f5 x.f6 A2 c2 n.f2 _ W hW l2 (nodeKids_row x c n.f2 hg6 0)⟩
      have hbad : ∀ b, bad8 c n.f0 n.f1 = b → _ := fun b hb => Aside0.mk (counted_all c n hs A1 c1 l1 b hb)
      dsimp only
      cases hfk : (fitsF x n.f1.length && kidsB x.f6 n.f2) with
      | true =>
        rw [if_pos rfl]
        rw [Bool.and_eq_true] at hfk
        unfold chkRest
        cases hb : bad8 c n.f0 n.f1 with
        | true =>
          exact check.count (4 - d) c (by omega) n A1 A2 c1 c2 w _ _ _ _ _ _ _ true _ _ HOF HFI HR2 HR1 HKI (hbad true hb) (.inr ⟨rfl, hfk⟩)
        | false =>
          obtain ⟨lo, hi, hin⟩ := shapeInside_row x.f6 hg6 0
          exact check.loop (4 - d) c (insC x.f6) lo hi (by omega) (by omega) n A1 A2 c1 c2 w _ _ _ _ _ _ _ true _ _ (chk d (insC x.f6)) _ ⟨rfl⟩ HOF HFI ⟨l1⟩ ⟨l2⟩ hl2 HR2 HR1 HKI (hbad false hb)
            ⟨fun W => shape_Inside.calls 1 x.f6 _ _ _ W hin⟩ ⟨kid (insC x.f6)⟩ HSZ (.inr ⟨rfl, hfk⟩)
      | false =>
        rw [if_neg (by simp)]
        rw [Bool.and_eq_false_iff] at hfk
        exact check.form (4 - d) c (by omega) n A1 A2 c1 c2 w _ _ _ _ _ _ _ true _ _ HOF HFI HR2 HR1 HKI (.inr ⟨rfl, hfk⟩)
def tameN (n : S26) : Bool := okN n && decide (szN n ≤ 4194304)
def node_Check.f (a0 a1 : Int) (l1 : List Int) (l2 : List S26) : Option (Option Int) :=
  if tameN ⟨a1, l1, l2⟩ then some (if chk 4 a0 ⟨a1, l1, l2⟩ = 0 then none else some (chk 4 a0 ⟨a1, l1, l2⟩)) else none
set_option maxHeartbeats 1000000 in
theorem node_Check.calls (a0 a1_0 : Int) (A1_1 : Option Addr) (c1_1 : Nat) (l1_1 : List Int) (A1_2 : Option Addr) (c1_2 : Nat) (l1_2 : List S26) (r : Option Int) (w : World) (hr1_1 : Kd.C (Kd.int .u8) w A1_1 l1_1.length l1_1) (hc1_1 : l1_1.length ≤ c1_1) (hr1_2 : Kd.C k26 w A1_2 l1_2.length l1_2) (hc1_2 : l1_2.length ≤ c1_2) (h : node_Check.f a0 a1_0 l1_1 l1_2 = some r) :
    Calls Tryz.prog 53 #[.int .i64 a0, .agg #[.int .u16 a1_0, .slice A1_1 l1_1.length c1_1, .slice A1_2 l1_2.length c1_2]] w fun e w' => e = .returned (errW r) ∧ Below w.heap.size w w' := by
  unfold node_Check.f at h
  by_cases ht : tameN ⟨a1_0, l1_1, l1_2⟩ = true
  · rw [if_pos ht] at h
    obtain rfl := Option.some.inj h
    have ht2 := ht
    unfold tameN at ht2
    rw [Bool.and_eq_true, decide_eq_true_eq] at ht2
    have HC := Aside0.mk (fun W hb => node_check.any 4 (by omega) a0 ⟨a1_0, l1_1, l1_2⟩ A1_1 A1_2 c1_1 c1_2 W ht2.1 ht2.2 hc1_1 (Kd.C_below hr1_1 hb) hc1_2 (Kd.C_below hr1_2 hb))
    have HE := Aside0.mk (show errI (chk 4 a0 ⟨a1_0, l1_1, l1_2⟩) = errW (if chk 4 a0 ⟨a1_0, l1_1, l1_2⟩ = 0 then none else some (chk 4 a0 ⟨a1_0, l1_1, l1_2⟩)) from rfl)
    generalize errI (chk 4 a0 ⟨a1_0, l1_1, l1_2⟩) = v at HC HE
    generalize errW (if chk 4 a0 ⟨a1_0, l1_1, l1_2⟩ = 0 then none else some (chk 4 a0 ⟨a1_0, l1_1, l1_2⟩)) = v2 at HE ⊢
    obtain rfl := HE.out
    clear h ht ht2 hr1_1 hr1_2 HE
    go_enter Tryz.func53, Tryz.ntmps53
    go_wp2_with (first | (go_at_call 82; refine (HC.out _ ((Below.refl _ w).alloc (Nat.le_refl _) _)).mono ?_; rintro e w1 ⟨rfl, hb⟩; have HB := Aside0.mk hb; clear hb))
    go_ret
    exact ⟨rfl, ((Below.refl _ w).alloc (Nat.le_refl _) _).trans (HB.out.mono (by simp))⟩
  · rw [if_neg ht] at h; cases h
end Go.Proofs.YtpgfhbdnlojdfaaGreatDoor.P
