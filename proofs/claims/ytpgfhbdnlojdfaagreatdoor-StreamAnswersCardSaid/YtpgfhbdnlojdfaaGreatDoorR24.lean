/- Packed by wip/tools/pack.py out of MRef. -/
import Derived.Test.YtpgfhbdnlojdfaaGreatDoorR21
import Derived.Test.YtpgfhbdnlojdfaaGreatDoorR22
import Derived.Test.YtpgfhbdnlojdfaaGreatDoorR23
namespace Go.Proofs.YtpgfhbdnlojdfaaGreatDoor.P
open Go.RowKit Go.Proofs.YtpgfhbdnlojdfaaGreatDoorW.PrintWords Go.Proofs.YtpgfhbdnlojdfaaGreatDoorW.PrintLast Go.Proofs.YtpgfhbdnlojdfaaGreatDoorW.PrintMore
set_option linter.unusedVariables false
theorem refFits_ev (a0 a1 : Int) (a2 : ByteArray) (lo hi u a6 : Int) (n : Nat) (h0 : 0 ≤ lo) (hu : 0 < u) (hu2 : u ≤ 100) (hh : hi ≤ 65531) :
    Ev (fun k => wharfref07_Fits.f k a0 a1 a2 lo hi u a6 (n : Int)) (decide (lo ≤ n) && (decide ((n : Int) ≤ hi) && ((n : Int) - lo) % u == 0)) := by
  have key : ∀ (m : Nat) (i : Int), hi - i < m → 0 ≤ i → Ev (fun k => wharfref07_Fits.l0 k (n : Int) i a0 a1 a2 lo hi u a6) (decide (i ≤ n) && (decide ((n : Int) ≤ hi) && ((n : Int) - i) % u == 0)) := by
    intro m
    induction m with
    | zero =>
      intro i hm hi0
      have e : ∀ k, wharfref07_Fits.l0 (k + 1) (n : Int) i a0 a1 a2 lo hi u a6 = some false := fun k => by rw [wharfref07_Fits.l0, if_neg (by omega)]
      have hr : (decide (i ≤ n) && (decide ((n : Int) ≤ hi) && ((n : Int) - i) % u == 0)) = false := by
        by_cases h1 : i ≤ n
        · have : ¬ (n : Int) ≤ hi := by omega
          simp [this]
        · simp [h1]
      rw [hr]
      exact Ev.step (f := fun _ => some false) e (Ev.now _)
    | succ m ih =>
      intro i hm hi0
      by_cases h1 : i ≤ hi
      · by_cases h2 : i = n
        · have e : ∀ k, wharfref07_Fits.l0 (k + 1) (n : Int) i a0 a1 a2 lo hi u a6 = some true := fun k => by rw [wharfref07_Fits.l0, if_pos h1, if_pos h2]
          have hr : (decide (i ≤ n) && (decide ((n : Int) ≤ hi) && ((n : Int) - i) % u == 0)) = true := by
            rw [h2] at h1 ⊢
            simp [h1]
          rw [hr]
          exact Ev.step (f := fun _ => some true) e (Ev.now _)
        · have e : ∀ k, wharfref07_Fits.l0 (k + 1) (n : Int) i a0 a1 a2 lo hi u a6 = wharfref07_Fits.l0 k (n : Int) (i + u) a0 a1 a2 lo hi u a6 := fun k => by
            rw [wharfref07_Fits.l0, if_pos h1, if_neg h2, w64 (by omega) (by omega)]
          refine Ev.step e ?_
          have hr : (decide (i ≤ n) && (decide ((n : Int) ≤ hi) && ((n : Int) - i) % u == 0)) = (decide (i + u ≤ n) && (decide ((n : Int) ≤ hi) && ((n : Int) - (i + u)) % u == 0)) := by
            have hm2 : ((n : Int) - (i + u)) % u = ((n : Int) - i) % u := by rw [show (n : Int) - (i + u) = (n : Int) - i - u by omega, Int.sub_emod_right]
            rw [hm2]
            by_cases h3 : i + u ≤ n
            · have h4 : i ≤ n := by omega
              simp [h3, h4]
            · by_cases h4 : i ≤ n
              · have h5 : ((n : Int) - i) % u = (n : Int) - i := Int.emod_eq_of_lt (by omega) (by omega)
                have h6 : ¬ ((n : Int) - i = 0) := by omega
                simp [h3, h5, h6]
              · simp [h3, h4]
          rw [hr]
          exact ih (i + u) (by omega) (by omega)
      · have e : ∀ k, wharfref07_Fits.l0 (k + 1) (n : Int) i a0 a1 a2 lo hi u a6 = some false := fun k => by rw [wharfref07_Fits.l0, if_neg h1]
        have hr : (decide (i ≤ n) && (decide ((n : Int) ≤ hi) && ((n : Int) - i) % u == 0)) = false := by
          by_cases h4 : i ≤ n
          · have : ¬ (n : Int) ≤ hi := by omega
            simp [this]
          · simp [h4]
        rw [hr]
        exact Ev.step (f := fun _ => some false) e (Ev.now _)
  exact key ((hi - lo).toNat + 1) lo (by omega) h0
theorem wanted_row (x : S143) (c : Int) (l : List S26) : wharfref08_wanted.f c x.f1 x.f2 x.f3 x.f4 x.f5 x.f6 l = some (kidsB x.f6 l) := by
  unfold wharfref08_wanted.f kidsB
  by_cases h0 : x.f6 = 0
  · rw [if_pos h0, if_pos h0]; cases l <;> simp; omega
  · rw [if_neg h0, if_neg h0]
    by_cases h1 : x.f6 = 1
    · rw [if_pos h1, if_pos h1]; congr 1; rw [Bool.eq_iff_iff, beq_iff_eq, beq_iff_eq]; omega
    · rw [if_neg h1, if_neg h1]
      by_cases h4 : x.f6 = 4
      · rw [if_pos h4, if_pos h4]
        by_cases hl : (l.length : Int) = 1
        · have hl2 : l.length = 1 := by omega
          rw [if_pos hl, if_pos (by omega)]
          by_cases h5 : (rd_T26 l 0).f0 = 5
          · rw [if_pos h5]; simp [hl2, h5]
          · have e5 : ((rd_T26 l 0).f0 == 5) = false := by simpa using h5
            rw [if_neg h5]; simp [hl2, e5]
        · have hl2 : ¬ l.length = 1 := by omega
          rw [if_neg hl]; simp [hl2]
      · rw [if_neg h4, if_neg h4]
        by_cases hl : (l.length : Int) ≥ 1
        · rw [if_pos hl]
          have h1 : 1 ≤ l.length := by omega
          simp [h1]; omega
        · rw [if_neg hl]
          have h1 : ¬ 1 ≤ l.length := by omega
          simp [h1]
def firstF (c t : Int) : List S106 → Option S106
  | [] => none
  | x :: l => if x.f0 = c ∧ x.f1 = t then some x else firstF c t l
theorem refOf_l0 (c t : Int) (tab : List S106) (htab : tab.length ≤ 1000) : ∀ (m i : Nat), tab.length - i = m → i ≤ tab.length →
    Ev (fun k => wharfref07_Of.l0 k c t tab (i : Int)) (match firstF c t (tab.drop i) with | some x => (x.f0, x.f1, x.f2, x.f3, x.f4, x.f5, x.f6) | none => (0, 0, ⟨#[]⟩, 0, 0, 0, 0)) := by
  intro m
  induction m with
  | zero =>
    intro i hm hi
    rw [List.drop_eq_nil_of_le (by omega)]
    have e : ∀ k, wharfref07_Of.l0 (k + 1) c t tab (i : Int) = some (0, 0, ⟨#[]⟩, 0, 0, 0, 0) := fun k => by rw [wharfref07_Of.l0, if_neg (by omega)]
    exact Ev.step (f := fun _ => some _) e (Ev.now _)
  | succ m ih =>
    intro i hm hi
    have hlt : i < tab.length := by omega
    have hrd : rd_T106 tab (i : Int) = tab[i] := by
      unfold rd_T106
      rw [Int.toNat_natCast, List.getD_eq_getElem?_getD, List.getElem?_eq_getElem hlt]; rfl
    rw [List.drop_eq_getElem_cons hlt, firstF]
    by_cases h : tab[i].f0 = c ∧ tab[i].f1 = t
    · rw [if_pos h]
      have e : ∀ k, wharfref07_Of.l0 (k + 1) c t tab (i : Int) = some (tab[i].f0, tab[i].f1, tab[i].f2, tab[i].f3, tab[i].f4, tab[i].f5, tab[i].f6) := fun k => by
        rw [wharfref07_Of.l0, if_pos (by omega), if_pos (by omega), hrd, if_pos h.1, if_pos h.2]
      exact Ev.step (f := fun _ => some _) e (Ev.now _)
    · rw [if_neg h]
      have e : ∀ k, wharfref07_Of.l0 (k + 1) c t tab (i : Int) = wharfref07_Of.l0 k c t tab ((i + 1 : Nat) : Int) := fun k => by
        rw [wharfref07_Of.l0, if_pos (by omega), if_pos (by omega), hrd]
        rw [w64 (by omega) (by omega)]
        by_cases h1 : tab[i].f0 = c
        · rw [if_pos h1, if_neg (fun h2 => h ⟨h1, h2⟩)]; rfl
        · rw [if_neg h1]; rfl
      exact Ev.step e (ih (i + 1) (by omega) (by omega))
def firstS (t : Int) : List S143 → Option S143
  | [] => none
  | x :: l => if x.f1 = t then some x else firstS t l
theorem fold_none (t : Int) : ∀ (l : List S143) (acc : Option S143), (∀ x ∈ l, x.f1 ≠ t) → l.foldl (fun acc x => if x.f1 = t then some x else acc) acc = acc
  | [], acc, _ => rfl
  | x :: l, acc, h => by
    rw [List.foldl_cons, if_neg (h x List.mem_cons_self)]
    exact fold_none t l acc (fun y hy => h y (List.mem_cons_of_mem _ hy))
theorem lastF_first (t : Int) : ∀ (l : List S143), (l.map fun x => x.f1).Nodup → lastF t l = firstS t l := by
  intro l h
  unfold lastF
  have key : ∀ (l : List S143) (acc : Option S143), (l.map fun x => x.f1).Nodup → l.foldl (fun acc x => if x.f1 = t then some x else acc) acc = (match firstS t l with | some x => some x | none => acc) := by
    intro l
    induction l with
    | nil => intro acc _; rfl
    | cons x l ih =>
      intro acc h
      rw [List.map_cons, List.nodup_cons] at h
      rw [List.foldl_cons, firstS]
      by_cases e : x.f1 = t
      · rw [if_pos e, if_pos e]
        exact fold_none t l _ (fun y hy e2 => h.1 (by rw [e, ← e2]; exact List.mem_map_of_mem hy))
      · rw [if_neg e, if_neg e]
        exact ih acc h.2
  rw [key l none h]
  cases firstS t l <;> rfl
def conv (c : Int) (x : S143) : S106 := ⟨c, x.f1, x.f2, x.f3, x.f4, x.f5, x.f6⟩
theorem tab_conv : wharfref07_Table.tab = tabP.map (conv 1) ++ tabC.map (conv 2) := by rfl
theorem firstF_map (c c' t : Int) : ∀ (l : List S143) (rest : List S106), firstF c t (l.map (conv c') ++ rest) = if c' = c then (match firstS t l with | some x => some (conv c x) | none => firstF c t rest) else firstF c t rest
  | [], rest => by simp [firstS]
  | x :: l, rest => by
    have ih := firstF_map c c' t l rest
    rw [List.map_cons, List.cons_append, firstF, ih]
    by_cases hc : c' = c
    · subst hc
      rw [if_pos rfl, if_pos rfl, firstS]
      by_cases ht : x.f1 = t
      · rw [if_pos ⟨rfl, ht⟩, if_pos ht]
      · rw [if_neg (fun h => ht h.2), if_neg ht]
    · rw [if_neg hc, if_neg hc, if_neg (fun h => hc h.1)]
theorem firstF_tab (c t : Int) : firstF c t wharfref07_Table.tab = (lastF t (formsOf c)).map (conv c) := by
  have e := firstF_map c 1 t tabP (tabC.map (conv 2) ++ [])
  have e2 := firstF_map c 2 t tabC []
  rw [List.append_nil] at e e2
  rw [tab_conv, e, e2]
  have h1 := lastF_first t tabP (by decide)
  have h2 := lastF_first t tabC (by decide)
  unfold formsOf
  by_cases c1 : c = 1
  · subst c1
    rw [if_pos rfl, if_pos rfl, h1, if_neg (by omega)]
    cases firstS t tabP <;> rfl
  · rw [if_neg (fun h => c1 h.symm), if_neg c1]
    by_cases c2 : c = 2
    · subst c2
      rw [if_pos rfl, if_pos rfl, h2]
      cases firstS t tabC <;> rfl
    · rw [if_neg (fun h => c2 h.symm), if_neg c2]; rfl
theorem refOf_ev (c t : Int) : Ev (fun k => wharfref07_Of.f k c t) (match lastF t (formsOf c) with | some x => (c, x.f1, x.f2, x.f3, x.f4, x.f5, x.f6) | none => (0, 0, ⟨#[]⟩, 0, 0, 0, 0)) := by
  have h := refOf_l0 c t wharfref07_Table.tab (by decide) wharfref07_Table.tab.length 0 rfl (Nat.zero_le _)
  rw [List.drop_zero, firstF_tab] at h
  have h2 : Ev (fun k => wharfref07_Of.l0 k c t wharfref07_Table.tab 0) (match lastF t (formsOf c) with | some x => (c, x.f1, x.f2, x.f3, x.f4, x.f5, x.f6) | none => (0, 0, ⟨#[]⟩, 0, 0, 0, 0)) := by
    cases hl : lastF t (formsOf c) with
    | none => rw [hl] at h; exact h
    | some x => rw [hl] at h; exact h
  exact Ev.congr (fun k => rfl) h2
theorem bits_or32 (a b : Nat) (ha : a < 4294967296) (hb : b < 4294967296) : Go.bits .or .u32 (a : Int) (b : Int) = ((a ||| b : Nat) : Int) := by
  have hx : a ||| b < 2 ^ 32 := Nat.or_lt_two_pow (by omega) (by omega)
  have h1 : (BitVec.ofInt 32 (a : Int)).toNat = a := by
    rw [BitVec.ofInt_natCast, BitVec.toNat_ofNat]; exact Nat.mod_eq_of_lt (by omega)
  have h2 : (BitVec.ofInt 32 (b : Int)).toNat = b := by
    rw [BitVec.ofInt_natCast, BitVec.toNat_ofNat]; exact Nat.mod_eq_of_lt (by omega)
  show IntKind.u32.wrap ((BitVec.ofInt 32 (a : Int) ||| BitVec.ofInt 32 (b : Int)).toNat : Int) = _
  rw [BitVec.toNat_or, h1, h2, IntKind.wrap_u32]
  omega
theorem nstep_add (x b : Int) (hx : 0 ≤ x) (hb : 0 ≤ b ∧ b < 256) : nstep x b = (((x * 256) % 4294967296) + (b % 4294967296)) % 4294967296 := by
  unfold nstep
  obtain ⟨q, hq⟩ : ∃ q : Nat, (x * 256) % 4294967296 = ((q * 256 : Nat) : Int) ∧ q < 16777216 := ⟨((x * 256) % 4294967296 / 256).toNat, by omega, by omega⟩
  obtain ⟨c, rfl⟩ : ∃ c : Nat, b = (c : Int) := ⟨b.toNat, by omega⟩
  have hc : (c : Int) % 4294967296 = (c : Int) := by omega
  rw [hq.1, hc, bits_or32 _ _ (by omega) (by omega)]
  have h := Nat.shiftLeft_add_eq_or_of_lt (a := q) (b := c) (i := 8) (by omega)
  rw [Nat.shiftLeft_eq] at h
  rw [show (256 : Nat) = 2 ^ 8 from rfl, ← h]
  omega
theorem refNumber4 (a b c d : Int) (l : List Int) (ha : 0 ≤ a ∧ a < 256) (hb : 0 ≤ b ∧ b < 256) (hc : 0 ≤ c ∧ c < 256) (hd : 0 ≤ d ∧ d < 256) (hl : l.length ≤ 4194304) : Ev (fun k => wharfref01_Number.f k (a :: b :: c :: d :: l) 0 4) (numB [a, b, c, d], true) := by
  obtain ⟨L, hL⟩ : ∃ L, L = a :: b :: c :: d :: l := ⟨_, rfl⟩
  have hlen : (L.length : Int) = l.length + 4 := by rw [hL]; simp; omega
  have r0 : rd L 0 = a := by rw [hL]; rfl
  have r1 : rd L 1 = b := by rw [hL]; rfl
  have r2 : rd L 2 = c := by rw [hL]; rfl
  have r3 : rd L 3 = d := by rw [hL]; rfl
  rw [← hL]
  clear hL
  have step : ∀ k x (i : Int), 0 ≤ i → i < 4 → wharfref01_Number.l0 (k + 1) L 0 4 x i = wharfref01_Number.l0 k L 0 4 ((((x * 256) % 4294967296) + (rd L i % 4294967296)) % 4294967296) (i + 1) := fun k x i h0 h4 => by
    rw [wharfref01_Number.l0, if_pos h4, w64 (n := 0 + i) (by omega) (by omega), if_pos (by omega), if_pos (by omega), w64 (n := i + 1) (by omega) (by omega), Int.zero_add]
  have last : ∀ k x, wharfref01_Number.l0 (k + 1) L 0 4 x 4 = some (x, true) := fun k x => by rw [wharfref01_Number.l0, if_neg (by omega)]
  have hv : numB [a, b, c, d] = nstep (nstep (nstep (nstep 0 a) b) c) d := rfl
  have n1 := nstep_bd 0 a
  have n2 := nstep_bd (nstep 0 a) b
  have n3 := nstep_bd (nstep (nstep 0 a) b) c
  refine Ev.congr (f := fun k => wharfref01_Number.j0 k L 0 4 false) (fun k => ?_) ?_
  · unfold wharfref01_Number.f
    rw [show wharfref01_Right.f 4 = some true from rfl, Option.bind_some, if_pos rfl, show decide (wrap64 (0 + 4) > (L.length : Int)) = false from by rw [w64 (by omega) (by omega)]; simp; omega]
  refine Ev.step (f := fun k => wharfref01_Number.l0 k L 0 4 0 0) (fun k => rfl) ?_
  refine Ev.step (fun k => step k 0 0 (by omega) (by omega)) ?_
  rw [r0, ← nstep_add 0 a (by omega) ha]
  refine Ev.step (fun k => step k _ (0 + 1) (by omega) (by omega)) ?_
  rw [show (0 : Int) + 1 = 1 from rfl, r1, ← nstep_add _ b n1.1 hb]
  refine Ev.step (fun k => step k _ (1 + 1) (by omega) (by omega)) ?_
  rw [show (1 : Int) + 1 = 2 from rfl, r2, ← nstep_add _ c n2.1 hc]
  refine Ev.step (fun k => step k _ (2 + 1) (by omega) (by omega)) ?_
  rw [show (2 : Int) + 1 = 3 from rfl, r3, ← nstep_add _ d n3.1 hd]
  rw [show (3 : Int) + 1 = 4 from rfl, hv]
  exact Ev.step (f := fun _ => some _) (fun k => last k _) (Ev.now _)
theorem refCounted_ev (l : List Int) (hb : ∀ b ∈ l, 0 ≤ b ∧ b < 256) (h4 : 4 ≤ l.length) (h2 : l.length % 2 = 0) (hl : l.length ≤ 4194304) :
    Ev (fun k => wharfref08_Counted.f k l) (!(decide (l.length < 4) || numB (l.take 4) != ((l.length - 4) / 2 : Nat))) := by
  obtain ⟨a, b, c, d, t, rfl⟩ : ∃ a b c d t, l = a :: b :: c :: d :: t := by
    match l, h4 with
    | a :: b :: c :: d :: t, _ => exact ⟨a, b, c, d, t, rfl⟩
  have hn := refNumber4 a b c d t (hb a (by simp)) (hb b (by simp)) (hb c (by simp)) (hb d (by simp)) (by simp at hl; omega)
  unfold wharfref08_Counted.f
  refine Ev.bind hn ?_
  have hbd := numB_bd [a, b, c, d]
  have e : (some (wrap64 (2 * wrap64 (numB [a, b, c, d])) == wrap64 (((a :: b :: c :: d :: t).length : Int) - 4)) : Option Bool) = some (!(decide ((a :: b :: c :: d :: t).length < 4) || numB ((a :: b :: c :: d :: t).take 4) != (((a :: b :: c :: d :: t).length - 4) / 2 : Nat))) := by
    have hlen : (a :: b :: c :: d :: t).length = t.length + 4 := by simp
    rw [hlen] at h2 hl ⊢
    rw [w64 (n := numB [a, b, c, d]) (by omega) (by omega), w64 (n := 2 * numB [a, b, c, d]) (by omega) (by omega), w64 (n := ((t.length + 4 : Nat) : Int) - 4) (by omega) (by omega)]
    have ht : (a :: b :: c :: d :: t).take 4 = [a, b, c, d] := by simp
    rw [ht]
    congr 1
    have h5 : decide (t.length + 4 < 4) = false := by simp
    rw [h5, Bool.false_or, bne, Bool.not_not, Bool.eq_iff_iff, beq_iff_eq, beq_iff_eq]
    omega
  rw [show (fun _ : Nat => (some (wrap64 (2 * wrap64 (numB [a, b, c, d], true).1) == wrap64 (((a :: b :: c :: d :: t).length : Int) - 4)) : Option Bool)) = fun _ => some (!(decide ((a :: b :: c :: d :: t).length < 4) || numB ((a :: b :: c :: d :: t).take 4) != (((a :: b :: c :: d :: t).length - 4) / 2 : Nat))) from funext fun _ => e]
  exact Ev.now _
theorem row22 (x : S143) (n : Nat) (h : lastF 2 (formsOf 2) = some x) (hf : fitsF x n = true) : 4 ≤ n ∧ n % 2 = 0 := by
  have e : lastF 2 (formsOf 2) = some ⟨0, 2, (⟨#[109, 105, 115, 115, 105, 110, 103, 45, 112, 97, 114, 97, 109, 101, 116, 101, 114]⟩ : ByteArray), 6, 65531, 2, 0⟩ := by rfl
  rw [e] at h
  obtain rfl := Option.some.inj h
  unfold fitsF at hf
  simp at hf
  omega
theorem none22 : lastF 2 (formsOf 2) ≠ none := by
  intro h
  have e : (lastF 2 (formsOf 2)).isSome = true := by rfl
  rw [h] at e; cases e
end Go.Proofs.YtpgfhbdnlojdfaaGreatDoor.P
