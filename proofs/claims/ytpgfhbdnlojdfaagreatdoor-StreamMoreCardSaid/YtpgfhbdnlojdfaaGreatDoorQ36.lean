/- Packed by wip/tools/pack.py out of MPlain. -/
import Derived.Test.YtpgfhbdnlojdfaaGreatDoorQ31
import Derived.Test.YtpgfhbdnlojdfaaGreatDoorQ33
import Derived.Test.YtpgfhbdnlojdfaaGreatDoorQ34
import Derived.Test.YtpgfhbdnlojdfaaGreatDoorQ35
namespace Go.Proofs.YtpgfhbdnlojdfaaGreatDoor.P
open Go.RowKit Go.Proofs.YtpgfhbdnlojdfaaGreatDoorW.PrintWords Go.Proofs.YtpgfhbdnlojdfaaGreatDoorW.PrintLast Go.Proofs.YtpgfhbdnlojdfaaGreatDoorW.PrintMore
set_option linter.unusedVariables false
theorem sameB_refl (l : List Int) (hl : l.length ≤ 4194304) : Ev (fun k => wharfref01_Same.f k l l) true := by
  have key : ∀ (m i : Nat), l.length - i = m → i ≤ l.length → Ev (fun k => wharfref01_Same.l0 k l l (i : Int)) true := by
    intro m
    induction m with
    | zero =>
      intro i hm hi
      refine Ev.step (f := fun _ => some true) (fun k => ?_) (Ev.now _)
      rw [wharfref01_Same.l0, if_neg (by omega)]
    | succ m ih =>
      intro i hm hi
      refine Ev.step (f := fun k => wharfref01_Same.l0 k l l ((i + 1 : Nat) : Int)) (fun k => ?_) (ih (i + 1) (by omega) (by omega))
      rw [wharfref01_Same.l0, if_pos (by omega), if_pos (by omega), if_pos (by omega), if_pos rfl, w64 (by omega) (by omega)]; rfl
  refine Ev.congr (fun k => ?_) (key l.length 0 rfl (Nat.zero_le _))
  unfold wharfref01_Same.f
  rw [if_pos rfl]; rfl
theorem sameN_refl : ∀ (c : Nat) (l : List S26), ctL l ≤ c → szL l ≤ 4194304 → Ev (fun k => wharfref08_Same.f k l l) true := by
  intro c
  induction c with
  | zero =>
    intro l hc hs
    cases l with
    | cons x l => rw [ctL_cons, ctN_eq] at hc; omega
    | nil =>
      refine Ev.step (f := fun k => wharfref08_Same.l0 k [] [] 0) (fun k => rfl) ?_
      exact Ev.step (f := fun _ => some true) (fun k => rfl) (Ev.now _)
  | succ c ih =>
    intro l hc hs
    have hll := szL_len l
    refine Ev.step (f := fun k => wharfref08_Same.l0 k l l 0) (fun k => by rw [wharfref08_Same.f, if_pos rfl]) ?_
    have key : ∀ (m i : Nat), l.length - i = m → i ≤ l.length → Ev (fun k => wharfref08_Same.l0 k l l (i : Int)) true := by
      intro m
      induction m with
      | zero =>
        intro i hm hi
        refine Ev.step (f := fun _ => some true) (fun k => ?_) (Ev.now _)
        rw [wharfref08_Same.l0, if_neg (by omega)]
      | succ m ihm =>
        intro i hm hi
        have hlt : i < l.length := by omega
        have hct := ct_mem (List.getElem_mem hlt)
        rw [ctN_eq] at hct
        have hsz := sz_mem (List.getElem_mem hlt)
        have hx := szN_eq l[i]
        have e : ∀ k, wharfref08_Same.l0 (k + 1) l l (i : Int) = (wharfref01_Same.f k l[i].f1 l[i].f1).bind fun t => (if t = true then ((wharfref08_Same.f k l[i].f2 l[i].f2).bind fun t2 => (if t2 = true then (wharfref08_Same.l0 k l l (wrap64 ((i : Int) + 1))) else (some false))) else (some false)) := fun k => by
          rw [wharfref08_Same.l0, if_pos (by omega), if_pos (by omega), if_pos (by omega), rdN_at l i hlt, if_pos rfl]
        refine Ev.step e (Ev.bind (sameB_refl l[i].f1 (by omega)) ?_)
        refine Ev.congr (fun k => if_pos rfl) ?_
        refine Ev.bind (ih l[i].f2 (by omega) (by omega)) ?_
        refine Ev.congr (fun k => if_pos rfl) ?_
        rw [w64 (by omega) (by omega)]
        exact ihm (i + 1) (by omega) (by omega)
    exact key l.length 0 rfl (Nat.zero_le _)
def put4 (x : Int) : List Int := [x / 16777216 % 256, x / 65536 % 256, x / 256 % 256, x % 256]
def putK (k : Nat) (x : Int) : List Int := if k = 4 then put4 x else put2 x
theorem putK_len (k : Nat) (hk : k = 2 ∨ k = 4) (x : Int) : (putK k x).length = k := by
  rcases hk with rfl | rfl <;> rfl
theorem put_flat_len (k : Nat) (hk : k = 2 ∨ k = 4) (l : List Int) : (l.flatMap (putK k)).length = k * l.length := by
  induction l with
  | nil => rfl
  | cons x l ih => rw [List.flatMap_cons, List.length_append, ih, putK_len k hk, List.length_cons, Nat.mul_add, Nat.mul_one]; omega
theorem wirePut_ev (k : Nat) (hk : k = 2 ∨ k = 4) (l : List Int) (hl : l.length ≤ 1000000) : Ev (fun f => wire_Put.f f (k : Int) l) (l.flatMap (putK k)) := by
  have key : ∀ (m i : Nat), l.length - i = m → i ≤ l.length → Ev (fun f => wire_Put.l0 f (k : Int) ((l.take i).flatMap (putK k)) l (l.length : Int) (i : Int)) (l.flatMap (putK k)) := by
    intro m
    induction m with
    | zero =>
      intro i hm hi
      refine Ev.step (f := fun _ => some (l.flatMap (putK k))) (fun f => ?_) (Ev.now _)
      rw [wire_Put.l0, if_neg (by omega), List.take_of_length_le (by omega)]
    | succ m ih =>
      intro i hm hi
      have hlt : i < l.length := by omega
      have hlen := put_flat_len k hk (l.take i)
      rw [List.length_take, Nat.min_eq_left hi] at hlen
      have hb : ((l.take i).flatMap (putK k)).length ≤ 4000000 := by rw [hlen]; rcases hk with rfl | rfl <;> omega
      refine Ev.step (f := fun f => wire_Put.l1 f (k : Int) ((l.take i).flatMap (putK k)) l[i] (wrap64 ((k : Int) - 1)) l (l.length : Int) (i : Int)) (fun f => ?_) ?_
      · rw [wire_Put.l0, if_pos (by omega), if_pos (by omega), if_pos (by omega), rd_at l i hlt]
      have hnext := ih (i + 1) (by omega) (by omega)
      rw [List.take_succ_eq_append_getElem hlt, List.flatMap_append] at hnext
      generalize (l.take i).flatMap (putK k) = acc at hb hnext ⊢
      have one : ∀ (f : Nat) (xs : List Int) (j : Nat), j ≤ 3 → xs.length ≤ 4000010 → wire_Put.l1 (f + 1) (k : Int) xs l[i] (j : Int) l (l.length : Int) (i : Int) = wire_Put.l1 f (k : Int) (xs ++ [(l[i] / 2 ^ (8 * j)) % 256]) l[i] ((j : Int) - 1) l (l.length : Int) (i : Int) := fun f xs j hj hx => by
        rw [wire_Put.l1, if_pos (by omega), w64 (n := 8 * (j : Int)) (by omega) (by omega), if_pos (by omega), if_pos (by omega), w64 (n := (j : Int) - 1) (by omega) (by omega)]
        have e : shr .u32 l[i] (8 * (j : Int)) = l[i] / 2 ^ (8 * j) := by
          unfold shr
          rw [show (8 * (j : Int)).toNat = 8 * j by omega, Nat.min_eq_left (by show 8 * j ≤ 32; omega)]
        rw [e]
      have last : ∀ (f : Nat) (xs : List Int), wire_Put.l1 (f + 1) (k : Int) xs l[i] (-1) l (l.length : Int) (i : Int) = wire_Put.l0 f (k : Int) xs l (l.length : Int) (wrap64 ((i : Int) + 1)) := fun f xs => by
        rw [wire_Put.l1, if_neg (by omega)]
      have hend : Ev (fun f => wire_Put.l1 f (k : Int) (acc ++ putK k l[i]) l[i] (-1) l (l.length : Int) (i : Int)) (l.flatMap (putK k)) := by
        refine Ev.step (fun f => last f _) ?_
        rw [w64 (by omega) (by omega)]
        have e : [l[i]].flatMap (putK k) = putK k l[i] := by simp
        rw [e] at hnext
        exact hnext
      rcases hk with rfl | rfl
      · rw [w64 (by omega) (by omega), show ((2 : Nat) : Int) - 1 = ((1 : Nat) : Int) by omega]
        refine Ev.step (fun f => one f _ 1 (by omega) (by omega)) ?_
        rw [show ((1 : Nat) : Int) - 1 = ((0 : Nat) : Int) by omega]
        refine Ev.step (fun f => one f _ 0 (by omega) (by simp; omega)) ?_
        rw [show ((0 : Nat) : Int) - 1 = -1 by omega]
        have e : acc ++ [l[i] / 2 ^ (8 * 1) % 256] ++ [l[i] / 2 ^ (8 * 0) % 256] = acc ++ putK 2 l[i] := by
          rw [List.append_assoc]
          show acc ++ [l[i] / 256 % 256, l[i] / 1 % 256] = acc ++ [l[i] / 256 % 256, l[i] % 256]
          rw [Int.ediv_one]
        rw [e]
        exact hend
      · rw [w64 (by omega) (by omega), show ((4 : Nat) : Int) - 1 = ((3 : Nat) : Int) by omega]
        refine Ev.step (fun f => one f _ 3 (by omega) (by omega)) ?_
        rw [show ((3 : Nat) : Int) - 1 = ((2 : Nat) : Int) by omega]
        refine Ev.step (fun f => one f _ 2 (by omega) (by simp; omega)) ?_
        rw [show ((2 : Nat) : Int) - 1 = ((1 : Nat) : Int) by omega]
        refine Ev.step (fun f => one f _ 1 (by omega) (by simp; omega)) ?_
        rw [show ((1 : Nat) : Int) - 1 = ((0 : Nat) : Int) by omega]
        refine Ev.step (fun f => one f _ 0 (by omega) (by simp; omega)) ?_
        rw [show ((0 : Nat) : Int) - 1 = -1 by omega]
        have e : acc ++ [l[i] / 2 ^ (8 * 3) % 256] ++ [l[i] / 2 ^ (8 * 2) % 256] ++ [l[i] / 2 ^ (8 * 1) % 256] ++ [l[i] / 2 ^ (8 * 0) % 256] = acc ++ putK 4 l[i] := by
          rw [List.append_assoc, List.append_assoc, List.append_assoc]
          show acc ++ [l[i] / 16777216 % 256, l[i] / 65536 % 256, l[i] / 256 % 256, l[i] / 1 % 256] = acc ++ [l[i] / 16777216 % 256, l[i] / 65536 % 256, l[i] / 256 % 256, l[i] % 256]
          rw [Int.ediv_one]
        rw [e]
        exact hend
  have h0 := key l.length 0 rfl (Nat.zero_le _)
  refine Ev.congr (f := fun f => wire_Put.l0 f (k : Int) [] l (l.length : Int) 0) (fun f => ?_) h0
  unfold wire_Put.f
  rcases hk with rfl | rfl <;> rfl
end Go.Proofs.YtpgfhbdnlojdfaaGreatDoor.P
