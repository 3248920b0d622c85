/- Packed by wip/tools/pack.py out of MOpen, MFew. -/
import Derived.OpenShut
import Derived.ChangeArms
import Derived.Deep.Slices
import Derived.Lib.SmallJoins
import Derived.Test.YtpgfhbdnlojdfaaGreatDoorR21
import Derived.Test.YtpgfhbdnlojdfaaGreatDoorR27
namespace Go.Proofs.YtpgfhbdnlojdfaaGreatDoor.P
open Go.RowKit Go.Proofs.YtpgfhbdnlojdfaaGreatDoorW.PrintWords Go.Proofs.YtpgfhbdnlojdfaaGreatDoorW.PrintLast Go.Proofs.YtpgfhbdnlojdfaaGreatDoorW.PrintMore
set_option linter.unusedVariables false
set_option maxRecDepth 10000
mutual
def smN : S26 → Bool
  | ⟨_, d, k⟩ => decide (d.length ≤ 9223372036854775807) && smL k
def smL : List S26 → Bool
  | [] => true
  | x :: l => smN x && smL l
end
theorem smN_iff (x : S26) (h : smN x = true) : x.f1.length ≤ 9223372036854775807 ∧ smL x.f2 = true := by
  cases x
  rw [smN, Bool.and_eq_true, decide_eq_true_eq] at h
  exact h
theorem smL_cons {x : S26} {l : List S26} (h : smL (x :: l) = true) : smN x = true ∧ smL l = true := by
  rw [smL, Bool.and_eq_true] at h
  exact h
section
variable {H : Type} {enc : TypeId × Value → H} {W : World} {sp : Nat → Bool} {held : Bool}
theorem op.u8 {m : Nat} {cs : List Value} {x : DataW H × List MemPlace} (h : DataW.trod enc Tryz.prog W 0 sp held m 5 cs = some x) : ∃ n, cs = [.int .u8 n] ∧ 0 ≤ n ∧ n < 256 := by
  obtain ⟨n, rfl, _, hw⟩ := DataW.trod_int Tryz.underlying5 h
  have h1 : IntKind.u8.min ≤ n ∧ n ≤ IntKind.u8.max := by simpa [Lit.wf] using hw
  have e1 : IntKind.u8.min = 0 := by decide
  have e2 : IntKind.u8.max = 255 := by decide
  exact ⟨n, rfl, by omega, by omega⟩
theorem op.u16 {m : Nat} {cs : List Value} {x : DataW H × List MemPlace} (h : DataW.trod enc Tryz.prog W 0 sp held m 22 cs = some x) : ∃ n, cs = [.int .u16 n] ∧ 0 ≤ n ∧ n < 65536 := by
  obtain ⟨n, rfl, _, hw⟩ := DataW.trod_int Tryz.underlying22 h
  have h1 : IntKind.u16.min ≤ n ∧ n ≤ IntKind.u16.max := by simpa [Lit.wf] using hw
  have e1 : IntKind.u16.min = 0 := by decide
  have e2 : IntKind.u16.max = 65535 := by decide
  exact ⟨n, rfl, by omega, by omega⟩
theorem op.rows {α : Type} (Kf : α → List Value → Prop) (good : α → Prop) (sz : Nat) (a : Addr) (rd : List Value → Option (DataW H × List MemPlace))
    (hel : ∀ cs x, rd cs = some x → ∃ p, Kf p cs ∧ good p) :
    ∀ (len : Nat), (∀ i, i < len → ∃ x, (W.cells? 0 (a.add (i * sz)) sz).bind rd = some x) →
      ∃ xs : List α, xs.length = len ∧ (∀ x ∈ xs, good x) ∧ ∀ j p, xs[j]? = some p → ∃ c, c.length = sz ∧ Kf p c ∧ ∀ i u, c[i]? = some u → W.cell? (a.add (j * sz + i)) = some u := by
  intro len
  induction len with
  | zero => exact fun _ => ⟨[], rfl, (by simp), (by simp)⟩
  | succ len ih =>
    intro h
    obtain ⟨xs, hl, hg, hc⟩ := ih (fun i hi => h i (by omega))
    obtain ⟨x, hx⟩ := h len (by omega)
    obtain ⟨cs, hcs, hrd⟩ := Option.bind_eq_some_iff.1 hx
    obtain ⟨p, hp, hgp⟩ := hel cs x hrd
    obtain ⟨_, hcl, hat⟩ := World.cells?_some hcs
    refine ⟨xs ++ [p], by simp [hl], fun y hy => ?_, fun j q hj => ?_⟩
    · rcases List.mem_append.1 hy with hy | hy
      · exact hg y hy
      · rw [List.mem_singleton.1 hy]; exact hgp
    · by_cases hjl : j < xs.length
      · rw [List.getElem?_append_left hjl] at hj
        exact hc j q hj
      · have hjl2 : j < xs.length + 1 := by
          have := (List.getElem?_eq_some_iff.1 hj).1
          simpa using this
        obtain rfl : j = xs.length := by omega
        rw [List.getElem?_append_right (Nat.le_refl _), Nat.sub_self] at hj
        obtain rfl : p = q := by simpa using hj
        refine ⟨cs, hcl, hp, fun i u hu => ?_⟩
        have hi : i < sz := by
          have := (List.getElem?_eq_some_iff.1 hu).1
          omega
        rw [← Go.Deep.add_add, hl, hat i hi, hu]
theorem op.len {n : Nat} (h : n ≤ Go.maxLen) : n ≤ 9223372036854775807 := Nat.le_trans h (by decide)
theorem op.nil {α : Type} (d : Kd α) (w : World) (A : Option Addr) : d.C w A 0 [] := ⟨rfl, by decide, fun h => absurd h (by decide)⟩
theorem op.bytes {m : Nat} {cs : List Value} {x : DataW H × List MemPlace} (h : DataW.trod enc Tryz.prog W 0 sp held m 23 cs = some x) :
    ∃ A c l, cs = [.slice A (l : List Int).length c] ∧ l.length ≤ c ∧ (Kd.int .u8).C W A l.length l ∧ ∀ b ∈ l, 0 ≤ b ∧ b < 256 := by
  have c8 : Tryz.prog.cellsOf 5 = 1 := by kernel_rfl
  rcases DataW.trod_slice Tryz.underlying23 h with ⟨rfl, _⟩ | ⟨a, len, cap, elems, rest, n, rfl, rfl, _, _, hl, hcap, hlen, hel, _⟩
  · exact ⟨none, 0, [], rfl, Nat.le_refl _, op.nil _ _ _, fun b hb => by cases hb⟩
  · rw [c8] at hel
    obtain ⟨xs, hxl, hg, hc⟩ := op.rows (fun (p : Int) c => c = [.int .u8 p]) (fun b => 0 ≤ b ∧ b < 256) 1 a (DataW.trod enc Tryz.prog W 0 sp held n 5)
      (fun cs x hx => by obtain ⟨v, rfl, h0, h1⟩ := op.u8 hx; exact ⟨v, rfl, h0, h1⟩) len
      (fun i hi => ⟨elems[i]'(by omega), by rw [hel i hi]; exact List.getElem?_eq_getElem (by omega)⟩)
    subst hxl
    exact ⟨some a, cap, xs, rfl, hl, ⟨rfl, op.len (Nat.le_trans hl hcap), fun _ => ⟨a, rfl, hc⟩⟩, hg⟩
theorem okL_of {l : List S26} (h : ∀ x ∈ l, okN x = true) : okL l = true := by
  induction l with
  | nil => rw [okL]
  | cons x l ih => rw [okL, Bool.and_eq_true]; exact ⟨h x (List.mem_cons_self ..), ih fun y hy => h y (List.mem_cons_of_mem _ hy)⟩
theorem smL_of {l : List S26} (h : ∀ x ∈ l, smN x = true) : smL l = true := by
  induction l with
  | nil => rw [smL]
  | cons x l ih => rw [smL, Bool.and_eq_true]; exact ⟨h x (List.mem_cons_self ..), ih fun y hy => h y (List.mem_cons_of_mem _ hy)⟩
theorem op.nodes : ∀ (m : Nat),
    (∀ (cs : List Value) (x : DataW H × List MemPlace), DataW.trod enc Tryz.prog W 0 sp held m 26 cs = some x → ∃ p, k26.K W p cs ∧ okN p = true ∧ smN p = true) ∧
    (∀ (cs : List Value) (x : DataW H × List MemPlace), DataW.trod enc Tryz.prog W 0 sp held m 24 cs = some x → ∃ A c l, cs = [.slice A (l : List S26).length c] ∧ l.length ≤ c ∧ k26.C W A l.length l ∧ okL l = true ∧ smL l = true) := by
  intro m
  induction m with
  | zero => exact ⟨fun _ _ h => by simp [DataW.trod] at h, fun _ _ h => by simp [DataW.trod] at h⟩
  | succ m ih =>
    have c26 : Tryz.prog.cellsOf 26 = 3 := by kernel_rfl
    have c22 : Tryz.prog.cellsOf 22 = 1 := by kernel_rfl
    have c23 : Tryz.prog.cellsOf 23 = 1 := by kernel_rfl
    have c24 : Tryz.prog.cellsOf 24 = 1 := by kernel_rfl
    constructor
    · intro cs x h
      obtain ⟨xs, n, hn, _, hlen, hxs, hel⟩ := DataW.trod_struct Tryz.underlying26 h
      obtain rfl : m = n := by omega
      rw [c26] at hlen
      have h0 : DataW.trod enc Tryz.prog W 0 sp held m 22 ((cs.drop 0).take (Tryz.prog.cellsOf 22)) = xs[0]? := hel 0 _ rfl
      have h1 : DataW.trod enc Tryz.prog W 0 sp held m 23 ((cs.drop 1).take (Tryz.prog.cellsOf 23)) = xs[1]? := hel 1 _ rfl
      have h2 : DataW.trod enc Tryz.prog W 0 sp held m 24 ((cs.drop 2).take (Tryz.prog.cellsOf 24)) = xs[2]? := hel 2 _ rfl
      rw [c22] at h0
      rw [c23] at h1
      rw [c24] at h2
      match cs, hlen, xs, hxs, h0, h1, h2 with
      | [v0, v1, v2], _, [x0, x1, x2], _, h0, h1, h2 =>
        obtain ⟨t, ht, h3, h4⟩ := op.u16 (show DataW.trod enc Tryz.prog W 0 sp held m 22 [v0] = some x0 from h0)
        obtain ⟨A1, c1, l1, e1, hc1, hC1, hb⟩ := op.bytes (show DataW.trod enc Tryz.prog W 0 sp held m 23 [v1] = some x1 from h1)
        obtain ⟨A2, c2, l2, e2, hc2, hC2, hok, hsm⟩ := ih.2 [v2] x2 h2
        cases ht
        cases e1
        cases e2
        refine ⟨⟨t, l1, l2⟩, k26_mk W ⟨t, l1, l2⟩ hc1 hC1 hc2 hC2, ?_, ?_⟩
        · rw [okN]
          simp only [Bool.and_eq_true, decide_eq_true_eq, List.all_eq_true]
          exact ⟨⟨h3, h4⟩, hb, hok⟩
        · rw [smN, Bool.and_eq_true, decide_eq_true_eq]
          exact ⟨hC1.2.1, hsm⟩
    · intro cs x h
      rcases DataW.trod_slice Tryz.underlying24 h with ⟨rfl, _⟩ | ⟨a, len, cap, elems, rest, n, hn, rfl, _, _, hl, hcap, hlen, hel, _⟩
      · exact ⟨none, 0, [], rfl, Nat.le_refl _, op.nil _ _ _, by rw [okL], by rw [smL]⟩
      · obtain rfl : m = n := by omega
        rw [c26] at hel
        obtain ⟨xs, hxl, hg, hc⟩ := op.rows (k26.K W) (fun p => okN p = true ∧ smN p = true) 3 a (DataW.trod enc Tryz.prog W 0 sp held m 26)
          (fun cs x hx => ih.1 cs x hx) len
          (fun i hi => ⟨elems[i]'(by omega), by rw [hel i hi]; exact List.getElem?_eq_getElem (by omega)⟩)
        subst hxl
        exact ⟨some a, cap, xs, rfl, hl, ⟨rfl, op.len (Nat.le_trans hl hcap), fun _ => ⟨a, rfl, hc⟩⟩, okL_of fun x hx => (hg x hx).1, smL_of fun x hx => (hg x hx).2⟩
theorem op.node {r : Reach} {b0 : Nat} {v : Value} {d : DataW H} {p : List MemPlace} (hv : Value.okWide Tryz.prog W r b0 26 v) (h : DataW.Trod enc Tryz.prog W 0 sp held 26 v d p) :
    ∃ (n : S26) (A1 A2 : Option Addr) (c1 c2 : Nat), v = .agg #[.int .u16 n.f0, .slice A1 n.f1.length c1, .slice A2 n.f2.length c2] ∧ n.f1.length ≤ c1 ∧ (Kd.int .u8).C W A1 n.f1.length n.f1 ∧ n.f2.length ≤ c2 ∧ k26.C W A2 n.f2.length n.f2 ∧ okN n = true ∧ smN n = true := by
  obtain ⟨v0, v1, v2, y0, y1, y2, m, rfl, _, _, h0, h1, h2⟩ := Go.Joins.open_agg3 Tryz.underlying26 (by kernel_rfl) (by kernel_rfl) hv h
  obtain ⟨t, ht, h3, h4⟩ := op.u16 h0
  obtain ⟨A1, c1, l1, e1, hc1, hC1, hb⟩ := op.bytes h1
  obtain ⟨A2, c2, l2, e2, hc2, hC2, hok, hsm⟩ := (op.nodes m).2 [v2] y2 h2
  cases ht
  cases e1
  cases e2
  refine ⟨⟨t, l1, l2⟩, A1, A2, c1, c2, rfl, hc1, hC1, hc2, hC2, ?_, ?_⟩
  · rw [okN]
    simp only [Bool.and_eq_true, decide_eq_true_eq, List.all_eq_true]
    exact ⟨⟨h3, h4⟩, hb, hok⟩
  · rw [smN, Bool.and_eq_true, decide_eq_true_eq]
    exact ⟨hC1.2.1, hsm⟩
end
end Go.Proofs.YtpgfhbdnlojdfaaGreatDoor.P
namespace Go.Proofs.YtpgfhbdnlojdfaaGreatDoor.P
open Go.RowKit Go.Proofs.YtpgfhbdnlojdfaaGreatDoorW.PrintWords Go.Proofs.YtpgfhbdnlojdfaaGreatDoorW.PrintLast Go.Proofs.YtpgfhbdnlojdfaaGreatDoorW.PrintMore
set_option linter.unusedVariables false
def cntL (c : List S26 → Int) : List S26 → Int → Int
  | [], n => n
  | x :: r, n => if n < 1000 then cntL c r (n + 1 + (x.f1.length : Int) / 1000 + c x.f2) else n
def cnt : Nat → List S26 → Int
  | 0, _ => 1000
  | d + 1, l => cntL (cnt d) l 0
theorem cntL_bd (c : List S26 → Int) (B : Int) (hB : 0 ≤ B) (hc : ∀ l, smL l = true → 0 ≤ c l ∧ c l ≤ B) :
    ∀ (l : List S26) (n : Int), smL l = true → 0 ≤ n → n ≤ B + 9223372036856000 → n ≤ cntL c l n ∧ cntL c l n ≤ B + 9223372036856000 := by
  intro l
  induction l with
  | nil => intro n _ h0 h1; exact ⟨Int.le_refl _, h1⟩
  | cons x l ih =>
    intro n hs h0 h1
    obtain ⟨hx, hl⟩ := smL_cons hs
    obtain ⟨hd, hk⟩ := smN_iff x hx
    obtain ⟨c0, c1⟩ := hc x.f2 hk
    rw [cntL]
    by_cases h : n < 1000
    · rw [if_pos h]
      obtain ⟨a, b⟩ := ih (n + 1 + (x.f1.length : Int) / 1000 + c x.f2) hl (by omega) (by omega)
      exact ⟨by omega, b⟩
    · rw [if_neg h]; exact ⟨Int.le_refl _, h1⟩
theorem cnt_bd : ∀ (d : Nat) (l : List S26), smL l = true → 0 ≤ cnt d l ∧ cnt d l ≤ (d + 1 : Int) * 9223372036856000 := by
  intro d
  induction d with
  | zero => intro l _; rw [cnt]; omega
  | succ d ih =>
    intro l hs
    rw [cnt]
    have := cntL_bd (cnt d) ((d + 1 : Int) * 9223372036856000) (by omega) ih l 0 hs (Int.le_refl _) (by omega)
    exact ⟨this.1, by have := this.2; push_cast; omega⟩
theorem count_ev : ∀ (d : Nat), d ≤ 21 → ∀ (l : List S26), smL l = true → Ev (fun k => wharfref08_Count.f k l (21 - (d : Int))) (cnt d l) := by
  intro d
  induction d with
  | zero =>
    intro _ l _
    refine Ev.step (f := fun _ => some 1000) (fun k => ?_) (Ev.now _)
    rw [wharfref08_Count.f, if_pos (by omega)]
  | succ d ih =>
    intro hd l hs
    refine Ev.step (f := fun k => wharfref08_Count.l0 k l (21 - ((d + 1 : Nat) : Int)) 0 0) (fun k => ?_) ?_
    · rw [wharfref08_Count.f, if_neg (by omega)]
    have hbd := cnt_bd d
    have key : ∀ (m i : Nat) (n : Int), l.length - i = m → i ≤ l.length → smL (l.drop i) = true → (i : Int) ≤ n → n ≤ (d + 2 : Int) * 9223372036856000 → Ev (fun k => wharfref08_Count.l0 k l (21 - ((d + 1 : Nat) : Int)) n (i : Int)) (cntL (cnt d) (l.drop i) n) := by
      intro m
      induction m with
      | zero =>
        intro i n hm hi hsm hin hn
        rw [List.drop_eq_nil_of_le (by omega), cntL]
        refine Ev.step (f := fun _ => some n) (fun k => ?_) (Ev.now _)
        rw [wharfref08_Count.l0, if_neg (by omega)]
      | succ m ihm =>
        intro i n hm hi hsm hin hn
        have hlt : i < l.length := by omega
        rw [drop_cons l i hlt] at hsm ⊢
        obtain ⟨hx, hl⟩ := smL_cons hsm
        obtain ⟨hlen, hk⟩ := smN_iff _ hx
        rw [cntL]
        by_cases h : n < 1000
        · rw [if_pos h]
          have hb := hbd l[i].f2 hk
          have hK := ih (by omega) l[i].f2 hk
          have e : ∀ k, wharfref08_Count.l0 (k + 1) l (21 - ((d + 1 : Nat) : Int)) n (i : Int) = (wharfref08_Count.f k l[i].f2 (21 - (d : Int))).bind fun t => wharfref08_Count.l0 k l (21 - ((d + 1 : Nat) : Int)) (wrap64 ((wrap64 ((wrap64 (n + 1)) + (wrap64 ((l[i].f1.length : Int) / 1000)))) + t)) (wrap64 ((i : Int) + 1)) := fun k => by
            rw [wharfref08_Count.l0, if_pos (by omega), if_pos h, if_pos (by omega), rdN_at l i hlt, w64 (n := 21 - ((d + 1 : Nat) : Int) + 1) (by omega) (by omega), show (21 - ((d + 1 : Nat) : Int) + 1) = 21 - (d : Int) by omega]
          refine Ev.step e (Ev.bind hK ?_)
          have hq : 0 ≤ (l[i].f1.length : Int) / 1000 ∧ (l[i].f1.length : Int) / 1000 ≤ 9223372036854775 := by omega
          generalize (l[i].f1.length : Int) / 1000 = q at hq ⊢
          generalize cnt d l[i].f2 = c at hb ⊢
          have hdd : (d + 1 : Int) * 9223372036856000 ≤ 202914184810832000 := by omega
          rw [w64 (n := n + 1) (by omega) (by omega), w64 (n := q) (by omega) (by omega), w64 (n := n + 1 + q) (by omega) (by omega), w64 (n := n + 1 + q + c) (by omega) (by omega), w64 (n := (i : Int) + 1) (by omega) (by omega)]
          exact ihm (i + 1) (n + 1 + q + c) (by omega) (by omega) hl (by push_cast; omega) (by omega)
        · rw [if_neg h]
          refine Ev.step (f := fun _ => some n) (fun k => ?_) (Ev.now _)
          rw [wharfref08_Count.l0, if_pos (by omega), if_neg h]
    rw [cnt]
    exact key l.length 0 0 rfl (Nat.zero_le _) hs (by omega) (by omega)
theorem few_ev (l : List S26) (hs : smL l = true) : Ev (fun k => wharfref08_Few.f k l) (decide (cnt 21 l ≤ 200)) := by
  have h := count_ev 21 (Nat.le_refl _) l hs
  unfold wharfref08_Few.f
  exact Ev.bind h (Ev.now _)
theorem cntL_sz (c : List S26 → Int) (B : Int) (hB : 0 ≤ B) (hc : ∀ l, smL l = true → 0 ≤ c l ∧ c l ≤ B) (hz : ∀ l, smL l = true → c l ≤ 200 → (szL l : Int) ≤ 2007 * c l) :
    ∀ (l : List S26) (n : Int), smL l = true → 0 ≤ n → n ≤ B + 9223372036856000 → cntL c l n ≤ 200 → (szL l : Int) ≤ 2007 * (cntL c l n - n) := by
  intro l
  induction l with
  | nil => intro n _ _ _ _; rw [cntL, szL]; omega
  | cons x l ih =>
    intro n hs h0 hn h
    obtain ⟨hx, hl⟩ := smL_cons hs
    obtain ⟨hd, hk⟩ := smN_iff x hx
    obtain ⟨c0, c1⟩ := hc x.f2 hk
    rw [cntL] at h ⊢
    by_cases hn1 : n < 1000
    · rw [if_pos hn1] at h ⊢
      have hge := (cntL_bd c B hB hc l (n + 1 + (x.f1.length : Int) / 1000 + c x.f2) hl (by omega) (by omega)).1
      have hi := ih _ hl (by omega) (by omega) h
      have hzk := hz x.f2 hk (by omega)
      rw [szL_cons, szN_eq]
      have hgap : (if l.isEmpty then 0 else (4 - (4 + x.f1.length + szL x.f2) % 4) % 4) ≤ 3 := by split <;> omega
      generalize (if l.isEmpty then 0 else (4 - (4 + x.f1.length + szL x.f2) % 4) % 4) = g at hgap ⊢
      omega
    · rw [if_neg hn1] at h; omega
theorem cnt_sz : ∀ (d : Nat) (l : List S26), smL l = true → cnt d l ≤ 200 → (szL l : Int) ≤ 2007 * cnt d l := by
  intro d
  induction d with
  | zero => intro l _ h; rw [cnt] at h; omega
  | succ d ih =>
    intro l hs h
    rw [cnt] at h ⊢
    have := cntL_sz (cnt d) ((d + 1 : Int) * 9223372036856000) (by omega) (cnt_bd d) ih l 0 hs (Int.le_refl _) (by omega) h
    omega
theorem few_tame (n : S26) (hok : okN n = true) (hsm : smN n = true) (h : cnt 21 [n] ≤ 200) : tameN n = true := by
  have hs : smL [n] = true := by rw [smL, hsm, smL]; rfl
  have hz := cnt_sz 21 [n] hs h
  rw [szL_one] at hz
  unfold tameN
  rw [hok, Bool.true_and, decide_eq_true_eq]
  omega
end Go.Proofs.YtpgfhbdnlojdfaaGreatDoor.P
