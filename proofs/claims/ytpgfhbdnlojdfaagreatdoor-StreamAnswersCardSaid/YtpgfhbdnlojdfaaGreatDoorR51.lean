/- Packed by wip/tools/pack.py out of MLaidOf, MRow. -/
import Derived.Test.YtpgfhbdnlojdfaaGreatDoorRows
import Derived.JoinedOf
import Derived.LaidLaws
import Derived.LaidHandle
import Derived.LaidMore
import Derived.OpenShut
import Derived.ChangeArms
import Derived.Below
import Derived.ChangeSame
import Derived.ProofKit
import Derived.RowKit
import Derived.Stop.Joined
import Derived.Test.YtpgfhbdnlojdfaaGreatDoorR39
namespace Go.Proofs.YtpgfhbdnlojdfaaGreatDoor.P
open Go.RowKit Go.Proofs.YtpgfhbdnlojdfaaGreatDoorW.PrintWords Go.Proofs.YtpgfhbdnlojdfaaGreatDoorW.PrintLast Go.Proofs.YtpgfhbdnlojdfaaGreatDoorW.PrintMore
set_option linter.unusedVariables false
def laidL : List (String × DataW Unit) := [("errors.errorType", Rows.laid_errors_errorType), ("wharf/kind.table", Rows.laid_wharf_kind_table), ("wharf/kind.inside", Rows.laid_wharf_kind_inside)]
def kindD {H : Type} (x : S94) : DataW H := .agg [.lit (.int .u8 x.f0), .lit (.string x.f1.data.toList), .lit (.int .u8 x.f2), .lit (.int .i64 x.f3), .lit (.int .i64 x.f4), .lit (.int .i64 x.f5), .lit (.int .i64 x.f6)]
def kIns3 : List (Int × Int × Int) := [(0, 0, 0), (1, 1, 1), (1, 0, 16384), (2, 0, 16384), (2, 1, 16384), (1, 1, 2), (1, 2, 16384)]
def insD {H : Type} (x : Int × Int × Int) : DataW H := .agg [.lit (.int .i64 x.1), .lit (.int .i64 x.2.1), .lit (.int .i64 x.2.2)]
theorem tabD_eq {H : Type} : (Rows.laid_wharf_kind_table : DataW H) = .agg (kTab.map kindD) := rfl
theorem insD_eq {H : Type} : (Rows.laid_wharf_kind_inside : DataW H) = .agg (kIns3.map insD) := rfl
theorem lg.kTab : Tryz.prog.globalNamed "wharf/kind.table" = some 0 := by kernel_rfl
theorem lg.kIns : Tryz.prog.globalNamed "wharf/kind.inside" = some 1 := by kernel_rfl
theorem lg.err : Tryz.prog.globalNamed "errors.errorType" = some 2 := by kernel_rfl
theorem lt.kTab : (Tryz.prog.globals[0]?).map (·.type) = some 128 := by kernel_rfl
theorem lt.kIns : (Tryz.prog.globals[1]?).map (·.type) = some 131 := by kernel_rfl
theorem lt.rt : (Tryz.prog.cutTypes.find? (·.1 == "internal/reflectlite.rtype")).map (·.2) = some 172 := by kernel_rfl
theorem lt.oneRow : ((List.range Tryz.prog.types.size).filter fun t => Tryz.prog.rowNamed t [101, 114, 114, 111, 114]) = [65] := by kernel_rfl
theorem lt.h : typeHandle Tryz.prog 65 = .pointer (some ⟨3, 65, none⟩) := by kernel_rfl
theorem handle_of {W : World} (h : laidMetH Tryz.prog laidL W) : W.cell? ⟨2, 0, none⟩ = some (.iface 172 (.agg #[.pointer (some ⟨3, 65, none⟩)])) := by
  have h' : laidMet Tryz.prog [("wharf/kind.table", Rows.laid_wharf_kind_table), ("wharf/kind.inside", Rows.laid_wharf_kind_inside)] W ∧ handlesMet Tryz.prog [("errors.errorType", Rows.laid_errors_errorType)] W := h
  obtain ⟨name, u, ty, e1, e2, e3, e4, e5⟩ := h'.2 _ (List.mem_singleton.2 rfl)
  have en : name = [101, 114, 114, 111, 114] := (Option.some.inj e1).symm
  subst en
  obtain rfl := Option.some.inj (lt.rt.symm.trans e2)
  have hm : ty ∈ (List.range Tryz.prog.types.size).filter fun t => Tryz.prog.rowNamed t [101, 114, 114, 111, 114] := List.mem_filter.2 ⟨List.mem_range.2 e3, e4⟩
  rw [lt.oneRow] at hm
  obtain rfl := List.mem_singleton.1 hm
  rw [lt.h] at e5
  simpa using World.var?_cell lg.err e5 0
theorem int_of {H : Type} {enc : TypeId × Value → H} {W : World} {base : Nat} {sp : Nat → Bool} {held : Bool} {fuel : Nat} {t : TypeId} {k : IntKind} {i : Int} {cs : List Value} {q : List MemPlace} (ht : Tryz.prog.underlying t = some (.int k))
    (h : DataW.trod enc Tryz.prog W base sp held fuel t cs = some (.lit (.int k i), q)) : cs = [.int k i] := by
  obtain ⟨n, rfl, hx, _⟩ := DataW.trod_int ht h
  simp only [Prod.mk.injEq, DataW.lit.injEq, Lit.int.injEq] at hx
  rw [hx.1.2]
theorem string_of {H : Type} {enc : TypeId × Value → H} {W : World} {base : Nat} {sp : Nat → Bool} {held : Bool} {fuel : Nat} {t : TypeId} {s : ByteArray} {cs : List Value} {q : List MemPlace} (ht : Tryz.prog.underlying t = some .string)
    (h : DataW.trod enc Tryz.prog W base sp held fuel t cs = some (.lit (.string s.data.toList), q)) : cs = [.string s] := by
  obtain ⟨b, rfl, hx, _⟩ := DataW.trod_string ht h
  simp only [Prod.mk.injEq, DataW.lit.injEq, Lit.string.injEq] at hx
  have e : b.data = s.data := Array.toList_inj.1 hx.1.symm
  cases b
  cases s
  cases e
  rfl
theorem wf_u16 {n : Int} (h : (Lit.int .u16 n).wf = true) : 0 ≤ n ∧ n < 65536 := by
  have h1 : IntKind.u16.min ≤ n ∧ n ≤ IntKind.u16.max := by simpa [Lit.wf] using h
  have e1 : IntKind.u16.min = 0 := by decide
  have e2 : IntKind.u16.max = 65535 := by decide
  omega
theorem take1_of {cs : List Value} {o : Nat} {v : Value} (h : (cs.drop o).take 1 = [v]) : cs[o]? = some v := by
  have := congrArg (fun l => l[0]?) h
  simpa using this
theorem kind_of {H : Type} {enc : TypeId × Value → H} {W : World} {base : Nat} {sp : Nat → Bool} {held : Bool} {fuel : Nat} {x : S94} {cs : List Value} {q : List MemPlace}
    (h : DataW.trod enc Tryz.prog W base sp held fuel 94 cs = some (kindD x, q)) :
    cs.length = 7 ∧ cs[0]? = some (.int .u8 x.f0) ∧ cs[1]? = some (.string x.f1) ∧ cs[2]? = some (.int .u8 x.f2) ∧ cs[3]? = some (.int .i64 x.f3) ∧ cs[4]? = some (.int .i64 x.f4) ∧ cs[5]? = some (.int .i64 x.f5) ∧ cs[6]? = some (.int .i64 x.f6) := by
  obtain ⟨xs, n, rfl, hx, hlen, hn, hel⟩ := DataW.trod_struct Tryz.underlying94 h
  have c0 : Tryz.prog.cellsOf 94 = 7 := by kernel_rfl
  have c8 : Tryz.prog.cellsOf 5 = 1 := by kernel_rfl
  have cS : Tryz.prog.cellsOf 9 = 1 := by kernel_rfl
  have cI : Tryz.prog.cellsOf 3 = 1 := by kernel_rfl
  rw [c0] at hlen
  have h0 : DataW.trod enc Tryz.prog W base sp held n 5 ((cs.drop 0).take (Tryz.prog.cellsOf 5)) = xs[0]? := hel 0 _ rfl
  have h1 : DataW.trod enc Tryz.prog W base sp held n 9 ((cs.drop 1).take (Tryz.prog.cellsOf 9)) = xs[1]? := hel 1 _ rfl
  have h2 : DataW.trod enc Tryz.prog W base sp held n 5 ((cs.drop 2).take (Tryz.prog.cellsOf 5)) = xs[2]? := hel 2 _ rfl
  have h3 : DataW.trod enc Tryz.prog W base sp held n 3 ((cs.drop 3).take (Tryz.prog.cellsOf 3)) = xs[3]? := hel 3 _ rfl
  have h4 : DataW.trod enc Tryz.prog W base sp held n 3 ((cs.drop 4).take (Tryz.prog.cellsOf 3)) = xs[4]? := hel 4 _ rfl
  have h5 : DataW.trod enc Tryz.prog W base sp held n 3 ((cs.drop 5).take (Tryz.prog.cellsOf 3)) = xs[5]? := hel 5 _ rfl
  have h6 : DataW.trod enc Tryz.prog W base sp held n 3 ((cs.drop 6).take (Tryz.prog.cellsOf 3)) = xs[6]? := hel 6 _ rfl
  simp only [Prod.mk.injEq, kindD, DataW.agg.injEq] at hx
  match xs, hn, hx, h0, h1, h2, h3, h4, h5, h6 with
  | [(x0, _), (x1, _), (x2, _), (x3, _), (x4, _), (x5, _), (x6, _)], _, hx, h0, h1, h2, h3, h4, h5, h6 =>
    simp only [List.map_cons, List.map_nil, List.cons.injEq] at hx
    obtain ⟨⟨rfl, rfl, rfl, rfl, rfl, rfl, rfl, _⟩, _⟩ := hx
    rw [c8] at h0 h2
    rw [cS] at h1
    rw [cI] at h3 h4 h5 h6
    exact ⟨hlen, take1_of (int_of Tryz.underlying5 h0), take1_of (string_of Tryz.underlying9 h1), take1_of (int_of Tryz.underlying5 h2), take1_of (int_of Tryz.underlying3 h3), take1_of (int_of Tryz.underlying3 h4), take1_of (int_of Tryz.underlying3 h5), take1_of (int_of Tryz.underlying3 h6)⟩
theorem get_slice {cs : List Value} {o n i : Nat} {v : Value} (h : ((cs.drop o).take n)[i]? = some v) : cs[o + i]? = some v := by
  rw [List.getElem?_take] at h
  split at h
  · simpa using h
  · cases h
theorem tab_of {W : World} {cs : Array Value} {fuel : Nat} {q : List MemPlace} (hv : W.var? Tryz.prog "wharf/kind.table" = some cs)
    (h : DataW.trod (fun _ => ()) Tryz.prog W 0 (fun _ => true) false fuel 128 cs.toList = some (Rows.laid_wharf_kind_table, q)) :
    Kd.C k94 W (some ⟨0, 0, none⟩) kTab.length kTab := by
  rw [tabD_eq] at h
  obtain ⟨xs, m, rfl, hx, _, hn, hel⟩ := DataW.trod_array Tryz.underlying128 h
  have c0 : Tryz.prog.cellsOf 94 = 7 := by kernel_rfl
  simp only [Prod.mk.injEq, DataW.agg.injEq] at hx
  refine ⟨rfl, by decide, fun _ => ⟨_, rfl, fun j p hp => ?_⟩⟩
  have hj : j < 23 := (List.getElem?_eq_some_iff.1 hp).1
  have hD : (xs.map (·.1))[j]? = some (kindD p) := by rw [← hx.1, List.getElem?_map, hp]; rfl
  rw [List.getElem?_map] at hD
  obtain ⟨y, hy, hyd⟩ := Option.map_eq_some_iff.1 hD
  have he := hel j hj
  rw [hy, c0] at he
  obtain ⟨y1, y2⟩ := y
  cases hyd
  obtain ⟨hl, e0, e1, e2, e3, e4, e5, e6⟩ := kind_of he
  refine ⟨[.int .u8 p.f0, .string p.f1, .int .u8 p.f2, .int .i64 p.f3, .int .i64 p.f4, .int .i64 p.f5, .int .i64 p.f6], rfl, k94_mk W p, fun i u hu => ?_⟩
  have hcell : ∀ o, W.cell? (Addr.add ⟨0, 0, none⟩ o) = cs.toList[o]? := fun o => by
    have := World.var?_cell lg.kTab hv o
    rw [Array.getElem?_toList, ← this]
    by_cases ho : o = 0 <;> simp [Addr.add, ho]
  rw [show j * k94.sz = j * 7 from rfl, hcell]
  match i, hu with
  | 0, hu => cases hu; exact get_slice e0
  | 1, hu => cases hu; exact get_slice e1
  | 2, hu => cases hu; exact get_slice e2
  | 3, hu => cases hu; exact get_slice e3
  | 4, hu => cases hu; exact get_slice e4
  | 5, hu => cases hu; exact get_slice e5
  | 6, hu => cases hu; exact get_slice e6
theorem ins3_of {H : Type} {enc : TypeId × Value → H} {W : World} {base : Nat} {sp : Nat → Bool} {held : Bool} {fuel : Nat} {x : Int × Int × Int} {cs : List Value} {q : List MemPlace}
    (h : DataW.trod enc Tryz.prog W base sp held fuel 130 cs = some (insD x, q)) :
    cs[0]? = some (.int .i64 x.1) ∧ cs[1]? = some (.int .i64 x.2.1) ∧ cs[2]? = some (.int .i64 x.2.2) := by
  obtain ⟨xs, n, rfl, hx, hlen, hn, hel⟩ := DataW.trod_array Tryz.underlying130 h
  have cI : Tryz.prog.cellsOf 3 = 1 := by kernel_rfl
  have h0 := hel 0 (by decide)
  have h1 := hel 1 (by decide)
  have h2 := hel 2 (by decide)
  simp only [Prod.mk.injEq, insD, DataW.agg.injEq] at hx
  match xs, hn, hx, h0, h1, h2 with
  | [(x0, _), (x1, _), (x2, _)], _, hx, h0, h1, h2 =>
    simp only [List.map_cons, List.map_nil, List.cons.injEq] at hx
    obtain ⟨⟨rfl, rfl, rfl, _⟩, _⟩ := hx
    simp only [cI] at h0 h1 h2
    exact ⟨take1_of (int_of Tryz.underlying3 h0), take1_of (int_of Tryz.underlying3 h1), take1_of (int_of Tryz.underlying3 h2)⟩
theorem kIns_row : ∀ j, j < 21 → kIns[j]? = (kIns3[j / 3]?).bind fun x => [x.1, x.2.1, x.2.2][j % 3]? := by decide
theorem ins_of {W : World} {cs : Array Value} {fuel : Nat} {q : List MemPlace} (hv : W.var? Tryz.prog "wharf/kind.inside" = some cs)
    (h : DataW.trod (fun _ => ()) Tryz.prog W 0 (fun _ => true) false fuel 131 cs.toList = some (Rows.laid_wharf_kind_inside, q)) :
    Kd.C (Kd.int .i64) W (some ⟨1, 0, none⟩) kIns.length kIns := by
  rw [insD_eq] at h
  obtain ⟨xs, m, rfl, hx, _, hn, hel⟩ := DataW.trod_array Tryz.underlying131 h
  have c0 : Tryz.prog.cellsOf 130 = 3 := by kernel_rfl
  simp only [Prod.mk.injEq, DataW.agg.injEq] at hx
  refine ⟨rfl, by decide, fun _ => ⟨_, rfl, fun j p hp => ?_⟩⟩
  have hj : j < 21 := (List.getElem?_eq_some_iff.1 hp).1
  have hj3 : j / 3 < 7 := by omega
  have hr := kIns_row j hj
  rw [hp] at hr
  obtain ⟨y, hy, hyr⟩ := Option.bind_eq_some_iff.1 hr.symm
  have hD : (xs.map (·.1))[j / 3]? = some (insD y) := by rw [← hx.1, List.getElem?_map, hy]; rfl
  rw [List.getElem?_map] at hD
  obtain ⟨z, hz, hzd⟩ := Option.map_eq_some_iff.1 hD
  have he := hel (j / 3) hj3
  rw [hz, c0] at he
  obtain ⟨z1, z2⟩ := z
  cases hzd
  obtain ⟨e0, e1, e2⟩ := ins3_of he
  refine ⟨[.int .i64 p], rfl, rfl, fun i u hu => ?_⟩
  have hcell : ∀ o, W.cell? (Addr.add ⟨1, 0, none⟩ o) = cs.toList[o]? := fun o => by
    have := World.var?_cell lg.kIns hv o
    rw [Array.getElem?_toList, ← this]
    by_cases ho : o = 0 <;> simp [Addr.add, ho]
  have hi : i = 0 := by
    have := (List.getElem?_eq_some_iff.1 hu).1
    simpa using this
  subst hi
  cases hu
  rw [hcell, show j * (Kd.int .i64).sz + 0 = j / 3 * 3 + j % 3 from by show j * 1 + 0 = _; omega]
  have hm : j % 3 < 3 := by omega
  match h3 : j % 3, hm, hyr with
  | 0, _, hyr => cases hyr; exact get_slice e0
  | 1, _, hyr => cases hyr; exact get_slice e1
  | 2, _, hyr => cases hyr; exact get_slice e2
theorem laid_of {W : World} (h : laidMetH Tryz.prog laidL W) : Laid W := by
  have h' : laidMet Tryz.prog [("wharf/kind.table", Rows.laid_wharf_kind_table), ("wharf/kind.inside", Rows.laid_wharf_kind_inside)] W ∧ handlesMet Tryz.prog [("errors.errorType", Rows.laid_errors_errorType)] W := h
  obtain ⟨ps, ⟨g0, t0, cs0, f0, p0, q0, hg0, ht0, hv0, hd0, ⟨g1, t1, cs1, f1, p1, q1, hg1, ht1, hv1, hd1, _, _⟩, _⟩, _, _⟩ := h'.1
  obtain rfl := Option.some.inj (lg.kTab.symm.trans hg0)
  obtain rfl := Option.some.inj (lg.kIns.symm.trans hg1)
  obtain rfl := Option.some.inj (lt.kTab.symm.trans ht0)
  obtain rfl := Option.some.inj (lt.kIns.symm.trans ht1)
  exact ⟨tab_of hv0 hd0, ins_of hv1 hd1, handle_of h⟩
end Go.Proofs.YtpgfhbdnlojdfaaGreatDoor.P
namespace Go.Proofs.YtpgfhbdnlojdfaaGreatDoor.P
open Go.ChangeShapes Go.WideShapes Go.RowKit
theorem rowOwn : ownKnob Tryz.prog.godebug = none := by kernel_rfl
theorem door_met (os : Os) (args : Array Value) : laidMetH Tryz.prog laidL ((World.doorLaid Tryz.prog 400 os).forCall (fun _ _ => 0) ⟨#[], args, []⟩).memory :=
  laidMetH_of_parts3 (fuel := 8) (laidMet_of_run' 8 (by kernel_rfl) (by kernel_rfl)) (by kernel_rfl) (by kernel_rfl)
theorem door_shaped (os : Os) (args : Array Value) : ((World.doorLaid Tryz.prog 400 os).forCall (fun _ _ => 0) ⟨#[], args, []⟩).Shaped Tryz.prog := World.shaped_of_RefB (by kernel_rfl) (by kernel_rfl)
section
variable {H : Type} {enc : TypeId × Value → H} {P : Program}
theorem postB {f : Func} {s : ChangeSpec} {apart fresh handsOn : Bool} {W W' : World} {args : Array Value} {v : Value} {ds gs : List (DataW H)} {before pa pv : List MemPlace}
    (hW : DataW.Whole enc P f.params.toList s.vars apart W args.toList ds gs before)
    (hres : ∀ (b : Nat) (sp : Nat → Bool) (hd : Bool), DataW.TrodAll enc P W' b sp hd f.resultTypes.toList (v.resultList f.resultTypes.size) (s.fn H (ds ++ gs)).results [])
    (hargs : ∀ sp : Nat → Bool, (∀ p ∈ before, sp p.block = true) → DataW.TrodAll enc P W' 0 sp true f.params.toList args.toList (s.fn H (ds ++ gs)).args pa)
    (hvars : ∀ sp : Nat → Bool, (∀ p ∈ before, sp p.block = true) → DataW.TrodVars enc P W' sp s.vars (s.fn H (ds ++ gs)).vars pv)
    (hps : before = pa ++ pv) (hb : Below W.heap.size W W') :
    s.post enc P f apart fresh handsOn false W args v W' := by
  have hold : ∀ p ∈ before, (fun b => decide (b < W.heap.size)) p.block = true := fun p hp => by simpa using hW.lt p hp
  refine ⟨ds, gs, before, [], pa, pv, hW, hres _ _ _, hargs _ hold, hvars _ hold, World.keptBut_mono (fun p hp => ⟨hp, ?_⟩) (hb.frame (· ∈ before)), fun h => by cases h⟩
  rw [hps, List.mem_append] at hp
  exact Or.inr hp
end
end Go.Proofs.YtpgfhbdnlojdfaaGreatDoor.P
