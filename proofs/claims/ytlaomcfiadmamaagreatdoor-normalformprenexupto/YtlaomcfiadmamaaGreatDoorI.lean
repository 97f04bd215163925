/- The arguments and the package variables of a call, as abstract values. -/
import Derived.Test.YtlaomcfiadmamaaGreatDoorG
import Derived.Test.YtlaomcfiadmamaaGreatDoorRows
import Derived.FnData
import Derived.MakeChecks
import Derived.ProofKit
import Derived.SizedLaws
import Derived.Carry
import Derived.OpenShut
import Derived.Deep.DeepHandedRow
import Derived.Deep.DeepWitnessRowRef
import Derived.Lib.LaidTab
set_option linter.unusedSimpArgs false
set_option linter.unusedVariables false
set_option linter.unusedSectionVars false
namespace Go.Proofs.Ae
open Go Go.RowKit
theorem laid_mem {P : Program} {w : World} : ∀ {laid : List (String × DataW Unit)} {ps : List MemPlace}, DataW.LaidVars P w laid ps → ∀ {nm : String} {d : DataW Unit}, (nm, d) ∈ laid →
    ∃ g t cs fuel p, P.globalNamed nm = some g ∧ (P.globals[g]?).map (·.type) = some t ∧ w.var? P nm = some cs ∧ DataW.trod (fun _ => ()) P w 0 (fun _ => true) false fuel t cs.toList = some (d, p)
  | [], _, _, _, _, h => by simp at h
  | (n, d) :: r, ps, hl, nm, d', h => by
    obtain ⟨g, t, cs, fuel, p, q, h1, h2, h3, h4, h5, -⟩ := hl
    rcases List.mem_cons.1 h with e | h
    · cases e
      exact ⟨g, t, cs, fuel, p, h1, h2, h3, h4⟩
    · exact laid_mem h5 h
theorem var_csz {P : Program} {w : World} {nm : String} {g : Nat} {cs : Array Value} (hg : P.globalNamed nm = some g) (h : w.var? P nm = some cs) : csz w g = some cs.size := by
  unfold World.var? at h
  rw [hg] at h
  simp only [Option.bind_some] at h
  unfold csz
  split at h
  · rename_i e
    rw [e]
    cases h
    rfl
  · cases h
theorem laid_var {w : World} {laid : List (String × DataW Unit)} {S : Nat → Bool} (hS : ∀ t, S t = true → tyOk Tryz.prog S t = true) (h1 : ∀ t, S t = true → (∃ d, Tryz.prog.underlying t = some d ∧ (match d with | .struct _ => False | .array _ _ => False | _ => True)) → Tryz.prog.cellsOf t = 1)
    {nm : String} {d : DataW Unit} {g t : Nat} {v : AV} (hl : laidMet Tryz.prog laid w) (hm : (nm, d) ∈ laid) (hg : Tryz.prog.globalNamed nm = some g) (ht : (Tryz.prog.globals[g]?).map (·.type) = some t) (hSt : S t = true) (hv : toAV d = some v) :
    ∃ (cs : List AV) (vs : List Value), cells v = some cs ∧ RepL (U0 w) w [] [] cs vs ∧ RowAt (U0 w) w ⟨g, 0, none⟩ vs ∧ (0 < vs.length → csz w g = some vs.length) := by
  obtain ⟨ps, hlv, -, -⟩ := hl
  obtain ⟨g', t', cs, fuel, p, k1, k2, k3, k4⟩ := laid_mem hlv hm
  obtain rfl := Option.some.inj (hg.symm.trans k1)
  obtain rfl := Option.some.inj (ht.symm.trans k2)
  obtain ⟨-, a, ac, r1, r2, r3, r4⟩ := trod_rep hS h1 fuel t cs.toList d p hSt k4
  rw [hv] at r1
  cases r1
  refine ⟨ac, cs.toList, r2, r4, ?_, fun _ => by rw [var_csz hg k3]; simp⟩
  intro i u hu
  have hc := World.var?_cell hg k3 i
  have e : (⟨g, 0, none⟩ : Addr).add i = ⟨g, i, none⟩ := by unfold Addr.add; split <;> simp_all
  rw [e, hc]
  have hu' : cs[i]? = some u := by simpa using hu
  refine ⟨hu', ?_⟩
  have := u0_cell (w := w) (a := ⟨g, i, none⟩) (v := u) (by rw [hc]; exact hu')
  simpa using this
end Go.Proofs.Ae
namespace Go.Proofs.Ae
open Go Go.RowKit
open Go.Proofs.YtlaomcfiadmamaaGreatDoor.Rows (uptoBulk uptoBulkAll)
section
variable {H : Type} {enc : TypeId × Value → H} {P : Program} {w : World} {sp : Nat → Bool} {held : Bool}
theorem sh_int {k : IntKind} {fuel t : Nat} {cs : List Value} {d : DataW H} {ps : List MemPlace} (hu : P.underlying t = some (.int k)) (h : DataW.trod enc P w 0 sp held fuel t cs = some (d, ps)) : ∃ n, d = .lit (.int k n) := by
  cases fuel with
  | zero => simp [DataW.trod] at h
  | succ fuel =>
    unfold DataW.trod at h
    rw [hu] at h
    split at h
    case h_2 =>
      have e := ‹some (TypeDesc.int k) = _›
      cases e
      split at h
      · cases h; exact ⟨_, rfl⟩
      · cases h
    all_goals first | (have e := ‹some (TypeDesc.int k) = _›; cases e; done) | (cases h; done)
theorem sh_str {fuel t : Nat} {cs : List Value} {d : DataW H} {ps : List MemPlace} (hu : P.underlying t = some .string) (h : DataW.trod enc P w 0 sp held fuel t cs = some (d, ps)) : ∃ s, d = .lit (.string s) := by
  cases fuel with
  | zero => simp [DataW.trod] at h
  | succ fuel =>
    unfold DataW.trod at h
    rw [hu] at h
    split at h
    case h_4 =>
      split at h
      · cases h; exact ⟨_, rfl⟩
      · cases h
    all_goals first | (have e := ‹some TypeDesc.string = _›; cases e; done) | (cases h; done)
theorem sh_slice {fuel t e : Nat} {cs : List Value} {d : DataW H} {ps : List MemPlace} (hu : P.underlying t = some (.slice e)) (h : DataW.trod enc P w 0 sp held (fuel + 1) t cs = some (d, ps)) :
    d = .nil ∨ ∃ es s, d = .slice es s ∧ ∀ x ∈ es, ∃ cs' ps', DataW.trod enc P w 0 sp held fuel e cs' = some (x, ps') := by
  unfold DataW.trod at h
  rw [hu] at h
  split at h
  case h_7 => cases h; exact .inl rfl
  case h_8 =>
    have e1 := ‹some (TypeDesc.slice e) = _›
    cases e1
    simp only at h
    split at h
    · simp only [Option.bind_eq_some_iff] at h
      obtain ⟨elems, hel, h⟩ := h
      simp only [Option.map_eq_some_iff] at h
      obtain ⟨rest, -, h⟩ := h
      cases h
      refine .inr ⟨_, _, rfl, ?_⟩
      intro x hx
      obtain ⟨y, hy, rfl⟩ := List.mem_map.1 hx
      obtain ⟨i, hi⟩ := List.getElem?_of_mem hy
      obtain ⟨l1, l2⟩ := mapM_two hel
      rw [List.length_range] at l1
      have := l2 i i y (by rw [List.getElem?_range (by have := lt_of_get hi; omega)]) hi
      rw [Option.bind_eq_some_iff] at this
      obtain ⟨c, -, k⟩ := this
      exact ⟨c, y.2, k⟩
    · cases h
  all_goals first | (have e := ‹some (TypeDesc.slice _) = _›; cases e; done) | (cases h; done)
theorem sh_struct {fuel t : Nat} {fs : Array Field} {cs : List Value} {d : DataW H} {ps : List MemPlace} (hu : P.underlying t = some (.struct fs)) (h : DataW.trod enc P w 0 sp held (fuel + 1) t cs = some (d, ps)) :
    ∃ ds, d = .agg ds ∧ ds.length = fs.toList.length ∧ ∀ (i : Nat) (f : Field) (x : DataW H), fs.toList[i]? = some f → ds[i]? = some x → ∃ cs' ps', DataW.trod enc P w 0 sp held fuel f.type cs' = some (x, ps') := by
  unfold DataW.trod at h
  rw [hu] at h
  split at h
  case h_9 =>
    have e1 := ‹some (TypeDesc.struct fs) = _›
    cases e1
    split at h
    · simp only [Option.map_eq_some_iff] at h
      obtain ⟨xs, hxs, h⟩ := h
      cases h
      obtain ⟨l1, l2⟩ := mapM_two hxs
      refine ⟨_, rfl, by simp [l1], ?_⟩
      intro i f x hf hx
      simp only [List.getElem?_map, Option.map_eq_some_iff] at hx
      obtain ⟨y, hy, rfl⟩ := hx
      exact ⟨_, y.2, l2 i f y hf hy⟩
    · cases h
  all_goals first | (have e := ‹some (TypeDesc.struct fs) = _›; cases e; done) | (exact absurd rfl (‹∀ (fs_1 : Array Field), some (TypeDesc.struct fs) = some (TypeDesc.struct fs_1) → False› fs)) | (cases h; done)
end
section
variable {H : Type}
theorem toAVL_list {α : Type} (f : α → AV) (bulk : α → Nat) : ∀ (es : List (DataW H)), (∀ x ∈ es, ∃ a, toAV x = some (f a) ∧ bulk a ≤ uptoBulk x) → ∃ l : List α, toAVL es = some (l.map f) ∧ (l.map bulk).sum ≤ uptoBulkAll es
  | [], _ => ⟨[], rfl, by simp⟩
  | x :: es, h => by
    obtain ⟨l, h1, h2⟩ := toAVL_list f bulk es (fun y hy => h y (List.mem_cons_of_mem _ hy))
    obtain ⟨a, k1, k2⟩ := h x List.mem_cons_self
    refine ⟨a :: l, by simp [toAVL, k1, h1], ?_⟩
    simp only [List.map_cons, List.sum_cons, uptoBulkAll]
    omega
end
section
variable {H : Type} {enc : TypeId × Value → H} {w : World} {sp : Nat → Bool} {held : Bool}
noncomputable abbrev tr (enc : TypeId × Value → H) (w : World) (sp : Nat → Bool) (held : Bool) := DataW.trod enc Tryz.prog w 0 sp held
theorem rd_strs {fuel : Nat} {cs : List Value} {d : DataW H} {ps : List MemPlace} (h : tr enc w sp held fuel 22 cs = some (d, ps)) : ∃ l : List Str, toAV d = some (.slc .shared (l.map .str)) ∧ bkS l ≤ uptoBulk d := by
  cases fuel with
  | zero => simp [DataW.trod] at h
  | succ fuel =>
    rcases sh_slice Tryz.underlying22 h with rfl | ⟨es, s, rfl, k⟩
    · exact ⟨[], rfl, by simp [bkS]⟩
    · obtain ⟨l, h1, h2⟩ := toAVL_list (H := H) AV.str (fun s => s.length + 1) es (by
        intro x hx
        obtain ⟨cs', ps', k'⟩ := k x hx
        obtain ⟨s, rfl⟩ := sh_str Tryz.underlying9 k'
        exact ⟨s, rfl, by simp [uptoBulk]⟩)
      refine ⟨l, by simp [toAV, h1], ?_⟩
      have : bkS l = (l.map fun s => s.length + 1).sum := by
        clear h1 h2
        induction l with
        | nil => rfl
        | cons x l ih => simp [bkS, ih]
      simp only [uptoBulk]
      omega
theorem bkL_sum (l : List Nd) : bkL l = (l.map bk).sum := by
  induction l with
  | nil => rfl
  | cons x l ih => simp [bkL, ih]
theorem rd_node : ∀ (fuel : Nat) {cs : List Value} {d : DataW H} {ps : List MemPlace}, tr enc w sp held fuel 25 cs = some (d, ps) → ∃ n : Nd, toAV d = some (av n) ∧ bk n ≤ uptoBulk d := by
  intro fuel
  induction fuel using Nat.strongRecOn with
  | ind fuel ih =>
    intro cs d ps h
    cases fuel with
    | zero => simp [DataW.trod] at h
    | succ fuel =>
      obtain ⟨ds, rfl, hl, k⟩ := sh_struct Tryz.underlying25 h
      match ds, hl, k with
      | [a, b, c, e, f, g], _, k =>
        obtain ⟨_, _, ka⟩ := k 0 _ a rfl rfl
        obtain ⟨_, _, kb⟩ := k 1 _ b rfl rfl
        obtain ⟨_, _, kc⟩ := k 2 _ c rfl rfl
        obtain ⟨_, _, ke⟩ := k 3 _ e rfl rfl
        obtain ⟨_, _, kf⟩ := k 4 _ f rfl rfl
        obtain ⟨_, _, kg⟩ := k 5 _ g rfl rfl
        obtain ⟨o, rfl⟩ := sh_int Tryz.underlying3 ka
        obtain ⟨ns, hn1, hn2⟩ := rd_strs kb
        obtain ⟨so, rfl⟩ := sh_int Tryz.underlying3 kc
        obtain ⟨nn, rfl⟩ := sh_int Tryz.underlying3 ke
        obtain ⟨mm, rfl⟩ := sh_int Tryz.underlying3 kf
        have hg : ∃ l : List Nd, toAV g = some (.slc .shared (l.map av)) ∧ bkL l ≤ uptoBulk g := by
          cases fuel with
          | zero => simp [DataW.trod] at kg
          | succ fuel =>
            rcases sh_slice Tryz.underlying23 kg with rfl | ⟨es, s, rfl, k'⟩
            · exact ⟨[], rfl, by simp [bkL]⟩
            · obtain ⟨l, h1, h2⟩ := toAVL_list (H := H) av bk es (by
                intro x hx
                obtain ⟨cs', ps', k''⟩ := k' x hx
                exact ih fuel (by omega) k'')
              refine ⟨l, by simp [toAV, h1], ?_⟩
              rw [bkL_sum]
              simp only [uptoBulk]
              omega
        obtain ⟨l, hl1, hl2⟩ := hg
        refine ⟨.mk o ns so nn mm l, ?_, ?_⟩
        · simp [toAV, toAVL, hn1, hl1, flat, cells, av, avL_map]
        · simp only [bk, uptoBulk, uptoBulkAll]
          omega
      | [], hl, _ => simp at hl
      | [_], hl, _ => simp at hl
      | [_, _], hl, _ => simp at hl
      | [_, _, _], hl, _ => simp at hl
      | [_, _, _, _], hl, _ => simp at hl
      | [_, _, _, _, _], hl, _ => simp at hl
      | _ :: _ :: _ :: _ :: _ :: _ :: _ :: _, hl, _ => simp at hl
end
end Go.Proofs.Ae
namespace Go.Proofs.Ae
open Go Go.RowKit
open Go.Proofs.YtlaomcfiadmamaaGreatDoor
def tyL : List Nat := [3, 4, 5, 9, 22, 23, 25, 38, 47, 162, 163, 185, 195, 207, 237]
def tyS (t : Nat) : Bool := tyL.contains t
theorem tyS_all : (tyL.all fun t => tyOk Tryz.prog tyS t) = true := by kernel_rfl
def one1 (P : Program) (t : Nat) : Bool := match P.underlying t with
  | some (.struct _) => true
  | some (.array _ _) => true
  | _ => Nat.beq (P.cellsOf t) 1
theorem tyS_one : (tyL.all fun t => one1 Tryz.prog t) = true := by kernel_rfl
theorem tyS_mem {t : Nat} (h : tyS t = true) : t ∈ tyL := by simpa [tyS] using h
theorem hS : ∀ t, tyS t = true → tyOk Tryz.prog tyS t = true := fun t h => List.all_eq_true.1 tyS_all t (tyS_mem h)
theorem hS1 : ∀ t, tyS t = true → (∃ d, Tryz.prog.underlying t = some d ∧ (match d with | .struct _ => False | .array _ _ => False | _ => True)) → Tryz.prog.cellsOf t = 1 := fun t h ⟨d, hd, hk⟩ => by
  have := List.all_eq_true.1 tyS_one t (tyS_mem h)
  unfold one1 at this
  rw [hd] at this
  cases d <;> simp only at this hk <;> exact Nat.eq_of_beq_eq_true this
theorem gv0 : toAV (Rows.laid_palmette_formula_forms (H := Unit)) = Gv 0 := by kernel_rfl
theorem gv1 : toAV (Rows.laid_palmette_formula_sorts (H := Unit)) = Gv 1 := by kernel_rfl
theorem gv2 : toAV (Rows.laid_strings_asciiSpace (H := Unit)) = Gv 2 := by kernel_rfl
theorem gv5 : toAV (Rows.laid_internal_strconv_uint64pow10 (H := Unit)) = some powAV := by kernel_rfl
abbrev LL : List (String × DataW Unit) := Rows.normalFormPrefixUptoRow.laid
theorem ll_plain : (LL.all fun x => x.2.handleName?.isNone) = true := by kernel_rfl
theorem grel {w : World} (h : laidMetH Tryz.prog LL w) : GRel (U0 w) w Gv := by
  have hl : laidMet Tryz.prog LL w := by
    have := h
    rwa [Go.MakeChecks.laidMetH_plain _ _ _ ll_plain] at this
  intro g v hg
  match g, hg with
  | 0, hg => exact laid_var hS hS1 (nm := "palmette/formula.forms") (d := Rows.laid_palmette_formula_forms) (t := 163) hl (by simp [LL, Rows.normalFormPrefixUptoRow]) (by kernel_rfl) (by kernel_rfl) (by kernel_rfl) (gv0.trans hg)
  | 1, hg => exact laid_var hS hS1 (nm := "palmette/formula.sorts") (d := Rows.laid_palmette_formula_sorts) (t := 185) hl (by simp [LL, Rows.normalFormPrefixUptoRow]) (by kernel_rfl) (by kernel_rfl) (by kernel_rfl) (gv1.trans hg)
  | 2, hg => exact laid_var hS hS1 (nm := "strings.asciiSpace") (d := Rows.laid_strings_asciiSpace) (t := 207) hl (by simp [LL, Rows.normalFormPrefixUptoRow]) (by kernel_rfl) (by kernel_rfl) (by kernel_rfl) (gv2.trans hg)
  | g + 3, hg => simp [Gv] at hg
theorem grel5 {w : World} (h : laidMetH Tryz.prog LL w) : ∃ (cs : List AV) (vs : List Value), cells powAV = some cs ∧ RepL (U0 w) w [] [] cs vs ∧ RowAt (U0 w) w ⟨5, 0, none⟩ vs ∧ (0 < vs.length → csz w 5 = some vs.length) := by
  have hl : laidMet Tryz.prog LL w := by
    have := h
    rwa [Go.MakeChecks.laidMetH_plain _ _ _ ll_plain] at this
  exact laid_var hS hS1 (nm := "internal/strconv.uint64pow10") (d := Rows.laid_internal_strconv_uint64pow10) (t := 237) hl (by simp [LL, Rows.normalFormPrefixUptoRow]) (by kernel_rfl) (by kernel_rfl) (by kernel_rfl) gv5
end Go.Proofs.Ae
namespace Go.Proofs.Ae
open Go Go.RowKit Go.ChangeShapes Go.WideShapes Go.ChangeAt
open Go.Proofs.YtlaomcfiadmamaaGreatDoor
set_option maxRecDepth 20000
theorem laidOutT : laidOutB Tryz.prog = true := by kernel_rfl
theorem ownT : ownKnob Tryz.prog.godebug = none := by kernel_rfl
section
variable {H : Type} {enc : TypeId × Value → H} {W : World} {r : Reach} {base : Nat} {sp : Nat → Bool} {held : Bool} {v : Value} {d : DataW H} {p : List MemPlace}
theorem arg_st {t : Nat} {fs : Array Field} (hu : Tryz.prog.underlying t = some (.struct fs)) (hSt : tyS t = true) (hval : Value.okWide Tryz.prog W r base t v) (h : DataW.Trod enc Tryz.prog W 0 sp held t v d p) {cs' : List AV} (hd : toAV d = some (.agg cs')) : Rep (U0 W) W [] [] (.agg cs') v := by
  simp only [Value.okWide, hu] at hval
  obtain ⟨cs, rfl, -, -⟩ := hval
  obtain ⟨fuel, hf⟩ := h
  obtain ⟨-, a, ac, r1, r2, -, r4⟩ := trod_rep hS hS1 fuel t _ d p hSt hf
  rw [hd] at r1
  cases r1
  cases r2
  have := Rep.agg (vs := cs.toList) (by simpa [Value.cells] using r4)
  simpa using this
theorem stays {t : Nat} (hr : Tryz.prog.readableRec t = true) (ht : t < Tryz.prog.types.size) (h : DataW.Trod enc Tryz.prog W 0 (fun _ => true) true t v d p) (hlt : ∀ x ∈ p, x.block < W.heap.size) (W' : World) (hb : Below W.heap.size W W') :
    DataW.Trod enc Tryz.prog W' 0 (fun b => decide (b < W.heap.size)) true t v d p := Below.trod laidOutT hr ht h hb hlt
end
end Go.Proofs.Ae
