/- The law MacroNil (..) -/
import Derived.Test.YtjkmcceipabejaaGreatDoorI
import Derived.Test.YtjkmcceipabejaaGreatDoorCards
import Derived.Test.YtjkmcceipabejaaGreatDoorTie
set_option linter.unusedSimpArgs false
set_option linter.unusedVariables false
set_option linter.unusedSectionVars false
namespace Go.Proofs.YtjkmcceipabejaaGreatDoor
open Go Go.RowKit Go.ChangeShapes Go.WideShapes Go.ChangeAt
open Go.Proofs.Ae
set_option maxRecDepth 100000
theorem orc7c {t : Nat} (l : List Mc) (m : Mc) (hb : bkMs l + bkM m < big) : OrcAt Tryz.prog (GG t) 7 [.slc .shared (l.map mcv), mcv m] (.bool true, none) :=
  orc7 l m (fun d hd => okM_of (by have := bkMs_mem hd; omega)) (okM_of (by omega))
theorem mni_contract (H : Type) (enc : TypeId × Value → H) (W : World) (base : Nat) (args : Array Value) (ds gs : List (DataW H)) (before : List MemPlace)
    (hval : ∀ (j : Nat) t v, Tryz.f7.params[j]? = some t → args[j]? = some v → Value.okWide Tryz.prog W .any base t v)
    (hW : DataW.Whole enc Tryz.prog Tryz.f7.params.toList Rows.macroNilSpec.vars false W args.toList ds gs before)
    (hsm : Rows.uptoSmall H (ds ++ gs) = true) (hL : laidMetH Tryz.prog LL W) :
    Calls Tryz.prog 7 args W fun e W' => ∃ v, e = .returned v ∧ Rows.macroNilSpec.post enc Tryz.prog Tryz.f7 false true false false W args v W' := by
  have hW' := hW
  obtain ⟨p, q, hA0, hV, rfl, hfz, hnd⟩ := hW
  have hA : DataW.TrodAll enc Tryz.prog W 0 (fun _ => true) true Tryz.f7.params.toList args.toList ds p := hA0
  rw [Tryz.params7] at hA hval
  obtain ⟨v0, vs0, d0, ds0, p0, q0, hargs, rfl, rfl, k0, r0⟩ := trodAll_cons hA
  obtain ⟨v1, vs1, d1, ds1, p1, q1, rfl, rfl, rfl, k1, r1⟩ := trodAll_cons r0
  obtain ⟨rfl, rfl, rfl⟩ := trodAll_nil r1
  obtain rfl : args = #[v0, v1] := by cases args; simp_all
  obtain ⟨rfl, rfl⟩ := trodVars_none hV
  clear hA0 hA r0 r1
  simp only [List.append_nil] at hW' hsm
  have hlt0 : ∀ x ∈ p0, x.block < W.heap.size := fun x hx => by simpa using hW'.lt x (by simp [hx])
  have hlt1 : ∀ x ∈ p1, x.block < W.heap.size := fun x hx => by simpa using hW'.lt x (by simp [hx])
  have hu : Rows.uptoBulkAll [d0, d1] ≤ 1048576 := of_decide_eq_true hsm
  simp only [Rows.uptoBulkAll] at hu
  obtain ⟨f0, g0⟩ := k0
  obtain ⟨x0, a0, b0⟩ := rd_macs g0
  obtain ⟨f1, g1⟩ := k1
  obtain ⟨x1, a1, b1⟩ := rd_mac g1
  have hV : RepV (U0 W) W [] [] [.slc .shared (x0.map mcv), mcv x1] [v0, v1] := by
    refine .cons ?_ (.cons ?_ .nil)
    · exact arg_sl Tryz.underlying22 (by kernel_rfl) (hval 0 22 v0 rfl rfl) ⟨f0, g0⟩ a0
    · exact arg_st Tryz.underlying34 (by kernel_rfl) (hval 1 34 v1 rfl rfl) ⟨f1, g1⟩ a1
  obtain ⟨t, hG⟩ := grelG hL
  have hb : bkMs x0 + bkM x1 < big := by unfold big; omega
  refine Calls.mono (orc_lawG (orc7c x0 x1 hb) hG hV) fun e W' ⟨he, hnx⟩ => ?_
  subst he
  refine ⟨_, rfl, _, _, _, [], p0 ++ p1, [], hW', ?_, ?_, rfl, hnx.frame _, fun h => by cases h⟩
  · exact trodAll_cons_mk (shut_bool Tryz.underlying4 _) trodAll_mk0
  · have := trodAll_cons_mk (stays (by kernel_rfl) (of_decide_eq_true (by kernel_rfl)) ⟨f0, g0⟩ (fun x hx => hlt0 x hx) W' hnx) (trodAll_cons_mk (stays (by kernel_rfl) (of_decide_eq_true (by kernel_rfl)) ⟨f1, g1⟩ (fun x hx => hlt1 x hx) W' hnx) (trodAll_mk0))
    simp only [List.append_nil] at this
    first | exact this | simpa only [List.append_assoc] using this
def mniArgs : Array Value := #[.slice none 0 0, .agg #[.string ⟨#[]⟩, .slice none 0 0, .int .i64 0, .slice none 0 0, .int .i64 0, .int .i64 0, .int .i64 0, .slice none 0 0]]
theorem mni_reads (os : Os) {H : Type} (enc : TypeId × Value → H) : ∃ places, DataW.whole enc Tryz.prog ((laidWorld os).forCall (fun _ _ => 0) ⟨#[], mniArgs, []⟩).memory Tryz.f7.params.toList Rows.macroNilSpec.vars false mniArgs.toList 8 =
    some ([.nil, .agg [.lit (.string []), .nil, .agg [.lit (.int .i64 0), .nil, .lit (.int .i64 0), .lit (.int .i64 0), .lit (.int .i64 0), .nil]]], [], places) :=
  ⟨[], by kernel_rfl⟩
theorem mni_lifted (os : Os) (started : os.Started) (H : Type) (enc : TypeId × Value → H) (F : Stop.Interp) :
    ReturnsInHanded {} Tryz.checked os 7 .any ((Rows.OpenSpec.upto Rows.macroNilSpec).preRow enc Tryz.prog Tryz.f7 Rows.macroNilUptoRow.domain false Rows.macroNilUptoRow.laid) (((Rows.OpenSpec.upto Rows.macroNilSpec).at F).post enc Tryz.prog Tryz.f7 false true false false) := by
  obtain ⟨places, hx⟩ := mni_reads os enc
  refine returnsInHanded_of_row (C := Tryz.checked) (s := Rows.OpenSpec.upto Rows.macroNilSpec) ownT started (by kernel_rfl) Tryz.func7
    (witness_row_atRef (enc := enc) (C := Tryz.checked) false (laidWorld os) mniArgs rfl (wv os _) (wr os _) (by kernel_rfl)
      (OpenSpec.preRow_of_cond 8 hx (by kernel_rfl) (fun k hk => by cases hk; kernel_rfl) (by kernel_rfl) (laid_met os _))) ?_
  intro W base args ds gs before hval hW _ hcond _ hL _ _
  exact mni_contract H enc W base args ds gs before hval hW (hcond _ rfl) hL
theorem band {a b : Bool} (h : a = true) (k : b = true) : (a && b) = true := by rw [h, k]; rfl
theorem mni_j1 : (Rows.macroNilUptoRow.inPlace == Tryz.pinned.checked.prog.inPlace 7) = true := by kernel_rfl
theorem mni_j2 : (Rows.macroNilUptoRow.unfollowed == Tryz.pinned.checked.prog.unfollowed 7) = true := by kernel_rfl
theorem mni_j3 : (Rows.macroNilUptoRow.recurses == Tryz.pinned.checked.prog.recurses 7) = true := by kernel_rfl
theorem mni_j4 : (Rows.macroNilUptoRow.named == Tryz.pinned.checked.prog.varsNamed 7) = true := by kernel_rfl
theorem mni_joined : joinedFacts Tryz.pinned.checked.prog 7 Tryz.f7 (Rows.OpenSpec.upto Rows.macroNilSpec).bare Rows.macroNilUptoRow = true := by
  unfold joinedFacts
  exact (band (band (band (band (band (band (band (band (band (band (band (band (band (band (band (band (band (band (band (band (band (band (band (band (band (band (band (band (band (band (band (by kernel_rfl) (by kernel_rfl)) (by kernel_rfl)) (by kernel_rfl)) (by kernel_rfl)) (by kernel_rfl)) (by kernel_rfl)) (by kernel_rfl)) (by kernel_rfl)) mni_j1) mni_j2) mni_j3) mni_j4) (by kernel_rfl)) (by kernel_rfl)) (by kernel_rfl)) (by kernel_rfl)) (by kernel_rfl)) (by kernel_rfl)) (by kernel_rfl)) (by kernel_rfl)) (by kernel_rfl)) (by kernel_rfl)) (by kernel_rfl)) (by kernel_rfl)) (by kernel_rfl)) (by kernel_rfl)) (by kernel_rfl)) (by kernel_rfl)) (by kernel_rfl)) (by kernel_rfl)) (by kernel_rfl))
theorem mni_said : Rows.MacroNilUptoSaid :=
  OpenClaim.holds_of_cond 7 Tryz.f7 rfl rfl rfl rfl rfl rfl rfl ⟨rfl, rfl, rfl, rfl, rfl⟩ rfl rfl rfl rfl rfl (by kernel_rfl) Tryz.func7 mni_joined
    (of_decide_eq_true (by kernel_rfl)) (by unfold Func.isWrapper; first | (rw [if_pos (by decide +kernel)]; kernel_rfl) | (rw [if_neg (by decide +kernel)]; exact ⟨rfl, rfl⟩))
    (fun os started H enc _ F => by rw [OpenClaim.pre_eq_preRow]; exact mni_lifted os started H enc F)
theorem mni_plain (f : FuncId) (fn : Func) (hf : Tryz.pinned.checked.prog.funcNamed "palmette/palmettelaw15.MacroNil" = some f) (hfn : Tryz.pinned.checked.prog.funcs[f]? = some fn) :
    true = Tryz.pinned.checked.prog.looks [] ∧ ∀ (j : Nat) t, fn.params[j]? = some t → Tryz.pinned.checked.prog.wantsStandIn t = false := by
  obtain rfl : f = 7 := Option.some.inj ((show Tryz.prog.funcNamed "palmette/palmettelaw15.MacroNil" = some 7 by kernel_rfl).symm.trans hf) |>.symm
  obtain rfl : fn = Tryz.f7 := (Option.some.inj (Tryz.func7.symm.trans hfn)).symm
  refine ⟨by kernel_rfl, fun j t ht => ?_⟩
  rw [Tryz.params7] at ht
  have ht' := Array.mem_of_getElem? ht
  have h22 : Tryz.prog.wantsStandIn 22 = false := by kernel_rfl
  have h34 : Tryz.prog.wantsStandIn 34 = false := by kernel_rfl
  have h62 : Tryz.prog.wantsStandIn 62 = false := by kernel_rfl
  simp at ht'
  rcases ht' with rfl | rfl <;> first | exact h22 | exact h34 | exact h62
theorem mni_card : Rows.MacroNilUptoCardSaid :=
  Claim7.holds_tied_plain_at .later [] _ _ _ _ mni_said (fun _ h => by cases h) (by kernel_rfl) (fun _ h => by cases h) macroNilUpto_row_tie rfl ⟨rfl, rfl⟩ (by kernel_rfl) rfl mni_plain (by kernel_rfl)
end Go.Proofs.YtjkmcceipabejaaGreatDoor
