/- The law MacroAdd (that Add accepts exactly the macros that can be added and returns the specified error for others) is true of the given program, at arguments of bulk at most 1048576; no further condition. -/
import Derived.Test.YtjkmcceipabejaaGreatDoorI
import Derived.Test.YtjkmcceipabejaaGreatDoorCards
import Derived.Test.YtjkmcceipabejaaGreatDoorTie
set_option linter.unusedSimpArgs false
set_option linter.unusedVariables false
set_option linter.unusedSectionVars false
namespace Go.Proofs.YtjkmcceipabejaaGreatDoor
open Go Go.RowKit Go.ChangeShapes Go.WideShapes Go.ChangeAt
open Go.Proofs.Ae
set_option maxRecDepth 100000
theorem orc3c {t : Nat} (l : List Mc) (hb : bkMs l < big) : OrcAt Tryz.prog (GG t) 3 [.slc .shared (l.map mcv)] (.bool true, none) :=
  orc3 l fun d hd => okM_of (by have := bkMs_mem hd; omega)
theorem mad_contract (H : Type) (enc : TypeId × Value → H) (W : World) (base : Nat) (args : Array Value) (ds gs : List (DataW H)) (before : List MemPlace)
    (hval : ∀ (j : Nat) t v, Tryz.f3.params[j]? = some t → args[j]? = some v → Value.okWide Tryz.prog W .any base t v)
    (hW : DataW.Whole enc Tryz.prog Tryz.f3.params.toList Rows.macroAddSpec.vars false W args.toList ds gs before)
    (hsm : Rows.uptoSmall H (ds ++ gs) = true) (hL : laidMetH Tryz.prog LL W) :
    Calls Tryz.prog 3 args W fun e W' => ∃ v, e = .returned v ∧ Rows.macroAddSpec.post enc Tryz.prog Tryz.f3 false true false false W args v W' := by
  have hW' := hW
  obtain ⟨p, q, hA0, hV, rfl, hfz, hnd⟩ := hW
  have hA : DataW.TrodAll enc Tryz.prog W 0 (fun _ => true) true Tryz.f3.params.toList args.toList ds p := hA0
  rw [Tryz.params3] at hA hval
  obtain ⟨v0, vs0, d0, ds0, p0, q0, hargs, rfl, rfl, k0, r0⟩ := trodAll_cons hA
  obtain ⟨rfl, rfl, rfl⟩ := trodAll_nil r0
  obtain rfl : args = #[v0] := by cases args; simp_all
  obtain ⟨rfl, rfl⟩ := trodVars_none hV
  clear hA0 hA r0
  simp only [List.append_nil] at hW' hsm
  have hlt0 : ∀ x ∈ p0, x.block < W.heap.size := fun x hx => by simpa using hW'.lt x (by simp [hx])
  have hu : Rows.uptoBulkAll [d0] ≤ 1048576 := of_decide_eq_true hsm
  simp only [Rows.uptoBulkAll] at hu
  obtain ⟨f0, g0⟩ := k0
  obtain ⟨x0, a0, b0⟩ := rd_macs g0
  have hV : RepV (U0 W) W [] [] [.slc .shared (x0.map mcv)] [v0] := by
    refine .cons ?_ .nil
    · exact arg_sl Tryz.underlying22 (by kernel_rfl) (hval 0 22 v0 rfl rfl) ⟨f0, g0⟩ a0
  obtain ⟨t, hG⟩ := grelG hL
  have hb : bkMs x0 < big := by unfold big; omega
  refine Calls.mono (orc_lawG (orc3c x0 hb) hG hV) fun e W' ⟨he, hnx⟩ => ?_
  subst he
  refine ⟨_, rfl, _, _, _, [], p0, [], hW', ?_, ?_, rfl, hnx.frame _, fun h => by cases h⟩
  · exact trodAll_cons_mk (shut_bool Tryz.underlying4 _) trodAll_mk0
  · have := trodAll_cons_mk (stays (by kernel_rfl) (of_decide_eq_true (by kernel_rfl)) ⟨f0, g0⟩ (fun x hx => hlt0 x hx) W' hnx) (trodAll_mk0)
    simp only [List.append_nil] at this
    first | exact this | simpa only [List.append_assoc] using this
def madArgs : Array Value := #[.slice none 0 0]
theorem mad_reads (os : Os) {H : Type} (enc : TypeId × Value → H) : ∃ places, DataW.whole enc Tryz.prog ((laidWorld os).forCall (fun _ _ => 0) ⟨#[], madArgs, []⟩).memory Tryz.f3.params.toList Rows.macroAddSpec.vars false madArgs.toList 8 =
    some ([.nil], [], places) :=
  ⟨[], by kernel_rfl⟩
theorem mad_lifted (os : Os) (started : os.Started) (H : Type) (enc : TypeId × Value → H) (F : Stop.Interp) :
    ReturnsInHanded {} Tryz.checked os 3 .any ((Rows.OpenSpec.upto Rows.macroAddSpec).preRow enc Tryz.prog Tryz.f3 Rows.macroAddUptoRow.domain false Rows.macroAddUptoRow.laid) (((Rows.OpenSpec.upto Rows.macroAddSpec).at F).post enc Tryz.prog Tryz.f3 false true false false) := by
  obtain ⟨places, hx⟩ := mad_reads os enc
  refine returnsInHanded_of_row (C := Tryz.checked) (s := Rows.OpenSpec.upto Rows.macroAddSpec) ownT started (by kernel_rfl) Tryz.func3
    (witness_row_atRef (enc := enc) (C := Tryz.checked) false (laidWorld os) madArgs rfl (wv os _) (wr os _) (by kernel_rfl)
      (OpenSpec.preRow_of_cond 8 hx (by kernel_rfl) (fun k hk => by cases hk; kernel_rfl) (by kernel_rfl) (laid_met os _))) ?_
  intro W base args ds gs before hval hW _ hcond _ hL _ _
  exact mad_contract H enc W base args ds gs before hval hW (hcond _ rfl) hL
theorem mad_said : Rows.MacroAddUptoSaid :=
  OpenClaim.holds_of_cond 3 Tryz.f3 rfl rfl rfl rfl rfl rfl rfl ⟨rfl, rfl, rfl, rfl, rfl⟩ rfl rfl rfl rfl rfl (by kernel_rfl) Tryz.func3 (by kernel_rfl)
    (of_decide_eq_true (by kernel_rfl)) (by unfold Func.isWrapper; first | (rw [if_pos (by decide +kernel)]; kernel_rfl) | (rw [if_neg (by decide +kernel)]; exact ⟨rfl, rfl⟩))
    (fun os started H enc _ F => by rw [OpenClaim.pre_eq_preRow]; exact mad_lifted os started H enc F)
theorem mad_plain (f : FuncId) (fn : Func) (hf : Tryz.pinned.checked.prog.funcNamed "palmette/palmettelaw15.MacroAdd" = some f) (hfn : Tryz.pinned.checked.prog.funcs[f]? = some fn) :
    true = Tryz.pinned.checked.prog.looks [] ∧ ∀ (j : Nat) t, fn.params[j]? = some t → Tryz.pinned.checked.prog.wantsStandIn t = false := by
  obtain rfl : f = 3 := Option.some.inj ((show Tryz.prog.funcNamed "palmette/palmettelaw15.MacroAdd" = some 3 by kernel_rfl).symm.trans hf) |>.symm
  obtain rfl : fn = Tryz.f3 := (Option.some.inj (Tryz.func3.symm.trans hfn)).symm
  refine ⟨by kernel_rfl, fun j t ht => ?_⟩
  rw [Tryz.params3] at ht
  have ht' := Array.mem_of_getElem? ht
  have h22 : Tryz.prog.wantsStandIn 22 = false := by kernel_rfl
  have h34 : Tryz.prog.wantsStandIn 34 = false := by kernel_rfl
  have h62 : Tryz.prog.wantsStandIn 62 = false := by kernel_rfl
  simp at ht'
  rcases ht' with rfl <;> first | exact h22 | exact h34 | exact h62
theorem mad_card : Rows.MacroAddUptoCardSaid :=
  Claim7.holds_tied_plain_at .later [] _ _ _ _ mad_said (fun _ h => by cases h) (by kernel_rfl) (fun _ h => by cases h) macroAddUpto_row_tie rfl ⟨rfl, rfl⟩ (by kernel_rfl) rfl mad_plain (by kernel_rfl)
end Go.Proofs.YtjkmcceipabejaaGreatDoor
