/- NormalFormLimits answers true and leaves its argument as it was, for every number, where the listed package variables hold what the text of the program lays. -/
import Derived.Test.YtlaomcfiadmamaaGreatDoorM
import Derived.Test.YtlaomcfiadmamaaGreatDoorCards
import Derived.Test.YtlaomcfiadmamaaGreatDoorTie
/- NormalFormLimits: the row, the card. -/
namespace Go.Proofs.YtlaomcfiadmamaaGreatDoor
open Go Go.RowKit Go.ChangeShapes Go.WideShapes Go.ChangeAt
open Go.Proofs.Ae
set_option linter.unusedSimpArgs false
set_option linter.unusedVariables false
set_option maxRecDepth 100000

theorem nfl8_contract (H : Type) (enc : TypeId × Value → H) (W : World) (base : Nat) (args : Array Value) (ds gs : List (DataW H)) (before : List MemPlace)
    (hval : ∀ (j : Nat) t v, Tryz.f8.params[j]? = some t → args[j]? = some v → Value.okWide Tryz.prog W .any base t v)
    (hW : DataW.Whole enc Tryz.prog Tryz.f8.params.toList Rows.normalFormLimitsSpec.vars false W args.toList ds gs before)
    (hsm : Rows.uptoSmall H (ds ++ gs) = true) (hL : laidMetH Tryz.prog LL W) :
    Calls Tryz.prog 8 args W fun e W' => ∃ v, e = .returned v ∧ Rows.normalFormLimitsSpec.post enc Tryz.prog Tryz.f8 false true false false W args v W' := by
  have hW' := hW
  obtain ⟨p, q, hA0, hV, rfl, hfz, hnd⟩ := hW
  have hA : DataW.TrodAll enc Tryz.prog W 0 (fun _ => true) true Tryz.f8.params.toList args.toList ds p := hA0
  rw [Tryz.params8] at hA hval
  obtain ⟨v0, vs0, d0, ds0, p0, q0, hargs, rfl, rfl, k0, r0⟩ := trodAll_cons hA
  obtain ⟨rfl, rfl, rfl⟩ := trodAll_nil r0
  obtain rfl : args = #[v0] := by cases args; simp_all
  obtain ⟨rfl, rfl⟩ := trodVars_none hV
  clear hA0 hA r0
  simp only [List.append_nil] at hW' hsm
  have hlt : ∀ x ∈ p0, x.block < W.heap.size := fun x hx => by simpa using hW'.lt x (by simpa using hx)
  have hu : Rows.uptoBulkAll [d0] ≤ 1048576 := of_decide_eq_true hsm
  simp only [Rows.uptoBulkAll] at hu
  have k0' := k0
  obtain ⟨z, rfl, hz, hp0, hwf⟩ := open_int Tryz.underlying5 (hval 0 5 v0 rfl rfl) k0'
  subst hz
  have hz0 : 0 ≤ z := by
    simp [Lit.wf, IntKind.min, IntKind.max, IntKind.signed, IntKind.bits] at hwf
    omega
  obtain ⟨n, rfl⟩ : ∃ n : Nat, z = (n : Int) := ⟨z.toNat, by omega⟩
  have hV : RepV (U0 W) W [] [] [.int .u8 n] [.int .u8 n] := .cons .int .nil
  obtain ⟨t, hG⟩ := grelG hL
  refine Calls.mono (orc_lawG (orc8 n) hG hV) fun e W' ⟨he, hnx⟩ => ?_
  subst he
  refine ⟨_, rfl, _, _, _, [], p0, [], hW', ?_, ?_, rfl, hnx.frame _, fun h => by cases h⟩
  · exact trodAll_cons_mk (shut_bool Tryz.underlying4 _) trodAll_mk0
  · have := trodAll_cons_mk (stays (by kernel_rfl) (of_decide_eq_true (by kernel_rfl)) k0 (fun x hx => hlt x hx) W' hnx) trodAll_mk0
    simp only [List.append_nil] at this
    exact this

def nfl8Args : Array Value := #[.int .u8 0]
theorem nfl8_reads (os : Os) {H : Type} (enc : TypeId × Value → H) : ∃ places, DataW.whole enc Tryz.prog ((laidWorld os).forCall (fun _ _ => 0) ⟨#[], nfl8Args, []⟩).memory Tryz.f8.params.toList Rows.normalFormLimitsSpec.vars false nfl8Args.toList 8 =
    some ([.lit (.int .u8 0)], [], places) :=
  ⟨[], by kernel_rfl⟩
theorem nfl8_lifted (os : Os) (started : os.Started) (H : Type) (enc : TypeId × Value → H) (F : Stop.Interp) :
    ReturnsInHanded {} Tryz.checked os 8 .any ((Rows.OpenSpec.upto Rows.normalFormLimitsSpec).preRow enc Tryz.prog Tryz.f8 Rows.normalFormLimitsUptoRow.domain false Rows.normalFormLimitsUptoRow.laid) (((Rows.OpenSpec.upto Rows.normalFormLimitsSpec).at F).post enc Tryz.prog Tryz.f8 false true false false) := by
  obtain ⟨places, hx⟩ := nfl8_reads os enc
  refine returnsInHanded_of_row (C := Tryz.checked) (s := Rows.OpenSpec.upto Rows.normalFormLimitsSpec) ownT started (by kernel_rfl) Tryz.func8
    (witness_row_atRef (enc := enc) (C := Tryz.checked) false (laidWorld os) nfl8Args rfl (wv os _) (wr os _) (by kernel_rfl)
      (OpenSpec.preRow_of_cond 8 hx (by kernel_rfl) (fun k hk => by cases hk; kernel_rfl) (by kernel_rfl) (laid_met os _))) ?_
  intro W base args ds gs before hval hW _ hcond _ hL _ _
  exact nfl8_contract H enc W base args ds gs before hval hW (hcond _ rfl) hL
theorem nfl8_said : Rows.NormalFormLimitsUptoSaid :=
  OpenClaim.holds_of_cond 8 Tryz.f8 rfl rfl rfl rfl rfl rfl rfl ⟨rfl, rfl, rfl, rfl, rfl⟩ rfl rfl rfl rfl rfl (by kernel_rfl) Tryz.func8 (by kernel_rfl)
    (of_decide_eq_true (by kernel_rfl)) (by unfold Func.isWrapper; first | (rw [if_pos (by decide +kernel)]; kernel_rfl) | (rw [if_neg (by decide +kernel)]; exact ⟨rfl, rfl⟩))
    (fun os started H enc _ F => by rw [OpenClaim.pre_eq_preRow]; exact nfl8_lifted os started H enc F)
theorem nfl8_plain (f : FuncId) (fn : Func) (hf : Tryz.pinned.checked.prog.funcNamed "palmette/palmettelaw14.NormalFormLimits" = some f) (hfn : Tryz.pinned.checked.prog.funcs[f]? = some fn) :
    true = Tryz.pinned.checked.prog.looks [] ∧ ∀ (j : Nat) t, fn.params[j]? = some t → Tryz.pinned.checked.prog.wantsStandIn t = false := by
  obtain rfl : f = 8 := Option.some.inj ((show Tryz.prog.funcNamed "palmette/palmettelaw14.NormalFormLimits" = some 8 by kernel_rfl).symm.trans hf) |>.symm
  obtain rfl : fn = Tryz.f8 := (Option.some.inj (Tryz.func8.symm.trans hfn)).symm
  refine ⟨by kernel_rfl, fun j t ht => ?_⟩
  rw [Tryz.params8] at ht
  have ht' : t = 5 := by simpa using Array.mem_of_getElem? ht
  subst ht'
  exact (show Tryz.prog.wantsStandIn 5 = false by kernel_rfl)
theorem nfl8_card : Rows.NormalFormLimitsUptoCardSaid :=
  Claim7.holds_tied_plain_at .later [] _ _ _ _ nfl8_said (fun _ h => by cases h) (by kernel_rfl) (fun _ h => by cases h) normalFormLimitsUpto_row_tie rfl ⟨rfl, rfl⟩ (by kernel_rfl) rfl nfl8_plain (by kernel_rfl)
end Go.Proofs.YtlaomcfiadmamaaGreatDoor
