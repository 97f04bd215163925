/- The law MacroRoundTrip (parsing the text of a macro set yields an equal set, also with further white space in the text; at most 5 macros with at most 30 nodes, arguments of bulk at most 1048576). -/
import Derived.Test.YtjkmcceipabejaaGreatDoorI
import Derived.Test.YtjkmcceipabejaaGreatDoorCards
import Derived.Test.YtjkmcceipabejaaGreatDoorTie
set_option linter.unusedSimpArgs false
set_option linter.unusedVariables false
set_option linter.unusedSectionVars false
namespace Go.Proofs.YtjkmcceipabejaaGreatDoor
open Go Go.RowKit Go.ChangeShapes Go.WideShapes Go.ChangeAt
open Go.Proofs.Ae
set_option maxRecDepth 100000
theorem orc5c {t : Nat} (l : List Mc) (k : Nat) (hk : k < 256) (hb : bkMs l < big) : OrcAt Tryz.prog (GG t) 5 [.slc .shared (l.map mcv), .int .u8 (k : Nat)] (.bool true, none) := by
 have := orc5 (t := t) l (UInt8.ofNat k) fun d hd => okM_of (by have := bkMs_mem hd; omega)
 rwa [UInt8.toNat_ofNat_of_lt' hk] at this
theorem mrt_contract (H : Type) (enc : TypeId × Value → H) (W : World) (base : Nat) (args : Array Value) (ds gs : List (DataW H)) (before : List MemPlace)
  (hval : ∀ (j : Nat) t v, Tryz.f5.params[j]? = some t → args[j]? = some v → Value.okWide Tryz.prog W .any base t v)
  (hW : DataW.Whole enc Tryz.prog Tryz.f5.params.toList Rows.macroRoundTripSpec.vars false W args.toList ds gs before)
  (hsm : Rows.uptoSmall H (ds ++ gs) = true) (hL : laidMetH Tryz.prog LL W) :
  Calls Tryz.prog 5 args W fun e W' => ∃ v, e = .returned v ∧ Rows.macroRoundTripSpec.post enc Tryz.prog Tryz.f5 false true false false W args v W' := by
 have hW' := hW;obtain ⟨p, q, hA0, hV, rfl, hfz, hnd⟩ := hW;have hA : DataW.TrodAll enc Tryz.prog W 0 (fun _ => true) true Tryz.f5.params.toList args.toList ds p := hA0;rw [Tryz.params5] at hA hval;obtain ⟨v0, vs0, d0, ds0, p0, q0, hargs, rfl, rfl, k0, r0⟩ := trodAll_cons hA;obtain ⟨v1, vs1, d1, ds1, p1, q1, rfl, rfl, rfl, k1, r1⟩ := trodAll_cons r0;obtain ⟨rfl, rfl, rfl⟩ := trodAll_nil r1;obtain rfl : args = #[v0, v1] := by cases args; simp_all
 obtain ⟨rfl, rfl⟩ := trodVars_none hV;clear hA0 hA r0 r1;simp only [List.append_nil] at hW' hsm;have hlt0 : ∀ x ∈ p0, x.block < W.heap.size := fun x hx => by simpa using hW'.lt x (by simp [hx])
 have hlt1 : ∀ x ∈ p1, x.block < W.heap.size := fun x hx => by simpa using hW'.lt x (by simp [hx])
 have hu : Rows.uptoBulkAll [d0, d1] ≤ 1048576 := of_decide_eq_true hsm;simp only [Rows.uptoBulkAll] at hu;obtain ⟨f0, g0⟩ := k0;obtain ⟨x0, a0, b0⟩ := rd_macs g0;have kk1 := k1;obtain ⟨f1, g1⟩ := k1;obtain ⟨z1, rfl, hz1, hp1, hwf1⟩ := open_int Tryz.underlying5 (hval 1 5 v1 rfl rfl) kk1;subst hz1;have hz1 : 0 ≤ z1 ∧ z1 < 256 := by
  simp [Lit.wf, IntKind.min, IntKind.max, IntKind.signed, IntKind.bits] at hwf1;omega
 obtain ⟨x1, rfl⟩ : ∃ x : Nat, z1 = (x : Int) := ⟨z1.toNat, by omega⟩
 have hk1 : x1 < 256 := by omega
 have hV : RepV (U0 W) W [] [] [.slc .shared (x0.map mcv), .int .u8 (x1 : Nat)] [v0, .int .u8 (x1 : Int)] := by
  refine .cons ?_ (.cons ?_ .nil)
  ·exact arg_sl Tryz.underlying22 (by kernel_rfl) (hval 0 22 v0 rfl rfl) ⟨f0, g0⟩ a0
  ·exact .int
 obtain ⟨t, hG⟩ := grelG hL;have hb : bkMs x0 < big := by unfold big; omega
 refine Calls.mono (orc_lawG (orc5c x0 x1 hk1 hb) hG hV) fun e W' ⟨he, hnx⟩ => ?_;subst he;refine ⟨_, rfl, _, _, _, [], p0 ++ p1, [], hW', ?_, ?_, rfl, hnx.frame _, fun h => by cases h⟩
 ·exact trodAll_cons_mk (shut_bool Tryz.underlying4 _) trodAll_mk0
 ·have := trodAll_cons_mk (stays (by kernel_rfl) (of_decide_eq_true (by kernel_rfl)) ⟨f0, g0⟩ (fun x hx => hlt0 x hx) W' hnx) (trodAll_cons_mk (stays (by kernel_rfl) (of_decide_eq_true (by kernel_rfl)) ⟨f1, g1⟩ (fun x hx => hlt1 x hx) W' hnx) (trodAll_mk0));simp only [List.append_nil] at this
  first | exact this | (rw [← List.append_assoc] at this; exact this) | simpa only [List.append_assoc] using this
def mrtArgs : Array Value := #[.slice none 0 0, .int .u8 0]
theorem mrt_reads (os : Os) {H : Type} (enc : TypeId × Value → H) : ∃ places, DataW.whole enc Tryz.prog ((laidWorld os).forCall (fun _ _ => 0) ⟨#[], mrtArgs, []⟩).memory Tryz.f5.params.toList Rows.macroRoundTripSpec.vars false mrtArgs.toList 8 =
  some ([.nil, .lit (.int .u8 0)], [], places) :=
 ⟨[], by kernel_rfl⟩
theorem mrt_lifted (os : Os) (started : os.Started) (H : Type) (enc : TypeId × Value → H) (F : Stop.Interp) :
  ReturnsInHanded {} Tryz.checked os 5 .any ((Rows.OpenSpec.upto Rows.macroRoundTripSpec).preRow enc Tryz.prog Tryz.f5 Rows.macroRoundTripUptoRow.domain false Rows.macroRoundTripUptoRow.laid) (((Rows.OpenSpec.upto Rows.macroRoundTripSpec).at F).post enc Tryz.prog Tryz.f5 false true false false) := by
 obtain ⟨places, hx⟩ := mrt_reads os enc;refine returnsInHanded_of_row (C := Tryz.checked) (s := Rows.OpenSpec.upto Rows.macroRoundTripSpec) ownT started (by kernel_rfl) Tryz.func5
  (witness_row_atRef (enc := enc) (C := Tryz.checked) false (laidWorld os) mrtArgs rfl (wv os _) (wr os _) (by kernel_rfl)
   (OpenSpec.preRow_of_cond 8 hx (by kernel_rfl) (fun k hk => by cases hk; kernel_rfl) (by kernel_rfl) (laid_met os _))) ?_
 intro W base args ds gs before hval hW _ hcond _ hL _ _;exact mrt_contract H enc W base args ds gs before hval hW (hcond _ rfl) hL
theorem band {a b : Bool} (h : a = true) (k : b = true) : (a && b) = true := by rw [h, k]; rfl
theorem mrt_j1 : (Rows.macroRoundTripUptoRow.inPlace == Tryz.pinned.checked.prog.inPlace 5) = true := by kernel_rfl
theorem mrt_j2 : (Rows.macroRoundTripUptoRow.unfollowed == Tryz.pinned.checked.prog.unfollowed 5) = true := by kernel_rfl
theorem mrt_j3 : (Rows.macroRoundTripUptoRow.recurses == Tryz.pinned.checked.prog.recurses 5) = true := by kernel_rfl
theorem mrt_j4 : (Rows.macroRoundTripUptoRow.named == Tryz.pinned.checked.prog.varsNamed 5) = true := by kernel_rfl
theorem mrt_joined : joinedFacts Tryz.pinned.checked.prog 5 Tryz.f5 (Rows.OpenSpec.upto Rows.macroRoundTripSpec).bare Rows.macroRoundTripUptoRow = true := by
 unfold joinedFacts;exact (band (band (band (band (band (band (band (band (band (band (band (band (band (band (band (band (band (band (band (band (band (band (band (band (band (band (band (band (band (band (band (by kernel_rfl) (by kernel_rfl)) (by kernel_rfl)) (by kernel_rfl)) (by kernel_rfl)) (by kernel_rfl)) (by kernel_rfl)) (by kernel_rfl)) (by kernel_rfl)) mrt_j1) mrt_j2) mrt_j3) mrt_j4) (by kernel_rfl)) (by kernel_rfl)) (by kernel_rfl)) (by kernel_rfl)) (by kernel_rfl)) (by kernel_rfl)) (by kernel_rfl)) (by kernel_rfl)) (by kernel_rfl)) (by kernel_rfl)) (by kernel_rfl)) (by kernel_rfl)) (by kernel_rfl)) (by kernel_rfl)) (by kernel_rfl)) (by kernel_rfl)) (by kernel_rfl)) (by kernel_rfl)) (by kernel_rfl))
theorem mrt_said : Rows.MacroRoundTripUptoSaid :=
 OpenClaim.holds_of_cond 5 Tryz.f5 rfl rfl rfl rfl rfl rfl rfl ⟨rfl, rfl, rfl, rfl, rfl⟩ rfl rfl rfl rfl rfl (by kernel_rfl) Tryz.func5 mrt_joined
  (of_decide_eq_true (by kernel_rfl)) (by unfold Func.isWrapper; first | (rw [if_pos (by decide +kernel)]; kernel_rfl) | (rw [if_neg (by decide +kernel)]; exact ⟨rfl, rfl⟩))
  (fun os started H enc _ F => by rw [OpenClaim.pre_eq_preRow]; exact mrt_lifted os started H enc F)
theorem mrt_plain (f : FuncId) (fn : Func) (hf : Tryz.pinned.checked.prog.funcNamed "palmette/palmettelaw15.MacroRoundTrip" = some f) (hfn : Tryz.pinned.checked.prog.funcs[f]? = some fn) :
  true = Tryz.pinned.checked.prog.looks [] ∧ ∀ (j : Nat) t, fn.params[j]? = some t → Tryz.pinned.checked.prog.wantsStandIn t = false := by
 obtain rfl : f = 5 := Option.some.inj ((show Tryz.prog.funcNamed "palmette/palmettelaw15.MacroRoundTrip" = some 5 by kernel_rfl).symm.trans hf) |>.symm;obtain rfl : fn = Tryz.f5 := (Option.some.inj (Tryz.func5.symm.trans hfn)).symm;refine ⟨by kernel_rfl, fun j t ht => ?_⟩;rw [Tryz.params5] at ht;have ht' := Array.mem_of_getElem? ht;have h22 : Tryz.prog.wantsStandIn 22 = false := by kernel_rfl
 have h34 : Tryz.prog.wantsStandIn 34 = false := by kernel_rfl
 have h62 : Tryz.prog.wantsStandIn 62 = false := by kernel_rfl
 have h5 : Tryz.prog.wantsStandIn 5 = false := by kernel_rfl
 simp at ht';rcases ht' with rfl | rfl <;> first | exact h22 | exact h34 | exact h62 | exact h5
theorem mrt_card : Rows.MacroRoundTripUptoCardSaid :=
 Claim7.holds_tied_plain_at .later [] _ _ _ _ mrt_said (fun _ h => by cases h) (by kernel_rfl) (fun _ h => by cases h) macroRoundTripUpto_row_tie rfl ⟨rfl, rfl⟩ (by kernel_rfl) rfl mrt_plain (by kernel_rfl)
end Go.Proofs.YtjkmcceipabejaaGreatDoor
