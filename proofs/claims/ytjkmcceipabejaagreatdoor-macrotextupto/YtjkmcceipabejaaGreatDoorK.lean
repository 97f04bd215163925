/- The law MacroText (Format and Parse of a macro set return what the reference's Print and Parse return, with the index and the error of the first invalid definition; at most 5 macros with at most 30 nodes, texts of at most 2000 bytes, arguments of bulk at most 1048576). -/
import Derived.Test.YtjkmcceipabejaaGreatDoorI
import Derived.Test.YtjkmcceipabejaaGreatDoorCards
import Derived.Test.YtjkmcceipabejaaGreatDoorTie
set_option linter.unusedSimpArgs false
set_option linter.unusedVariables false
set_option linter.unusedSectionVars false
namespace Go.Proofs.YtjkmcceipabejaaGreatDoor
open Go Go.RowKit Go.ChangeShapes Go.WideShapes Go.ChangeAt
open Go.Proofs.Ae
set_option maxRecDepth 100000
theorem KA {t : Nat} (l : List Mc) (s : Str) (hb : kA l < big) : eX Tryz.prog (GG t) 4 [.slc .shared (l.map mcv), .str s] (.bool true, none) :=
 Sr l s fun d hd => Kh (by have := Bw hd; omega)
theorem KB (H : Type) (enc : TypeId × Value -> H) (W : World) (base : Nat) (args : Array Value) (ds gs : List (DataW H)) (before : List MemPlace)
  (hval : ∀ (j : Nat) t v, Tryz.f4.params[j]? = some t -> args[j]? = some v -> Value.okWide Tryz.prog W .any base t v)
  (hW : DataW.Whole enc Tryz.prog Tryz.f4.params.toList Rows.macroTextSpec.vars false W args.toList ds gs before)
  (hsm : Rows.uptoSmall H (ds ++ gs) = true) (hL : laidMetH Tryz.prog LL W) :
  Calls Tryz.prog 4 args W fun e W' => ∃ v, e = .returned v /\ Rows.macroTextSpec.post enc Tryz.prog Tryz.f4 false true false false W args v W' := by
 have hW' := hW;obtain ⟨p, q, hA0, hV, rfl, hfz, hnd⟩ := hW;have hA : DataW.TrodAll enc Tryz.prog W 0 (fun _ => true) true Tryz.f4.params.toList args.toList ds p := hA0;rw [Tryz.params4] at hA hval;obtain ⟨v0, vs0, d0, ds0, p0, q0, hargs, rfl, rfl, k0, r0⟩ := trodAll_cons hA;obtain ⟨v1, vs1, d1, ds1, p1, q1, rfl, rfl, rfl, k1, r1⟩ := trodAll_cons r0;obtain ⟨rfl, rfl, rfl⟩ := trodAll_nil r1;obtain rfl : args = #[v0, v1] := by cases args; simp_all
 obtain ⟨rfl, rfl⟩ := trodVars_none hV;clear hA0 hA r0 r1;simp only [List.append_nil] at hW' hsm;have hlt0 : ∀ x ∈ p0, x.block < W.heap.size := fun x hx => by simpa using hW'.lt x (by simp [hx])
 have hlt1 : ∀ x ∈ p1, x.block < W.heap.size := fun x hx => by simpa using hW'.lt x (by simp [hx])
 have hu : Rows.uptoBulkAll [d0, d1] <= 1048576 := of_decide_eq_true hsm;simp only [Rows.uptoBulkAll] at hu;obtain ⟨f0, g0⟩ := k0;obtain ⟨x0, a0, b0⟩ := Kk g0;have kk1 := k1;obtain ⟨f1, g1⟩ := k1;obtain ⟨z1, rfl⟩ := Go.WideShapes.okWide_string (P := Tryz.prog) Tryz.underlying9 (hval 1 9 v1 rfl rfl);obtain ⟨x1, rfl⟩ := uj Tryz.underlying9 g1;have hV : dU (U0 W) W [] [] [.slc .shared (x0.map mcv), .str x1] [v0, .string z1] := by
  refine .cons ?_ (.cons ?_ .nil)
  ·exact Kt Tryz.underlying22 (by kernel_rfl) (hval 0 22 v0 rfl rfl) ⟨f0, g0⟩ a0
  ·exact BB (t := 9) (by kernel_rfl) rfl ⟨f1, g1⟩ rfl rfl
 obtain ⟨t, hG⟩ := Kv hL;have hb : kA x0 < big := by unfold big; omega
 refine Calls.mono (Kw (KA x0 x1 hb) hG hV) fun e W' ⟨he, hnx⟩ => ?_;subst he;refine ⟨_, rfl, _, _, _, [], p0 ++ p1, [], hW', ?_, ?_, rfl, hnx.frame _, fun h => by cases h⟩
 ·exact trodAll_cons_mk (shut_bool Tryz.underlying4 _) trodAll_mk0
 ·have := trodAll_cons_mk (BC (by kernel_rfl) (of_decide_eq_true (by kernel_rfl)) ⟨f0, g0⟩ (fun x hx => hlt0 x hx) W' hnx) (trodAll_cons_mk (BC (by kernel_rfl) (of_decide_eq_true (by kernel_rfl)) ⟨f1, g1⟩ (fun x hx => hlt1 x hx) W' hnx) (trodAll_mk0));simp only [List.append_nil] at this
  first | exact this | (rw [<- List.append_assoc] at this; exact this) | simpa only [List.append_assoc] using this
def xh : Array Value := #[.slice none 0 0, .string ⟨#[]⟩]
theorem KC (os : Os) {H : Type} (enc : TypeId × Value -> H) : ∃ places, DataW.whole enc Tryz.prog ((rk os).forCall (fun _ _ => 0) ⟨#[], xh, []⟩).memory Tryz.f4.params.toList Rows.macroTextSpec.vars false xh.toList 8 =
  some ([.nil, .lit (.string [])], [], places) :=
 ⟨[], by kernel_rfl⟩
theorem KD (os : Os) (started : os.Started) (H : Type) (enc : TypeId × Value -> H) (F : Stop.Interp) :
  ReturnsInHanded {} Tryz.checked os 4 .any ((Rows.OpenSpec.upto Rows.macroTextSpec).preRow enc Tryz.prog Tryz.f4 Rows.macroTextUptoRow.domain false Rows.macroTextUptoRow.laid) (((Rows.OpenSpec.upto Rows.macroTextSpec).at F).post enc Tryz.prog Tryz.f4 false true false false) := by
 obtain ⟨places, hx⟩ := KC os enc;refine returnsInHanded_of_row (C := Tryz.checked) (s := Rows.OpenSpec.upto Rows.macroTextSpec) Ks started (by kernel_rfl) Tryz.func4
  (witness_row_atRef (enc := enc) (C := Tryz.checked) false (rk os) xh rfl (wv os _) (wr os _) (by kernel_rfl)
   (OpenSpec.preRow_of_cond 8 hx (by kernel_rfl) (fun k hk => by cases hk; kernel_rfl) (by kernel_rfl) (Kz os _))) ?_
 intro W base args ds gs before hval hW _ hcond _ hL _ _;exact KB H enc W base args ds gs before hval hW (hcond _ rfl) hL
theorem eZ {a b : Bool} (h : a = true) (k : b = true) : (a && b) = true := by rw [h, k]; rfl
theorem KE : (Rows.macroTextUptoRow.inPlace == Tryz.pinned.checked.prog.inPlace 4) = true := by kernel_rfl
theorem KF : (Rows.macroTextUptoRow.unfollowed == Tryz.pinned.checked.prog.unfollowed 4) = true := by kernel_rfl
theorem KG : (Rows.macroTextUptoRow.recurses == Tryz.pinned.checked.prog.recurses 4) = true := by kernel_rfl
theorem KH : (Rows.macroTextUptoRow.named == Tryz.pinned.checked.prog.varsNamed 4) = true := by kernel_rfl
theorem KI : joinedFacts Tryz.pinned.checked.prog 4 Tryz.f4 (Rows.OpenSpec.upto Rows.macroTextSpec).bare Rows.macroTextUptoRow = true := by
 unfold joinedFacts;exact (eZ (eZ (eZ (eZ (eZ (eZ (eZ (eZ (eZ (eZ (eZ (eZ (eZ (eZ (eZ (eZ (eZ (eZ (eZ (eZ (eZ (eZ (eZ (eZ (eZ (eZ (eZ (eZ (eZ (eZ (eZ (by kernel_rfl) (by kernel_rfl)) (by kernel_rfl)) (by kernel_rfl)) (by kernel_rfl)) (by kernel_rfl)) (by kernel_rfl)) (by kernel_rfl)) (by kernel_rfl)) KE) KF) KG) KH) (by kernel_rfl)) (by kernel_rfl)) (by kernel_rfl)) (by kernel_rfl)) (by kernel_rfl)) (by kernel_rfl)) (by kernel_rfl)) (by kernel_rfl)) (by kernel_rfl)) (by kernel_rfl)) (by kernel_rfl)) (by kernel_rfl)) (by kernel_rfl)) (by kernel_rfl)) (by kernel_rfl)) (by kernel_rfl)) (by kernel_rfl)) (by kernel_rfl)) (by kernel_rfl))
theorem KJ : Rows.MacroTextUptoSaid :=
 OpenClaim.holds_of_cond 4 Tryz.f4 rfl rfl rfl rfl rfl rfl rfl ⟨rfl, rfl, rfl, rfl, rfl⟩ rfl rfl rfl rfl rfl (by kernel_rfl) Tryz.func4 KI
  (of_decide_eq_true (by kernel_rfl)) (by unfold Func.isWrapper; first | (rw [if_pos (by decide +kernel)]; kernel_rfl) | (rw [if_neg (by decide +kernel)]; exact ⟨rfl, rfl⟩))
  (fun os started H enc _ F => by rw [OpenClaim.pre_eq_preRow]; exact KD os started H enc F)
theorem KK (f : FuncId) (fn : Func) (hf : Tryz.pinned.checked.prog.funcNamed "palmette/palmettelaw15.MacroText" = some f) (hfn : Tryz.pinned.checked.prog.funcs[f]? = some fn) :
  true = Tryz.pinned.checked.prog.looks [] /\ ∀ (j : Nat) t, fn.params[j]? = some t -> Tryz.pinned.checked.prog.wantsStandIn t = false := by
 obtain rfl : f = 4 := Option.some.inj ((show Tryz.prog.funcNamed "palmette/palmettelaw15.MacroText" = some 4 by kernel_rfl).symm.trans hf) |>.symm;obtain rfl : fn = Tryz.f4 := (Option.some.inj (Tryz.func4.symm.trans hfn)).symm;refine ⟨by kernel_rfl, fun j t ht => ?_⟩;rw [Tryz.params4] at ht;have ht' := Array.mem_of_getElem? ht;have h22 : Tryz.prog.wantsStandIn 22 = false := by kernel_rfl
 have h34 : Tryz.prog.wantsStandIn 34 = false := by kernel_rfl
 have h62 : Tryz.prog.wantsStandIn 62 = false := by kernel_rfl
 have h5 : Tryz.prog.wantsStandIn 9 = false := by kernel_rfl
 simp at ht';rcases ht' with rfl | rfl <;> first | exact h22 | exact h34 | exact h62 | exact h5
theorem mtx_card : Rows.MacroTextUptoCardSaid :=
 Claim7.holds_tied_plain_at .later [] _ _ _ _ KJ (fun _ h => by cases h) (by kernel_rfl) (fun _ h => by cases h) macroTextUpto_row_tie rfl ⟨rfl, rfl⟩ (by kernel_rfl) rfl KK (by kernel_rfl)
end Go.Proofs.YtjkmcceipabejaaGreatDoor
