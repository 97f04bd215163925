/- The law MacroClosed (an expanded question contains no call, and expanding it again, with any macro set, leaves it unchanged; arguments of bulk at most 1048576). -/
import Derived.Test.YtjkmcceipabejaaGreatDoorI
import Derived.Test.YtjkmcceipabejaaGreatDoorCards
import Derived.Test.YtjkmcceipabejaaGreatDoorTie
set_option linter.unusedSimpArgs false
set_option linter.unusedVariables false
set_option linter.unusedSectionVars false
namespace Go.Proofs.YtjkmcceipabejaaGreatDoor
open Go Go.RowKit Go.ChangeShapes Go.WideShapes Go.ChangeAt
open Go.Proofs.Ae
set_option maxRecDepth 100000
theorem orc6c {t : Nat} (l o : List Mc) (q : Qn) (hb : bkMs l + bkMs o + bkVs q.fr + bk q.bd < big) : OrcAt Tryz.prog (GG t) 6 [.slc .shared (l.map mcv), .slc .shared (o.map mcv), qsv q] (.bool true, none) :=
  orc6 l o q (fun d hd => okM_of (by have := bkMs_mem hd; omega)) (fun d hd => okM_of (by have := bkMs_mem hd; omega)) ⟨by have := bkVs_len q.fr; omega, fun v hv => by have := bkVs_mem hv; omega, by omega⟩
theorem mcl_contract (H : Type) (enc : TypeId × Value → H) (W : World) (base : Nat) (args : Array Value) (ds gs : List (DataW H)) (before : List MemPlace)
    (hval : ∀ (j : Nat) t v, Tryz.f6.params[j]? = some t → args[j]? = some v → Value.okWide Tryz.prog W .any base t v)
    (hW : DataW.Whole enc Tryz.prog Tryz.f6.params.toList Rows.macroClosedSpec.vars false W args.toList ds gs before)
    (hsm : Rows.uptoSmall H (ds ++ gs) = true) (hL : laidMetH Tryz.prog LL W) :
    Calls Tryz.prog 6 args W fun e W' => ∃ v, e = .returned v ∧ Rows.macroClosedSpec.post enc Tryz.prog Tryz.f6 false true false false W args v W' := by
  have hW' := hW
  obtain ⟨p, q, hA0, hV, rfl, hfz, hnd⟩ := hW
  have hA : DataW.TrodAll enc Tryz.prog W 0 (fun _ => true) true Tryz.f6.params.toList args.toList ds p := hA0
  rw [Tryz.params6] at hA hval
  obtain ⟨v0, vs0, d0, ds0, p0, q0, hargs, rfl, rfl, k0, r0⟩ := trodAll_cons hA
  obtain ⟨v1, vs1, d1, ds1, p1, q1, rfl, rfl, rfl, k1, r1⟩ := trodAll_cons r0
  obtain ⟨v2, vs2, d2, ds2, p2, q2, rfl, rfl, rfl, k2, r2⟩ := trodAll_cons r1
  obtain ⟨rfl, rfl, rfl⟩ := trodAll_nil r2
  obtain rfl : args = #[v0, v1, v2] := by cases args; simp_all
  obtain ⟨rfl, rfl⟩ := trodVars_none hV
  clear hA0 hA r0 r1 r2
  simp only [List.append_nil] at hW' hsm
  have hlt0 : ∀ x ∈ p0, x.block < W.heap.size := fun x hx => by simpa using hW'.lt x (by simp [hx])
  have hlt1 : ∀ x ∈ p1, x.block < W.heap.size := fun x hx => by simpa using hW'.lt x (by simp [hx])
  have hlt2 : ∀ x ∈ p2, x.block < W.heap.size := fun x hx => by simpa using hW'.lt x (by simp [hx])
  have hu : Rows.uptoBulkAll [d0, d1, d2] ≤ 1048576 := of_decide_eq_true hsm
  simp only [Rows.uptoBulkAll] at hu
  obtain ⟨f0, g0⟩ := k0
  obtain ⟨x0, a0, b0⟩ := rd_macs g0
  obtain ⟨f1, g1⟩ := k1
  obtain ⟨x1, a1, b1⟩ := rd_macs g1
  obtain ⟨f2, g2⟩ := k2
  obtain ⟨x2, a2, b2⟩ := rd_q g2
  have hV : RepV (U0 W) W [] [] [.slc .shared (x0.map mcv), .slc .shared (x1.map mcv), qsv x2] [v0, v1, v2] := by
    refine .cons ?_ (.cons ?_ (.cons ?_ .nil))
    · exact arg_sl Tryz.underlying22 (by kernel_rfl) (hval 0 22 v0 rfl rfl) ⟨f0, g0⟩ a0
    · exact arg_sl Tryz.underlying22 (by kernel_rfl) (hval 1 22 v1 rfl rfl) ⟨f1, g1⟩ a1
    · exact arg_st Tryz.underlying62 (by kernel_rfl) (hval 2 62 v2 rfl rfl) ⟨f2, g2⟩ a2
  obtain ⟨t, hG⟩ := grelG hL
  have hb : bkMs x0 + bkMs x1 + bkVs x2.fr + bk x2.bd < big := by unfold big; omega
  refine Calls.mono (orc_lawG (orc6c x0 x1 x2 hb) hG hV) fun e W' ⟨he, hnx⟩ => ?_
  subst he
  refine ⟨_, rfl, _, _, _, [], p0 ++ p1 ++ p2, [], hW', ?_, ?_, rfl, hnx.frame _, fun h => by cases h⟩
  · exact trodAll_cons_mk (shut_bool Tryz.underlying4 _) trodAll_mk0
  · have := trodAll_cons_mk (stays (by kernel_rfl) (of_decide_eq_true (by kernel_rfl)) ⟨f0, g0⟩ (fun x hx => hlt0 x hx) W' hnx) (trodAll_cons_mk (stays (by kernel_rfl) (of_decide_eq_true (by kernel_rfl)) ⟨f1, g1⟩ (fun x hx => hlt1 x hx) W' hnx) (trodAll_cons_mk (stays (by kernel_rfl) (of_decide_eq_true (by kernel_rfl)) ⟨f2, g2⟩ (fun x hx => hlt2 x hx) W' hnx) (trodAll_mk0)))
    simp only [List.append_nil] at this
    first | exact this | (rw [← List.append_assoc] at this; exact this) | simpa only [List.append_assoc] using this
def mclArgs : Array Value := #[.slice none 0 0, .slice none 0 0, .agg #[.slice none 0 0, .int .i64 0, .slice none 0 0, .int .i64 0, .int .i64 0, .int .i64 0, .slice none 0 0]]
theorem mcl_reads (os : Os) {H : Type} (enc : TypeId × Value → H) : ∃ places, DataW.whole enc Tryz.prog ((laidWorld os).forCall (fun _ _ => 0) ⟨#[], mclArgs, []⟩).memory Tryz.f6.params.toList Rows.macroClosedSpec.vars false mclArgs.toList 8 =
    some ([.nil, .nil, .agg [.nil, .agg [.lit (.int .i64 0), .nil, .lit (.int .i64 0), .lit (.int .i64 0), .lit (.int .i64 0), .nil]]], [], places) :=
  ⟨[], by kernel_rfl⟩
theorem mcl_lifted (os : Os) (started : os.Started) (H : Type) (enc : TypeId × Value → H) (F : Stop.Interp) :
    ReturnsInHanded {} Tryz.checked os 6 .any ((Rows.OpenSpec.upto Rows.macroClosedSpec).preRow enc Tryz.prog Tryz.f6 Rows.macroClosedUptoRow.domain false Rows.macroClosedUptoRow.laid) (((Rows.OpenSpec.upto Rows.macroClosedSpec).at F).post enc Tryz.prog Tryz.f6 false true false false) := by
  obtain ⟨places, hx⟩ := mcl_reads os enc
  refine returnsInHanded_of_row (C := Tryz.checked) (s := Rows.OpenSpec.upto Rows.macroClosedSpec) ownT started (by kernel_rfl) Tryz.func6
    (witness_row_atRef (enc := enc) (C := Tryz.checked) false (laidWorld os) mclArgs rfl (wv os _) (wr os _) (by kernel_rfl)
      (OpenSpec.preRow_of_cond 8 hx (by kernel_rfl) (fun k hk => by cases hk; kernel_rfl) (by kernel_rfl) (laid_met os _))) ?_
  intro W base args ds gs before hval hW _ hcond _ hL _ _
  exact mcl_contract H enc W base args ds gs before hval hW (hcond _ rfl) hL
theorem band {a b : Bool} (h : a = true) (k : b = true) : (a && b) = true := by rw [h, k]; rfl
theorem mcl_j1 : (Rows.macroClosedUptoRow.inPlace == Tryz.pinned.checked.prog.inPlace 6) = true := by kernel_rfl
theorem mcl_j2 : (Rows.macroClosedUptoRow.unfollowed == Tryz.pinned.checked.prog.unfollowed 6) = true := by kernel_rfl
theorem mcl_j3 : (Rows.macroClosedUptoRow.recurses == Tryz.pinned.checked.prog.recurses 6) = true := by kernel_rfl
theorem mcl_j4 : (Rows.macroClosedUptoRow.named == Tryz.pinned.checked.prog.varsNamed 6) = true := by kernel_rfl
theorem mcl_joined : joinedFacts Tryz.pinned.checked.prog 6 Tryz.f6 (Rows.OpenSpec.upto Rows.macroClosedSpec).bare Rows.macroClosedUptoRow = true := by
  unfold joinedFacts
  exact (band (band (band (band (band (band (band (band (band (band (band (band (band (band (band (band (band (band (band (band (band (band (band (band (band (band (band (band (band (band (band (by kernel_rfl) (by kernel_rfl)) (by kernel_rfl)) (by kernel_rfl)) (by kernel_rfl)) (by kernel_rfl)) (by kernel_rfl)) (by kernel_rfl)) (by kernel_rfl)) mcl_j1) mcl_j2) mcl_j3) mcl_j4) (by kernel_rfl)) (by kernel_rfl)) (by kernel_rfl)) (by kernel_rfl)) (by kernel_rfl)) (by kernel_rfl)) (by kernel_rfl)) (by kernel_rfl)) (by kernel_rfl)) (by kernel_rfl)) (by kernel_rfl)) (by kernel_rfl)) (by kernel_rfl)) (by kernel_rfl)) (by kernel_rfl)) (by kernel_rfl)) (by kernel_rfl)) (by kernel_rfl)) (by kernel_rfl))
theorem mcl_said : Rows.MacroClosedUptoSaid :=
  OpenClaim.holds_of_cond 6 Tryz.f6 rfl rfl rfl rfl rfl rfl rfl ⟨rfl, rfl, rfl, rfl, rfl⟩ rfl rfl rfl rfl rfl (by kernel_rfl) Tryz.func6 mcl_joined
    (of_decide_eq_true (by kernel_rfl)) (by unfold Func.isWrapper; first | (rw [if_pos (by decide +kernel)]; kernel_rfl) | (rw [if_neg (by decide +kernel)]; exact ⟨rfl, rfl⟩))
    (fun os started H enc _ F => by rw [OpenClaim.pre_eq_preRow]; exact mcl_lifted os started H enc F)
theorem mcl_plain (f : FuncId) (fn : Func) (hf : Tryz.pinned.checked.prog.funcNamed "palmette/palmettelaw15.MacroClosed" = some f) (hfn : Tryz.pinned.checked.prog.funcs[f]? = some fn) :
    true = Tryz.pinned.checked.prog.looks [] ∧ ∀ (j : Nat) t, fn.params[j]? = some t → Tryz.pinned.checked.prog.wantsStandIn t = false := by
  obtain rfl : f = 6 := Option.some.inj ((show Tryz.prog.funcNamed "palmette/palmettelaw15.MacroClosed" = some 6 by kernel_rfl).symm.trans hf) |>.symm
  obtain rfl : fn = Tryz.f6 := (Option.some.inj (Tryz.func6.symm.trans hfn)).symm
  refine ⟨by kernel_rfl, fun j t ht => ?_⟩
  rw [Tryz.params6] at ht
  have ht' := Array.mem_of_getElem? ht
  have h22 : Tryz.prog.wantsStandIn 22 = false := by kernel_rfl
  have h34 : Tryz.prog.wantsStandIn 34 = false := by kernel_rfl
  have h62 : Tryz.prog.wantsStandIn 62 = false := by kernel_rfl
  simp at ht'
  rcases ht' with rfl | rfl <;> first | exact h22 | exact h34 | exact h62
theorem mcl_card : Rows.MacroClosedUptoCardSaid :=
  Claim7.holds_tied_plain_at .later [] _ _ _ _ mcl_said (fun _ h => by cases h) (by kernel_rfl) (fun _ h => by cases h) macroClosedUpto_row_tie rfl ⟨rfl, rfl⟩ (by kernel_rfl) rfl mcl_plain (by kernel_rfl)
end Go.Proofs.YtjkmcceipabejaaGreatDoor
