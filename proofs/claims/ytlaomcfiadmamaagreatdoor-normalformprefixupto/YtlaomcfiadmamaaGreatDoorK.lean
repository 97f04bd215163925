/- NormalFormPrefix answers true and leaves its arguments as they were, for every node, every list of quantifiers and every operation, where the arguments hold together at most 1048576 values and letters, and the listed package variables hold what the text of the program lays. -/
import Derived.Test.YtlaomcfiadmamaaGreatDoorJ
import Derived.Test.YtlaomcfiadmamaaGreatDoorCards
import Derived.Test.YtlaomcfiadmamaaGreatDoorTie
/- NormalFormPrefix: the row, the card. -/
namespace Go.Proofs.YtlaomcfiadmamaaGreatDoor
open Go Go.RowKit Go.ChangeShapes Go.WideShapes Go.ChangeAt
open Go.Proofs.Ae
set_option linter.unusedSimpArgs false
set_option linter.unusedVariables false
set_option maxRecDepth 100000

theorem nfp_contract (H : Type) (enc : TypeId × Value → H) (W : World) (base : Nat) (args : Array Value) (ds gs : List (DataW H)) (before : List MemPlace)
    (hval : ∀ (j : Nat) t v, Tryz.f4.params[j]? = some t → args[j]? = some v → Value.okWide Tryz.prog W .any base t v)
    (hW : DataW.Whole enc Tryz.prog Tryz.f4.params.toList Rows.normalFormPrefixSpec.vars false W args.toList ds gs before)
    (hsm : Rows.uptoSmall H (ds ++ gs) = true) (hL : laidMetH Tryz.prog LL W) :
    Calls Tryz.prog 4 args W fun e W' => ∃ v, e = .returned v ∧ Rows.normalFormPrefixSpec.post enc Tryz.prog Tryz.f4 false true false false W args v W' := by
  have hW' := hW
  obtain ⟨p, q, hA0, hV, rfl, hfz, hnd⟩ := hW
  have hA : DataW.TrodAll enc Tryz.prog W 0 (fun _ => true) true Tryz.f4.params.toList args.toList ds p := hA0
  rw [Tryz.params4] at hA hval
  obtain ⟨v0, vs0, d0, ds0, p0, q0, hargs, rfl, rfl, k0, r0⟩ := trodAll_cons hA
  obtain ⟨v1, vs1, d1, ds1, p1, q1, rfl, rfl, rfl, k1, r1⟩ := trodAll_cons r0
  obtain ⟨v2, vs2, d2, ds2, p2, q2, rfl, rfl, rfl, k2, r2⟩ := trodAll_cons r1
  obtain ⟨rfl, rfl, rfl⟩ := trodAll_nil r2
  obtain rfl : args = #[v0, v1, v2] := by cases args; simp_all
  obtain ⟨rfl, rfl⟩ := trodVars_none hV
  clear hA0 hA r0 r1 r2
  simp only [List.append_nil] at hW' hsm
  have hlt : ∀ x ∈ p0 ++ (p1 ++ p2), x.block < W.heap.size := fun x hx => by simpa using hW'.lt x (by simpa using hx)
  have hu : Rows.uptoBulkAll [d0, d1, d2] ≤ 1048576 := of_decide_eq_true hsm
  simp only [Rows.uptoBulkAll] at hu
  obtain ⟨f0, g0⟩ := k0
  obtain ⟨f1, g1⟩ := k1
  obtain ⟨n, hn1, hn2⟩ := rd_node f0 g0
  obtain ⟨l, hl1, hl2⟩ := rd_quants g1
  obtain ⟨op, hop⟩ : ∃ op, d2 = .lit (.int .i64 op) := by
    obtain ⟨f2, g2⟩ := k2
    exact sh_int Tryz.underlying3 g2
  subst hop
  have hV : RepV (U0 W) W [] [] [av n, .slc .shared (l.map qv), .int .i64 op] [v0, v1, v2] := by
    refine .cons ?_ (.cons ?_ (.cons ?_ .nil))
    · cases n with
      | mk o ns s a b ll => exact arg_st Tryz.underlying25 (by kernel_rfl) (hval 0 25 v0 rfl rfl) ⟨f0, g0⟩ hn1
    · exact arg_sl Tryz.underlying38 (by kernel_rfl) (hval 1 38 v1 rfl rfl) ⟨f1, g1⟩ hl1
    · obtain ⟨z, rfl, hz, -⟩ := open_int Tryz.underlying3 (hval 2 3 v2 rfl rfl) k2
      cases hz
      exact .int
  have hb : bk n + bkQ l < big := by unfold big; omega
  have hll : l.length < big := by
    have : l.length ≤ bkQ l := by
      clear hl1 hl2 hV hb
      induction l with
      | nil => simp [bkQ]
      | cons x l ih => simp [bkQ]; omega
    unfold big; unfold big at hb; omega
  refine Calls.mono (orc_law (orc4 orc9 n l op hb hll) (grel hL) hV) fun e W' ⟨he, hnx⟩ => ?_
  subst he
  refine ⟨_, rfl, _, _, _, [], p0 ++ (p1 ++ p2), [], hW', ?_, ?_, rfl, hnx.frame _, fun h => by cases h⟩
  · exact trodAll_cons_mk (shut_bool Tryz.underlying4 _) trodAll_mk0
  · exact trodAll_mk3 (stays (by kernel_rfl) (of_decide_eq_true (by kernel_rfl)) ⟨f0, g0⟩ (fun x hx => hlt x (by simp [hx])) W' hnx) (stays (by kernel_rfl) (of_decide_eq_true (by kernel_rfl)) ⟨f1, g1⟩ (fun x hx => hlt x (by simp [hx])) W' hnx) (stays (by kernel_rfl) (of_decide_eq_true (by kernel_rfl)) k2 (fun x hx => hlt x (by simp [hx])) W' hnx)

def nfpArgs : Array Value := #[.agg #[.int .i64 0, .slice none 0 0, .int .i64 0, .int .i64 0, .int .i64 0, .slice none 0 0], .slice none 0 0, .int .i64 0]
theorem nfp_reads (os : Os) {H : Type} (enc : TypeId × Value → H) : ∃ places, DataW.whole enc Tryz.prog ((laidWorld os).forCall (fun _ _ => 0) ⟨#[], nfpArgs, []⟩).memory Tryz.f4.params.toList Rows.normalFormPrefixSpec.vars false nfpArgs.toList 8 =
    some ([.agg [.lit (.int .i64 0), .nil, .lit (.int .i64 0), .lit (.int .i64 0), .lit (.int .i64 0), .nil], .nil, .lit (.int .i64 0)], [], places) :=
  ⟨[], by kernel_rfl⟩
theorem nfp_lifted (os : Os) (started : os.Started) (H : Type) (enc : TypeId × Value → H) (F : Stop.Interp) :
    ReturnsInHanded {} Tryz.checked os 4 .any ((Rows.OpenSpec.upto Rows.normalFormPrefixSpec).preRow enc Tryz.prog Tryz.f4 Rows.normalFormPrefixUptoRow.domain false Rows.normalFormPrefixUptoRow.laid) (((Rows.OpenSpec.upto Rows.normalFormPrefixSpec).at F).post enc Tryz.prog Tryz.f4 false true false false) := by
  obtain ⟨places, hx⟩ := nfp_reads os enc
  refine returnsInHanded_of_row (C := Tryz.checked) (s := Rows.OpenSpec.upto Rows.normalFormPrefixSpec) ownT started (by kernel_rfl) Tryz.func4
    (witness_row_atRef (enc := enc) (C := Tryz.checked) false (laidWorld os) nfpArgs rfl (wv os _) (wr os _) (by kernel_rfl)
      (OpenSpec.preRow_of_cond 8 hx (by kernel_rfl) (fun k hk => by cases hk; kernel_rfl) (by kernel_rfl) (laid_met os _))) ?_
  intro W base args ds gs before hval hW _ hcond _ hL _ _
  exact nfp_contract H enc W base args ds gs before hval hW (hcond _ rfl) hL
theorem nfp_said : Rows.NormalFormPrefixUptoSaid :=
  OpenClaim.holds_of_cond 4 Tryz.f4 rfl rfl rfl rfl rfl rfl rfl ⟨rfl, rfl, rfl, rfl, rfl⟩ rfl rfl rfl rfl rfl (by kernel_rfl) Tryz.func4 (by kernel_rfl)
    (of_decide_eq_true (by kernel_rfl)) (by unfold Func.isWrapper; first | (rw [if_pos (by decide +kernel)]; kernel_rfl) | (rw [if_neg (by decide +kernel)]; exact ⟨rfl, rfl⟩))
    (fun os started H enc _ F => by rw [OpenClaim.pre_eq_preRow]; exact nfp_lifted os started H enc F)
theorem nfp_plain (f : FuncId) (fn : Func) (hf : Tryz.pinned.checked.prog.funcNamed "palmette/palmettelaw14.NormalFormPrefix" = some f) (hfn : Tryz.pinned.checked.prog.funcs[f]? = some fn) :
    true = Tryz.pinned.checked.prog.looks [] ∧ ∀ (j : Nat) t, fn.params[j]? = some t → Tryz.pinned.checked.prog.wantsStandIn t = false := by
  obtain rfl : f = 4 := Option.some.inj ((show Tryz.prog.funcNamed "palmette/palmettelaw14.NormalFormPrefix" = some 4 by kernel_rfl).symm.trans hf) |>.symm
  obtain rfl : fn = Tryz.f4 := (Option.some.inj (Tryz.func4.symm.trans hfn)).symm
  refine ⟨by kernel_rfl, fun j t ht => ?_⟩
  rw [Tryz.params4] at ht
  have ht' : t = 25 ∨ t = 38 ∨ t = 3 := by simpa using Array.mem_of_getElem? ht
  rcases ht' with rfl | rfl | rfl
  · exact (show Tryz.prog.wantsStandIn 25 = false by kernel_rfl)
  · exact (show Tryz.prog.wantsStandIn 38 = false by kernel_rfl)
  · exact (show Tryz.prog.wantsStandIn 3 = false by kernel_rfl)
theorem nfp_card : Rows.NormalFormPrefixUptoCardSaid :=
  Claim7.holds_tied_plain_at .later [] _ _ _ _ nfp_said (fun _ h => by cases h) (by kernel_rfl) (fun _ h => by cases h) normalFormPrefixUpto_row_tie rfl ⟨rfl, rfl⟩ (by kernel_rfl) rfl nfp_plain (by kernel_rfl)
end Go.Proofs.YtlaomcfiadmamaaGreatDoor
