/- Further functions: what they answer, and what that means. -/
import Derived.Test.YtlaomcfiadmamaaGreatDoorN
set_option linter.unusedSimpArgs false
set_option linter.unusedVariables false
set_option linter.unusedSectionVars false
namespace Go.Proofs.Ae
open Go Go.RowKit
mutual
def nnfB : Nd → Bool
  | .mk o _ _ _ _ l => if o = 14 ∨ o = 15 then false else if o = 11 then (decide (l.length = 1) && (match l with | x :: _ => decide (x.op < 11) | [] => false) && nnfBL l) else nnfBL l
def nnfBL : List Nd → Bool
  | [] => true
  | x :: xs => nnfB x && nnfBL xs
end
mutual
def qtf : Nd → Bool
  | .mk o _ _ _ _ l => qtfL l || decide (16 ≤ o)
def qtfL : List Nd → Bool
  | [] => false
  | x :: xs => qtf x || qtfL xs
end
section
variable {G : Nat → Option AV} {cl : Caller} {yl : Nat → List AV → Mem → Option (AV × Mem)} {N : Nat}
end
structure Bd where
  nm : Str
  el : Bool
def bvv (b : Bd) : AV := .agg [.str b.nm, .bool b.el]
@[simp] theorem szOk_bvv (b : Bd) (l : List AV) : szOk 2 (bvv b :: l) = true := rfl
@[simp] theorem szOk_bvvs (l : List Bd) : szOk 2 (l.map bvv) = true := by cases l <;> rfl
@[simp] theorem pureV_bvv (b : Bd) : pureV (bvv b) = some (bvv b) := rfl
@[simp] theorem cells_bvv (b : Bd) : cells (bvv b) = some [.str b.nm, .bool b.el] := rfl
def hitB (s : Str) (b : Bd) : Option Bool := if b.nm == s then some b.el else none
def wasE (env : List Bd) (s : Str) : Bool := (env.reverse.findSome? (hitB s)).getD false
section
variable {G : Nat → Option AV} {cl : Caller} {yl : Nat → List AV → Mem → Option (AV × Mem)} {N N0 : Nat}
def ts115 (e : AV) (s : Str) : Slots := [(8, .fn 165 [] [.ptr 2 0]), (7, e), (4, .ptr 1 0), (3, .ptr 0 0), (0, e), (1, .str s)]
def M115 (e : AV) (s : Str) : Mem := ⟨[.cells [.str s], .cells [.bool false], .cells [e], .mark, .loop true none (ts115 e s) [9, 10] c115r0a c115r0b], []⟩
def M115r (e : AV) (s : Str) (r : Bool) (b : Bd) : Mem := ⟨[.cells [.str s], .cells [.bool r], .cells [e], .mark, .loop false (some .ret) (ts115 e s) [9, 10] c115r0a c115r0b, .cells [.str b.nm, .bool b.el]], []⟩
theorem yield115 (e : AV) (s : Str) (i : Int) (b : Bd) : yieldA G false cl yl N 4 [.int .i64 i, bvv b] (M115 e s) = (match hitB s b with
    | none => some (.bool true, ⟨(M115 e s).objs ++ [.cells [.str b.nm, .bool b.el]], []⟩)
    | some r => some (.bool false, M115r e s r b)) := by
  unfold hitB
  cases h : b.nm == s with
  | true =>
    simp -implicitDefEqProofs [yieldA, M115, M115r, ts115, c115r0a, c115r0b, setPs, strA, h]
  | false =>
    simp -implicitDefEqProofs [yieldA, M115, M115r, ts115, c115r0a, c115r0b, setPs, strA, h]
theorem ev165_loop (sp : Bool) (env : List Bd) (s : Str) (hl : env.length < big) (hN : env.length < N)
    (hy : ∀ (i : Int) (b : Bd), yl 4 [.int .i64 i, bvv b] (M115 (.slc (nfl sp) (env.map bvv)) s) = (match hitB s b with
      | none => some (.bool true, ⟨(M115 (.slc (nfl sp) (env.map bvv)) s).objs ++ [.cells [.str b.nm, .bool b.el]], []⟩)
      | some r => some (.bool false, M115r (.slc (nfl sp) (env.map bvv)) s r b))) :
    match env.reverse.findSome? (hitB s) with
    | none => iter false (evalC G false cl yl N0 c165b0) ⟨[0, 1, 3], [(3, none)]⟩ 5 0 N ⟨[(0, .yld 4), (1, .ptr 2 0), (3, .int .i64 (ix env.length 0))], M115 (.slc (nfl sp) (env.map bvv)) s, []⟩ =
        some (.exit 0, ⟨[(8, .bool false), (7, .int .i64 (ix env.length env.length)), (0, .yld 4), (1, .ptr 2 0), (3, .int .i64 (ix env.length env.length))], M115 (.slc (nfl sp) (env.map bvv)) s, []⟩)
    | some r => ∃ e s', iter false (evalC G false cl yl N0 c165b0) ⟨[0, 1, 3], [(3, none)]⟩ 5 0 N ⟨[(0, .yld 4), (1, .ptr 2 0), (3, .int .i64 (ix env.length 0))], M115 (.slc (nfl sp) (env.map bvv)) s, []⟩ = some (e, s') ∧ e ≠ .normal ∧ (e = .ret ∧ s'.mks = [] ∧ ∃ b, s'.m = M115r (.slc (nfl sp) (env.map bvv)) s r b) := by
  unfold big at hl
  have hrl : env.reverse.length = env.length := List.length_reverse
  have h := iter_find (mu := false) (step := evalC G false cl yl N0 c165b0) (an := ⟨[0, 1, 3], [(3, none)]⟩) (k := 5) (m := 0) (N := N) env.reverse (hitB s)
    (fun j => ⟨[(0, .yld 4), (1, .ptr 2 0), (3, .int .i64 (ix env.length j))], M115 (.slc (nfl sp) (env.map bvv)) s, []⟩)
    (fun r e s' => e = .ret ∧ s'.mks = [] ∧ ∃ b, s'.m = M115r (.slc (nfl sp) (env.map bvv)) s r b) (.exit 0)
    ⟨[(8, .bool false), (7, .int .i64 (ix env.length env.length)), (0, .yld 4), (1, .ptr 2 0), (3, .int .i64 (ix env.length env.length))], M115 (.slc (nfl sp) (env.map bvv)) s, []⟩ (by rw [hrl]; exact hN) (by simp) ?_ ?_
  · cases hf : env.reverse.findSome? (hitB s) with
    | none => rw [hf] at h; exact h
    | some r => rw [hf] at h; exact h
  · intro j x hx hj
    rw [hrl] at hj
    obtain ⟨i, hi⟩ : ∃ i, env.length = j + 1 + i := ⟨env.length - j - 1, by omega⟩
    have hil : i < env.length := by omega
    have e1 : ix env.length j = (i : Int) := by unfold ix; omega
    have w1 : wrapF .i64 ((i : Int) - 1) = ix env.length (j + 1) := by rw [wrap_id (by omega) (by omega)]; unfold ix; omega
    have hxi : env[i]? = some x := by
      rw [List.getElem?_reverse hj] at hx
      rw [← hx]
      congr 1
      omega
    have hx' := (List.getElem?_eq_some_iff.1 hxi).2
    have hp : (0 : Int) ≤ (i : Int) := by omega
    have hy' := hy (i : Int) x
    have hld : (M115 (.slc (nfl sp) (env.map bvv)) s).objs[2]? = some (.cells [.slc (nfl sp) (env.map bvv)]) := rfl
    have hq : AV.agg [.str x.nm, .bool x.el] = bvv x := rfl
    have hsc := nfl_scr sp 5 0 (env.map bvv)
    cases hh : hitB s x with
    | none =>
      rw [hh] at hy'
      simp only at hy'
      simp -implicitDefEqProofs [c165b0, e1, w1, hp, hil, hld, hx', hq, hy']
      simp [M115, ts115, scrT, hsc]
    | some r =>
      rw [hh] at hy'
      simp only at hy'
      simp -implicitDefEqProofs [c165b0, e1, w1, hp, hil, hld, hx', hq, hy']
      exact ⟨x, rfl⟩
  · rw [hrl]
    have e1 : decide (ix env.length env.length ≥ 0) = false := by simp [ix]; omega
    simp -implicitDefEqProofs [c165b0, e1]
theorem ev115 {orc : Nat → List AV → Ores} (sp : Bool) (env : List Bd) (s : Str) (hl : env.length < big) (hN : env.length < N) (h148 : ∀ ags, orcW orc 148 ags = none) (h165 : ∀ ags, orcW orc 165 ags = none) :
    pureA G false (BW G orc N 3) (YW G orc N 3) N c115 [.slc (nfl sp) (env.map bvv), .str s] = some (.bool (wasE env s), none) := by
  have hav : argV (.slc (nfl sp) (env.map bvv)) = some (.slc (nfl sp) (env.map bvv)) := by cases sp <;> rfl
  have b148 : ∀ M : Mem, BW G orc N 3 148 [.slc (nfl sp) (env.map bvv)] M = some (.fn 165 [] [.ptr M.objs.length 0], ⟨M.objs ++ [.cells [.slc (nfl sp) (env.map bvv)]], M.arrs⟩) := by
    intro M
    rw [bw_call (h148 _) (cf := c148) rfl rfl rfl]
    simp -implicitDefEqProofs [c148]
  have l1 := ev165_loop (G := G) (cl := BW G orc N 2) (yl := YW G orc N 2) (N := N) (N0 := N) sp env s hl hN (fun i b => yield115 (G := G) (cl := BW G orc N 1) (yl := YW G orc N 1) (N := N) _ s i b)
  have w0 : wrapF .i64 ((env.length : Int) - 1) = ix env.length 0 := by unfold big at hl; rw [wrap_id (by omega) (by omega)]; simp [ix]
  have b165 : ∃ M, BW G orc N 3 165 [.yld 4, .ptr 2 0] (M115 (.slc (nfl sp) (env.map bvv)) s) = some (.tup [], M) ∧ (M = M115 (.slc (nfl sp) (env.map bvv)) s ∧ wasE env s = false ∨ ∃ b, M = M115r (.slc (nfl sp) (env.map bvv)) s (wasE env s) b) := by
    rw [bw_call (h165 _) (cf := c165) rfl rfl rfl]
    unfold wasE
    have hsc := nfl_scr sp 5 0 (env.map bvv)
    cases hf : env.reverse.findSome? (hitB s) with
    | none =>
      rw [hf] at l1
      simp only at l1
      refine ⟨_, ?_, .inl ⟨rfl, rfl⟩⟩
      simp [M115, ts115] at l1
      simp -implicitDefEqProofs [c165, M115, ts115, scrT, hsc, w0, l1]
    | some r =>
      rw [hf] at l1
      obtain ⟨e, s', q1, -, rfl, q2, b, q3⟩ := l1
      refine ⟨_, ?_, .inr ⟨b, rfl⟩⟩
      simp [M115, ts115] at q1
      simp -implicitDefEqProofs [c165, M115, ts115, scrT, hsc, w0, q1, q2, q3]
  obtain ⟨M, hb, hM⟩ := b165
  simp [M115, ts115] at hb
  rcases hM with ⟨rfl, hw⟩ | ⟨b, rfl⟩
  · rw [hw]
    simp -implicitDefEqProofs [c115, c_rng', hav, b148, hb, M115]
  · simp -implicitDefEqProofs [c115, c_rng', hav, b148, hb, M115r]
end
def sg (x : Str) : Nd := .mk 9 [x] 0 0 0 []
def setA (env : List Bd) (n : Nd) : Nd := match n.ns with
  | [x, y] => if n.op = 3 ∧ wasE env x = true then .mk 4 [x, y] n.so n.nn n.mm n.l
    else if n.op = 2 ∧ wasE env x ≠ wasE env y then (if wasE env y then nd 12 [sg y, .mk 3 [x, y] 0 0 0 []] else nd 12 [sg x, .mk 3 [y, x] 0 0 0 []]) else n
  | _ => n
section
variable {G : Nat → Option AV} {cl : Caller} {yl : Nat → List AV → Mem → Option (AV × Mem)} {N N0 : Nat}
theorem ev114 (n : Nd) (e : AV) (i : Nat) (x : Str) (hx : n.ns[i]? = some x) (os : List Obj) (h0 : os[0]? = some (.cells (ndc n))) (h1 : os[1]? = some (.cells [e])) (b : Bool) (h115 : ∀ M, cl 115 [e, .str x] M = some (.bool b, M)) :
    callA G false cl yl N c114 [.int .i64 i, .ptr 1 0, .ptr 0 0] ⟨os, []⟩ = some (.bool b, ⟨os, []⟩) := by
  obtain ⟨hil, hx'⟩ := List.getElem?_eq_some_iff.1 hx
  have hp : (0 : Int) ≤ (i : Int) := by omega
  match os, h0, h1 with
  | o0 :: o1 :: os, h0, h1 =>
    simp at h0 h1
    subst h0 h1
    simp -implicitDefEqProofs [c114, hil, hx', hp, h115]
def C114 (cl : Caller) (n : Nd) (e : AV) (env : List Bd) : Prop := ∀ (i : Nat) (x : Str), n.ns[i]? = some x → ∀ os : List Obj, os[0]? = some (.cells (ndc n)) → os[1]? = some (.cells [e]) → cl 114 [.int .i64 i, .ptr 1 0, .ptr 0 0] ⟨os, []⟩ = some (.bool (wasE env x), ⟨os, []⟩)
theorem ev71a (x y : Str) (S : Sp) (es : List AV) (hav : argV (.slc S es) = some (.slc S es)) (h75 : C75 cl) (h51 : ∀ M, cl 51 [(.agg [.int .i64 3, .slc .shared [.str x, .str y], .int .i64 0, .int .i64 0, .int .i64 0, .slc .shared []])] M = some ((.agg [.int .i64 3, .slc .shared [.str x, .str y], .int .i64 0, .int .i64 0, .int .i64 0, .slc .shared []]), M)) (r0 : ∀ o2, cl 114 [.int .i64 0, .ptr 1 0, .ptr 0 0] ⟨[.cells [.int .i64 3, .slc .shared [.str x, .str y], .int .i64 0, .int .i64 0, .int .i64 0, .slc .shared []], .cells [.slc S es], o2], []⟩ = some (.bool true, ⟨[.cells [.int .i64 3, .slc .shared [.str x, .str y], .int .i64 0, .int .i64 0, .int .i64 0, .slc .shared []], .cells [.slc S es], o2], []⟩)) :
    pureA G false cl yl N c71 [(.agg [.int .i64 3, .slc .shared [.str x, .str y], .int .i64 0, .int .i64 0, .int .i64 0, .slc .shared []]), .slc S es] = some ((.agg [.int .i64 4, .slc .shared [.str x, .str y], .int .i64 0, .int .i64 0, .int .i64 0, .slc .shared []]), none) := by
  simp -implicitDefEqProofs [c71, hav, h51, r0]
theorem ev71b (x y : Str) (S : Sp) (es : List AV) (hav : argV (.slc S es) = some (.slc S es)) (h75 : C75 cl) (h51 : ∀ M, cl 51 [(.agg [.int .i64 2, .slc .shared [.str x, .str y], .int .i64 0, .int .i64 0, .int .i64 0, .slc .shared []])] M = some ((.agg [.int .i64 2, .slc .shared [.str x, .str y], .int .i64 0, .int .i64 0, .int .i64 0, .slc .shared []]), M)) (r0 : ∀ o2, cl 114 [.int .i64 0, .ptr 1 0, .ptr 0 0] ⟨[.cells [.int .i64 2, .slc .shared [.str x, .str y], .int .i64 0, .int .i64 0, .int .i64 0, .slc .shared []], .cells [.slc S es], o2], []⟩ = some (.bool false, ⟨[.cells [.int .i64 2, .slc .shared [.str x, .str y], .int .i64 0, .int .i64 0, .int .i64 0, .slc .shared []], .cells [.slc S es], o2], []⟩)) (r1 : ∀ o2, cl 114 [.int .i64 1, .ptr 1 0, .ptr 0 0] ⟨[.cells [.int .i64 2, .slc .shared [.str x, .str y], .int .i64 0, .int .i64 0, .int .i64 0, .slc .shared []], .cells [.slc S es], o2], []⟩ = some (.bool false, ⟨[.cells [.int .i64 2, .slc .shared [.str x, .str y], .int .i64 0, .int .i64 0, .int .i64 0, .slc .shared []], .cells [.slc S es], o2], []⟩)) :
    pureA G false cl yl N c71 [(.agg [.int .i64 2, .slc .shared [.str x, .str y], .int .i64 0, .int .i64 0, .int .i64 0, .slc .shared []]), .slc S es] = some ((.agg [.int .i64 2, .slc .shared [.str x, .str y], .int .i64 0, .int .i64 0, .int .i64 0, .slc .shared []]), none) := by
  simp -implicitDefEqProofs [c71, hav, h51, r0, r1]
theorem ev71c (x y : Str) (S : Sp) (es : List AV) (hav : argV (.slc S es) = some (.slc S es)) (h75 : C75 cl) (h51 : ∀ M, cl 51 [(.agg [.int .i64 2, .slc .shared [.str x, .str y], .int .i64 0, .int .i64 0, .int .i64 0, .slc .shared []])] M = some ((.agg [.int .i64 2, .slc .shared [.str x, .str y], .int .i64 0, .int .i64 0, .int .i64 0, .slc .shared []]), M)) (r0 : ∀ o2, cl 114 [.int .i64 0, .ptr 1 0, .ptr 0 0] ⟨[.cells [.int .i64 2, .slc .shared [.str x, .str y], .int .i64 0, .int .i64 0, .int .i64 0, .slc .shared []], .cells [.slc S es], o2], []⟩ = some (.bool true, ⟨[.cells [.int .i64 2, .slc .shared [.str x, .str y], .int .i64 0, .int .i64 0, .int .i64 0, .slc .shared []], .cells [.slc S es], o2], []⟩)) (r1 : ∀ o2, cl 114 [.int .i64 1, .ptr 1 0, .ptr 0 0] ⟨[.cells [.int .i64 2, .slc .shared [.str x, .str y], .int .i64 0, .int .i64 0, .int .i64 0, .slc .shared []], .cells [.slc S es], o2], []⟩ = some (.bool true, ⟨[.cells [.int .i64 2, .slc .shared [.str x, .str y], .int .i64 0, .int .i64 0, .int .i64 0, .slc .shared []], .cells [.slc S es], o2], []⟩)) :
    pureA G false cl yl N c71 [(.agg [.int .i64 2, .slc .shared [.str x, .str y], .int .i64 0, .int .i64 0, .int .i64 0, .slc .shared []]), .slc S es] = some ((.agg [.int .i64 2, .slc .shared [.str x, .str y], .int .i64 0, .int .i64 0, .int .i64 0, .slc .shared []]), none) := by
  simp -implicitDefEqProofs [c71, hav, h51, r0, r1]
theorem ev71d (x y : Str) (S : Sp) (es : List AV) (hav : argV (.slc S es) = some (.slc S es)) (h75 : C75 cl) (h51 : ∀ M, cl 51 [(.agg [.int .i64 3, .slc .shared [.str x, .str y], .int .i64 0, .int .i64 0, .int .i64 0, .slc .shared []])] M = some ((.agg [.int .i64 3, .slc .shared [.str x, .str y], .int .i64 0, .int .i64 0, .int .i64 0, .slc .shared []]), M)) (r0 : ∀ o2, cl 114 [.int .i64 0, .ptr 1 0, .ptr 0 0] ⟨[.cells [.int .i64 3, .slc .shared [.str x, .str y], .int .i64 0, .int .i64 0, .int .i64 0, .slc .shared []], .cells [.slc S es], o2], []⟩ = some (.bool false, ⟨[.cells [.int .i64 3, .slc .shared [.str x, .str y], .int .i64 0, .int .i64 0, .int .i64 0, .slc .shared []], .cells [.slc S es], o2], []⟩)) :
    pureA G false cl yl N c71 [(.agg [.int .i64 3, .slc .shared [.str x, .str y], .int .i64 0, .int .i64 0, .int .i64 0, .slc .shared []]), .slc S es] = some ((.agg [.int .i64 3, .slc .shared [.str x, .str y], .int .i64 0, .int .i64 0, .int .i64 0, .slc .shared []]), none) := by
  simp -implicitDefEqProofs [c71, hav, h51, r0]
theorem ev71e (x y : Str) (S : Sp) (es : List AV) (hav : argV (.slc S es) = some (.slc S es)) (h75 : C75 cl) (h51 : ∀ M, cl 51 [(.agg [.int .i64 2, .slc .shared [.str x, .str y], .int .i64 0, .int .i64 0, .int .i64 0, .slc .shared []])] M = some ((.agg [.int .i64 2, .slc .shared [.str x, .str y], .int .i64 0, .int .i64 0, .int .i64 0, .slc .shared []]), M)) (r0 : ∀ o2, cl 114 [.int .i64 0, .ptr 1 0, .ptr 0 0] ⟨[.cells [.int .i64 2, .slc .shared [.str x, .str y], .int .i64 0, .int .i64 0, .int .i64 0, .slc .shared []], .cells [.slc S es], o2], []⟩ = some (.bool false, ⟨[.cells [.int .i64 2, .slc .shared [.str x, .str y], .int .i64 0, .int .i64 0, .int .i64 0, .slc .shared []], .cells [.slc S es], o2], []⟩)) (r1 : ∀ o2, cl 114 [.int .i64 1, .ptr 1 0, .ptr 0 0] ⟨[.cells [.int .i64 2, .slc .shared [.str x, .str y], .int .i64 0, .int .i64 0, .int .i64 0, .slc .shared []], .cells [.slc S es], o2], []⟩ = some (.bool true, ⟨[.cells [.int .i64 2, .slc .shared [.str x, .str y], .int .i64 0, .int .i64 0, .int .i64 0, .slc .shared []], .cells [.slc S es], o2], []⟩)) :
    pureA G false cl yl N c71 [(.agg [.int .i64 2, .slc .shared [.str x, .str y], .int .i64 0, .int .i64 0, .int .i64 0, .slc .shared []]), .slc S es] = some (av (nd 12 [sg y, .mk 3 [x, y] 0 0 0 []]), none) := by
  have k := fun M => c75_2 h75 12 (sg y) (.mk 3 [x, y] 0 0 0 []) M
  have ea : ∀ o s, av (.mk o s 0 0 0 []) = .agg [.int .i64 o, .slc .shared (s.map .str), .int .i64 0, .int .i64 0, .int .i64 0, .slc .shared []] := fun _ _ => rfl
  refine pureA_av (by simp [hav]) ?_
  simp only [sg, ea, List.map] at k
  simp -implicitDefEqProofs [c71, h51, r0, r1, k, sg]
theorem ev71f (x y : Str) (S : Sp) (es : List AV) (hav : argV (.slc S es) = some (.slc S es)) (h75 : C75 cl) (h51 : ∀ M, cl 51 [(.agg [.int .i64 2, .slc .shared [.str x, .str y], .int .i64 0, .int .i64 0, .int .i64 0, .slc .shared []])] M = some ((.agg [.int .i64 2, .slc .shared [.str x, .str y], .int .i64 0, .int .i64 0, .int .i64 0, .slc .shared []]), M)) (r0 : ∀ o2, cl 114 [.int .i64 0, .ptr 1 0, .ptr 0 0] ⟨[.cells [.int .i64 2, .slc .shared [.str x, .str y], .int .i64 0, .int .i64 0, .int .i64 0, .slc .shared []], .cells [.slc S es], o2], []⟩ = some (.bool true, ⟨[.cells [.int .i64 2, .slc .shared [.str x, .str y], .int .i64 0, .int .i64 0, .int .i64 0, .slc .shared []], .cells [.slc S es], o2], []⟩)) (r1 : ∀ o2, cl 114 [.int .i64 1, .ptr 1 0, .ptr 0 0] ⟨[.cells [.int .i64 2, .slc .shared [.str x, .str y], .int .i64 0, .int .i64 0, .int .i64 0, .slc .shared []], .cells [.slc S es], o2], []⟩ = some (.bool false, ⟨[.cells [.int .i64 2, .slc .shared [.str x, .str y], .int .i64 0, .int .i64 0, .int .i64 0, .slc .shared []], .cells [.slc S es], o2], []⟩)) :
    pureA G false cl yl N c71 [(.agg [.int .i64 2, .slc .shared [.str x, .str y], .int .i64 0, .int .i64 0, .int .i64 0, .slc .shared []]), .slc S es] = some (av (nd 12 [sg x, .mk 3 [y, x] 0 0 0 []]), none) := by
  have k := fun M => c75_2 h75 12 (sg x) (.mk 3 [y, x] 0 0 0 []) M
  have ea : ∀ o s, av (.mk o s 0 0 0 []) = .agg [.int .i64 o, .slc .shared (s.map .str), .int .i64 0, .int .i64 0, .int .i64 0, .slc .shared []] := fun _ _ => rfl
  refine pureA_av (by simp [hav]) ?_
  simp only [sg, ea, List.map] at k
  simp -implicitDefEqProofs [c71, h51, r0, r1, k, sg]
set_option maxHeartbeats 2000000 in
theorem ev71 (n : Nd) (sp : Bool) (env : List Bd) (hv : ndE n = 0) (ho : n.op < 11) (h51 : ∀ M, cl 51 [av n] M = some (av n, M)) (h114 : C114 cl n (.slc (nfl sp) (env.map bvv)) env) (h75 : C75 cl) :
    pureA G false cl yl N c71 [av n, .slc (nfl sp) (env.map bvv)] = some (av (setA env n), none) := by
  have hav : argV (.slc (nfl sp) (env.map bvv)) = some (.slc (nfl sp) (env.map bvv)) := by cases sp <;> rfl
  have k2 := c75_2 h75
  have plain : ¬ n.op = 3 → ¬ n.op = 2 → setA env n = n → pureA G false cl yl N c71 [av n, .slc (nfl sp) (env.map bvv)] = some (av (setA env n), none) := by
    intro h3 h2 he
    have k3 : (n.op == 3) = false := by simp [h3]
    have k2' : (n.op == 2) = false := by simp [h2]
    rw [he]
    refine pureA_av (by simp [hav]) ?_
    simp -implicitDefEqProofs [c71, h51, k3, k2']
  cases vk_of hv with
  | cst op h => exact plain (by simp; omega) (by simp; omega) rfl
  | lab => exact plain (by simp [Nd.op]) (by simp [Nd.op]) rfl
  | smd => exact plain (by simp [Nd.op]) (by simp [Nd.op]) rfl
  | sng => exact plain (by simp [Nd.op]) (by simp [Nd.op]) rfl
  | cal x xs h hx =>
    refine plain (by simp [Nd.op]) (by simp [Nd.op]) ?_
    unfold setA
    simp only [Nd.ns, Nd.op]
    match xs with
    | [] => rfl
    | [y] => simp
    | _ :: _ :: _ => rfl
  | not => simp at ho
  | bin op a b h => simp at ho; omega
  | qnt op x so a h => simp at ho; omega
  | two op x y h hx hy =>
    have q0 := fun os h0 h1 => h114 0 x rfl os h0 h1
    have q1 := fun os h0 h1 => h114 1 y rfl os h0 h1
    rw [show ((0 : Nat) : Int) = 0 from rfl] at q0
    rw [show ((1 : Nat) : Int) = 1 from rfl] at q1
    have r0 := fun o2 => q0 [.cells (ndc (.mk op [x, y] 0 0 0 [])), .cells [.slc (nfl sp) (env.map bvv)], o2] rfl rfl
    have r1 := fun o2 => q1 [.cells (ndc (.mk op [x, y] 0 0 0 [])), .cells [.slc (nfl sp) (env.map bvv)], o2] rfl rfl
    have e0 : setA env (.mk op [x, y] 0 0 0 []) = if op = 3 ∧ wasE env x = true then .mk 4 [x, y] 0 0 0 [] else if op = 2 ∧ wasE env x ≠ wasE env y then (if wasE env y then nd 12 [sg y, .mk 3 [x, y] 0 0 0 []] else nd 12 [sg x, .mk 3 [y, x] 0 0 0 []]) else .mk op [x, y] 0 0 0 [] := rfl
    have d1 : (Nd.mk op [x, y] 0 0 0 []).op = op := rfl
    have d2 : (Nd.mk op [x, y] 0 0 0 []).ns = [x, y] := rfl
    by_cases h3 : op = 3
    · subst h3
      rw [e0]
      cases hw : wasE env x with
      | true =>
        rw [hw] at r0
        exact ev71a x y (nfl sp) (env.map bvv) hav h75 h51 r0
      | false =>
        rw [hw] at r0
        exact ev71d x y (nfl sp) (env.map bvv) hav h75 h51 r0
    · by_cases h2 : op = 2
      · subst h2
        rw [e0]
        cases hw : wasE env x <;> cases hw2 : wasE env y <;> rw [hw] at r0 <;> rw [hw2] at r1
        · exact ev71b x y (nfl sp) (env.map bvv) hav h75 h51 r0 r1
        · exact ev71e x y (nfl sp) (env.map bvv) hav h75 h51 r0 r1
        · exact ev71f x y (nfl sp) (env.map bvv) hav h75 h51 r0 r1
        · exact ev71c x y (nfl sp) (env.map bvv) hav h75 h51 r0 r1
      · refine plain (by simpa [Nd.op] using h3) (by simpa [Nd.op] using h2) ?_
        rw [e0]; simp [h3, h2]
end
mutual
def seF : List Bd → Nd → Nd
  | env, .mk o ns so nn mm l => if o < 11 then setA env (.mk o ns so nn mm l) else match ns with
    | [] => .mk o [] so 0 0 (seL env l)
    | x :: _ => if so < 2 then qn o x (if so = 1 then 3 else 2) (nd (if o = 17 then 14 else 12) (sg x :: seL (env ++ [⟨x, true⟩]) l)) else .mk o ns so 0 0 (seL (env ++ [⟨x, false⟩]) l)
def seL : List Bd → List Nd → List Nd
  | _, [] => []
  | env, x :: xs => seF env x :: seL env xs
end
def cl72 (env : List Bd) (M : Mem) : Option (AV × Mem) := match env with
  | [] => some (.slc .full [], M)
  | b :: bs => some (.slc (.own M.arrs.length) ((b :: bs).map bvv), ⟨M.objs, M.arrs ++ [.app (bs.length + 1) 99 2]⟩)
section
variable {G : Nat → Option AV} {cl : Caller} {yl : Nat → List AV → Mem → Option (AV × Mem)} {N : Nat}
theorem ev41_at (n : Nd) (sp : Bool) (env : List Bd) (ho : n.op < 11) (h58 : ∀ M, cl 58 [av n] M = some (.bool (decide (n.op < 11)), M)) (h71 : ∀ M, cl 71 [av n, .slc (nfl sp) (env.map bvv)] M = some (av (setA env n), M)) :
    pureA G false cl yl N c41 [av n, .slc (nfl sp) (env.map bvv)] = some (av (seF env n), none) := by
  have hav : argV (.slc (nfl sp) (env.map bvv)) = some (.slc (nfl sp) (env.map bvv)) := by cases sp <;> rfl
  have e : seF env n = setA env n := by cases n; simp only [seF]; exact if_pos ho
  rw [e]
  refine pureA_av (by simp [hav]) ?_
  simp -implicitDefEqProofs [c41, h58, h71, ho]
theorem ev41_not (a : Nd) (sp : Bool) (env : List Bd) (hN : 2 < N) (h58 : ∀ M, cl 58 [av (Nd.mk 11 [] 0 0 0 [a])] M = some (.bool false, M)) (h74 : ∀ M, cl 74 [.slc .shared []] M = some (.slc .full [], M))
    (hc : ∀ M, cl 41 [av a, .slc (nfl sp) (env.map bvv)] M = some (av (seF env a), M)) :
    pureA G false cl yl N c41 [av (Nd.mk 11 [] 0 0 0 [a]), .slc (nfl sp) (env.map bvv)] = some (av (nd 11 [seF env a]), none) := by
  have hav : argV (.slc (nfl sp) (env.map bvv)) = some (.slc (nfl sp) (env.map bvv)) := by cases sp <;> rfl
  have hsc := nfl_scr sp
  obtain ⟨N, rfl⟩ : ∃ m, N = m + 3 := ⟨N - 3, by omega⟩
  have d0 : (Nd.mk 11 [] 0 0 0 [a]).op = 11 := rfl
  have d1 : (Nd.mk 11 [] 0 0 0 [a]).ns = [] := rfl
  have d2 : (Nd.mk 11 [] 0 0 0 [a]).so = 0 := rfl
  have d3 : (Nd.mk 11 [] 0 0 0 [a]).l = [a] := rfl
  have w0 : wrapF .i64 1 = 1 := by decide
  have w1 : wrapF .i64 2 = 2 := by decide
  have e1 : avL [a] = [av a] := rfl
  simp -implicitDefEqProofs [c41, c41b0, h58, h74, hc, iter, hsc, hav, d0, d1, d2, d3, w0, w1, e1]
  rfl
theorem ev41_bin (op : Int) (ho : 12 ≤ op ∧ op ≤ 15) (a b : Nd) (sp : Bool) (env : List Bd) (hN : 3 < N) (h58 : ∀ M, cl 58 [av (.mk op [] 0 0 0 [a, b])] M = some (.bool false, M)) (h74 : ∀ M, cl 74 [.slc .shared []] M = some (.slc .full [], M))
    (hc : ∀ M, cl 41 [av a, .slc (nfl sp) (env.map bvv)] M = some (av (seF env a), M)) (hd : ∀ M, cl 41 [av b, .slc (nfl sp) (env.map bvv)] M = some (av (seF env b), M)) :
    pureA G false cl yl N c41 [av (.mk op [] 0 0 0 [a, b]), .slc (nfl sp) (env.map bvv)] = some (av (nd op [seF env a, seF env b]), none) := by
  have hav : argV (.slc (nfl sp) (env.map bvv)) = some (.slc (nfl sp) (env.map bvv)) := by cases sp <;> rfl
  have hsc := nfl_scr sp
  obtain ⟨N, rfl⟩ : ∃ m, N = m + 4 := ⟨N - 4, by omega⟩
  have d0 : (Nd.mk op [] 0 0 0 [a, b]).op = op := rfl
  have d1 : (Nd.mk op [] 0 0 0 [a, b]).ns = [] := rfl
  have d2 : (Nd.mk op [] 0 0 0 [a, b]).so = 0 := rfl
  have d3 : (Nd.mk op [] 0 0 0 [a, b]).l = [a, b] := rfl
  have w0 : wrapF .i64 1 = 1 := by decide
  have w1 : wrapF .i64 2 = 2 := by decide
  have e1 : avL [a, b] = [av a, av b] := rfl
  have k1 : (op == 16) = false := by simp; omega
  have k2 : (op == 17) = false := by simp; omega
  simp -implicitDefEqProofs [c41, c41b0, h58, h74, hc, hd, iter, hsc, hav, d0, d1, d2, d3, w0, w1, e1, k1, k2]
  rfl
theorem ev41_qset (op : Int) (ho : op = 16 ∨ op = 17) (x : Str) (so : Int) (hs : 2 ≤ so ∧ so < 4) (a : Nd) (sp : Bool) (env : List Bd) (hl : env.length < big) (hN : 2 < N) (h58 : ∀ M, cl 58 [av (.mk op [x] so 0 0 [a])] M = some (.bool false, M))
    (h74 : ∀ M, cl 74 [.slc .shared [.str x]] M = cl74 [x] M) (h72 : ∀ M, cl 72 [.slc (nfl sp) (env.map bvv)] M = cl72 env M) (h73 : ∀ M, cl 73 [.int .i64 so] M = some (.bool false, M))
    (hc : ∀ M, cl 41 [av a, .slc (.own 0) ((env ++ [Bd.mk x false]).map bvv)] M = some (av (seF (env ++ [Bd.mk x false]) a), M)) :
    pureA G false cl yl N c41 [av (.mk op [x] so 0 0 [a]), .slc (nfl sp) (env.map bvv)] = some (av (.mk op [x] so 0 0 [seF (env ++ [Bd.mk x false]) a]), none) := by
  have hav : ∀ es, argV (.slc (nfl sp) es) = some (.slc (nfl sp) es) := by intro es; cases sp <;> rfl
  have hsc := nfl_scr sp
  unfold big at hl
  obtain ⟨N, rfl⟩ : ∃ m, N = m + 3 := ⟨N - 3, by omega⟩
  have d0 : (Nd.mk op [x] so 0 0 [a]).op = op := rfl
  have d1 : (Nd.mk op [x] so 0 0 [a]).ns = [x] := rfl
  have d2 : (Nd.mk op [x] so 0 0 [a]).so = so := rfl
  have d3 : (Nd.mk op [x] so 0 0 [a]).l = [a] := rfl
  have w0 : wrapF .i64 1 = 1 := by decide
  have e1 : avL [a] = [av a] := rfl
  simp only [List.map_append, List.map_cons, List.map_nil, bvv] at hc
  rcases ho with rfl | rfl
  · match env, hl, h72, hc with
    | [], hl, h72, hc =>
      simp [cl72] at h72 hc
      simp -implicitDefEqProofs [c41, c41b0, h58, h74, cl74, h72, cl72, h73, hc, iter, hsc, hav, d0, d1, d2, d3, w0, e1]
      rfl
    | b :: bs, hl, h72, hc =>
      have q1 : (bs.length + 1 + 1) * 24 ≤ 140737488355328 := by simp at hl; omega
      have q2 : bs.length ≤ 140737488355326 := by simp at hl; omega
      simp [cl72] at h72 hc
      simp -implicitDefEqProofs [c41, c41b0, h58, h74, cl74, h72, cl72, h73, hc, iter, hsc, hav, d0, d1, d2, d3, w0, e1, q1, q2]
      rfl
  · match env, hl, h72, hc with
    | [], hl, h72, hc =>
      simp [cl72] at h72 hc
      simp -implicitDefEqProofs [c41, c41b0, h58, h74, cl74, h72, cl72, h73, hc, iter, hsc, hav, d0, d1, d2, d3, w0, e1]
      rfl
    | b :: bs, hl, h72, hc =>
      have q1 : (bs.length + 1 + 1) * 24 ≤ 140737488355328 := by simp at hl; omega
      have q2 : bs.length ≤ 140737488355326 := by simp at hl; omega
      simp [cl72] at h72 hc
      simp -implicitDefEqProofs [c41, c41b0, h58, h74, cl74, h72, cl72, h73, hc, iter, hsc, hav, d0, d1, d2, d3, w0, e1, q1, q2]
      rfl
theorem ev41_qel (op : Int) (ho : op = 16 ∨ op = 17) (x : Str) (so : Int) (hs : so = 0 ∨ so = 1) (a : Nd) (sp : Bool) (env : List Bd) (hl : env.length < big) (hN : 2 < N) (h58 : ∀ M, cl 58 [av (.mk op [x] so 0 0 [a])] M = some (.bool false, M))
    (h74 : ∀ M, cl 74 [.slc .shared [.str x]] M = cl74 [x] M) (h72 : ∀ M, cl 72 [.slc (nfl sp) (env.map bvv)] M = cl72 env M) (h73 : ∀ M, cl 73 [.int .i64 so] M = some (.bool true, M))
    (h75 : C75 cl) (h53 : ∀ o s so n M, cl 53 [.int .i64 o, .str s, .int .i64 so, av n] M = some (av (.mk o [s] so 0 0 [n]), M))
    (hc : ∀ M, cl 41 [av a, .slc (.own 0) ((env ++ [Bd.mk x true]).map bvv)] M = some (av (seF (env ++ [Bd.mk x true]) a), M)) :
    pureA G false cl yl N c41 [av (.mk op [x] so 0 0 [a]), .slc (nfl sp) (env.map bvv)] = some (av (qn op x (if so = 1 then 3 else 2) (nd (if op = 17 then 14 else 12) [sg x, seF (env ++ [Bd.mk x true]) a])), none) := by
  have hav : ∀ es, argV (.slc (nfl sp) es) = some (.slc (nfl sp) es) := by intro es; cases sp <;> rfl
  have hsc := nfl_scr sp
  unfold big at hl
  obtain ⟨N, rfl⟩ : ∃ m, N = m + 3 := ⟨N - 3, by omega⟩
  have d0 : (Nd.mk op [x] so 0 0 [a]).op = op := rfl
  have d1 : (Nd.mk op [x] so 0 0 [a]).ns = [x] := rfl
  have d2 : (Nd.mk op [x] so 0 0 [a]).so = so := rfl
  have d3 : (Nd.mk op [x] so 0 0 [a]).l = [a] := rfl
  have w0 : wrapF .i64 1 = 1 := by decide
  have e1 : avL [a] = [av a] := rfl
  simp only [List.map_append, List.map_cons, List.map_nil, bvv] at hc
  have k75 := fun op M => c75_2 h75 op (sg x) (seF (env ++ [Bd.mk x true]) a) M
  have esg : av (sg x) = .agg [.int .i64 9, .slc .shared [.str x], .int .i64 0, .int .i64 0, .int .i64 0, .slc .shared []] := rfl
  rw [esg] at k75
  simp only [sg] at k75
  rcases ho with rfl | rfl <;> rcases hs with rfl | rfl
  · match env, hl, h72, hc, k75 with
    | [], hl, h72, hc, k75 =>
      simp [cl72] at h72 hc k75
      simp -implicitDefEqProofs [c41, c41b0, h58, h74, cl74, h72, cl72, h73, hc, k75, h53, iter, hsc, hav, d0, d1, d2, d3, w0, e1]
      rfl
    | b :: bs, hl, h72, hc, k75 =>
      have q1 : (bs.length + 1 + 1) * 24 ≤ 140737488355328 := by simp at hl; omega
      have q2 : bs.length ≤ 140737488355326 := by simp at hl; omega
      simp [cl72] at h72 hc k75
      simp -implicitDefEqProofs [c41, c41b0, h58, h74, cl74, h72, cl72, h73, hc, k75, h53, iter, hsc, hav, d0, d1, d2, d3, w0, e1, q1, q2]
      rfl
  · match env, hl, h72, hc, k75 with
    | [], hl, h72, hc, k75 =>
      simp [cl72] at h72 hc k75
      simp -implicitDefEqProofs [c41, c41b0, h58, h74, cl74, h72, cl72, h73, hc, k75, h53, iter, hsc, hav, d0, d1, d2, d3, w0, e1]
      rfl
    | b :: bs, hl, h72, hc, k75 =>
      have q1 : (bs.length + 1 + 1) * 24 ≤ 140737488355328 := by simp at hl; omega
      have q2 : bs.length ≤ 140737488355326 := by simp at hl; omega
      simp [cl72] at h72 hc k75
      simp -implicitDefEqProofs [c41, c41b0, h58, h74, cl74, h72, cl72, h73, hc, k75, h53, iter, hsc, hav, d0, d1, d2, d3, w0, e1, q1, q2]
      rfl
  · match env, hl, h72, hc, k75 with
    | [], hl, h72, hc, k75 =>
      simp [cl72] at h72 hc k75
      simp -implicitDefEqProofs [c41, c41b0, h58, h74, cl74, h72, cl72, h73, hc, k75, h53, iter, hsc, hav, d0, d1, d2, d3, w0, e1]
      rfl
    | b :: bs, hl, h72, hc, k75 =>
      have q1 : (bs.length + 1 + 1) * 24 ≤ 140737488355328 := by simp at hl; omega
      have q2 : bs.length ≤ 140737488355326 := by simp at hl; omega
      simp [cl72] at h72 hc k75
      simp -implicitDefEqProofs [c41, c41b0, h58, h74, cl74, h72, cl72, h73, hc, k75, h53, iter, hsc, hav, d0, d1, d2, d3, w0, e1, q1, q2]
      rfl
  · match env, hl, h72, hc, k75 with
    | [], hl, h72, hc, k75 =>
      simp [cl72] at h72 hc k75
      simp -implicitDefEqProofs [c41, c41b0, h58, h74, cl74, h72, cl72, h73, hc, k75, h53, iter, hsc, hav, d0, d1, d2, d3, w0, e1]
      rfl
    | b :: bs, hl, h72, hc, k75 =>
      have q1 : (bs.length + 1 + 1) * 24 ≤ 140737488355328 := by simp at hl; omega
      have q2 : bs.length ≤ 140737488355326 := by simp at hl; omega
      simp [cl72] at h72 hc k75
      simp -implicitDefEqProofs [c41, c41b0, h58, h74, cl74, h72, cl72, h73, hc, k75, h53, iter, hsc, hav, d0, d1, d2, d3, w0, e1, q1, q2]
      rfl
theorem ev41 (n : Nd) (hv : ndE n = 0) (sp : Bool) (env : List Bd) (hl : env.length < big) (hN : 3 < N) (h58 : ∀ M, cl 58 [av n] M = some (.bool (decide (n.op < 11)), M))
    (h71 : n.op < 11 → ∀ M, cl 71 [av n, .slc (nfl sp) (env.map bvv)] M = some (av (setA env n), M))
    (h74 : ∀ M, cl 74 [.slc .shared (n.ns.map .str)] M = cl74 n.ns M) (h72 : ∀ M, cl 72 [.slc (nfl sp) (env.map bvv)] M = cl72 env M) (h73 : ∀ so M, cl 73 [.int .i64 so] M = some (.bool (so == 0 || so == 1), M))
    (h75 : C75 cl) (h53 : ∀ o s so n M, cl 53 [.int .i64 o, .str s, .int .i64 so, av n] M = some (av (.mk o [s] so 0 0 [n]), M))
    (hc : ∀ x ∈ n.l, n.op < 16 → ∀ M, cl 41 [av x, .slc (nfl sp) (env.map bvv)] M = some (av (seF env x), M))
    (hd : ∀ x ∈ n.l, 16 ≤ n.op → ∀ b : Bd, ∀ M, cl 41 [av x, .slc (.own 0) ((env ++ [b]).map bvv)] M = some (av (seF (env ++ [b]) x), M)) :
    pureA G false cl yl N c41 [av n, .slc (nfl sp) (env.map bvv)] = some (av (seF env n), none) := by
  have atom : n.op < 11 → pureA G false cl yl N c41 [av n, .slc (nfl sp) (env.map bvv)] = some (av (seF env n), none) := fun h => ev41_at n sp env h h58 (h71 h)
  cases vk_of hv with
  | cst op h => exact atom (by simp [nd, Nd.op]; omega)
  | two op x y h hx hy => exact atom (by simp [Nd.op]; omega)
  | lab => exact atom (by simp [Nd.op])
  | smd => exact atom (by simp [Nd.op])
  | sng => exact atom (by simp [Nd.op])
  | cal => exact atom (by simp [Nd.op])
  | not a => exact ev41_not a sp env (by omega) h58 h74 (hc a (by simp [nd, Nd.l]) (by simp [nd, Nd.op]))
  | bin op a b h =>
    have e : seF env (nd op [a, b]) = nd op [seF env a, seF env b] := by
      simp only [nd, seF, seL]
      rw [if_neg (by omega)]
    have k58 : ∀ M, cl 58 [av (.mk op [] 0 0 0 [a, b])] M = some (.bool false, M) := by
      intro M
      have := h58 M
      rw [show decide ((nd op [a, b]).op < 11) = false from decide_eq_false (show ¬ op < 11 by omega)] at this
      exact this
    rw [e]
    exact ev41_bin op h a b sp env hN k58 h74 (hc a (by simp [nd, Nd.l]) (by simp [nd, Nd.op]; omega)) (hc b (by simp [nd, Nd.l]) (by simp [nd, Nd.op]; omega))
  | qnt op x so a h hx hs =>
    have k58 : ∀ M, cl 58 [av (.mk op [x] so 0 0 [a])] M = some (.bool false, M) := by
      intro M
      have := h58 M
      rw [show decide ((qn op x so a).op < 11) = false from decide_eq_false (show ¬ op < 11 by omega)] at this
      exact this
    have k16 : 16 ≤ (qn op x so a).op := by simp [qn, Nd.op]; omega
    by_cases h2 : so < 2
    · have e : seF env (qn op x so a) = qn op x (if so = 1 then 3 else 2) (nd (if op = 17 then 14 else 12) [sg x, seF (env ++ [Bd.mk x true]) a]) := by
        simp only [qn, seF, seL]
        rw [if_neg (by omega), if_pos h2]
      rw [e]
      have hs' : so = 0 ∨ so = 1 := by omega
      refine ev41_qel op h x so hs' a sp env hl (by omega) k58 h74 h72 (fun M => ?_) h75 h53 (hd a (by simp [qn, Nd.l]) k16 ⟨x, true⟩)
      rw [h73]
      rcases hs' with rfl | rfl <;> rfl
    · have e : seF env (qn op x so a) = .mk op [x] so 0 0 [seF (env ++ [Bd.mk x false]) a] := by
        simp only [qn, seF, seL]
        rw [if_neg (by omega), if_neg h2]
      rw [e]
      refine ev41_qset op h x so (by omega) a sp env hl (by omega) k58 h74 h72 (fun M => ?_) (hd a (by simp [qn, Nd.l]) k16 ⟨x, false⟩)
      rw [h73]
      rw [show (so == 0 || so == 1) = false from by simp; omega]
end
theorem spC_selfA {orc : Nat → List AV → Ores} {f : Nat} {ags a' : List AV} {v : AV} (h : orc f a' = some (v, none)) (ha : argL ags = some a') (M : Mem) : spC orc f ags M = some (v, M) := by
  unfold spC
  rw [ha]
  simp only [h, takeV_none]
theorem setA_two (env : List Bd) (op : Int) (x y : Str) : setA env (.mk op [x, y] 0 0 0 []) = if op = 3 ∧ wasE env x = true then .mk 4 [x, y] 0 0 0 [] else if op = 2 ∧ wasE env x ≠ wasE env y then (if wasE env y then nd 12 [sg y, .mk 3 [x, y] 0 0 0 []] else nd 12 [sg x, .mk 3 [y, x] 0 0 0 []]) else .mk op [x, y] 0 0 0 [] := rfl
theorem setA_cal (env : List Bd) (x y : Str) : setA env (.mk 10 [x, y] 0 0 0 []) = .mk 10 [x, y] 0 0 0 [] := by
  rw [setA_two]
  simp
theorem setA_ns (env : List Bd) (n : Nd) (h : ∀ x y, n.ns ≠ [x, y]) : setA env n = n := by
  unfold setA
  split
  · rename_i e; exact absurd e (h _ _)
  · rfl
theorem setA_calls (env : List Bd) (x : Str) (xs : List Str) : setA env (.mk 10 (x :: xs) 0 0 0 []) = .mk 10 (x :: xs) 0 0 0 [] := by
  match xs with
  | [] => exact setA_ns env _ (by intro x y; simp [Nd.ns])
  | [y] => exact setA_cal env x y
  | _ :: _ :: _ => exact setA_ns env _ (by intro x y; simp [Nd.ns])
theorem setA_valid (env : List Bd) {n : Nd} (h : ndE n = 0) : ndE (setA env n) = 0 := by
  have same : setA env n = n → ndE (setA env n) = 0 := fun e => by rw [e]; exact h
  cases vk_of h with
  | two op x y ho hx hy =>
    have k4 : ndE (.mk 4 [x, y] 0 0 0 []) = 0 := vk_inv (.two 4 x y (by omega) hx hy)
    have k3 : ndE (.mk 3 [x, y] 0 0 0 []) = 0 := vk_inv (.two 3 x y (by omega) hx hy)
    have k3' : ndE (.mk 3 [y, x] 0 0 0 []) = 0 := vk_inv (.two 3 y x (by omega) hy hx)
    have kx : ndE (sg x) = 0 := vk_inv (.sng x hx)
    have ky : ndE (sg y) = 0 := vk_inv (.sng y hy)
    rw [setA_two]
    by_cases c1 : op = 3 ∧ wasE env x = true
    · rw [if_pos c1]; exact k4
    · rw [if_neg c1]
      by_cases c2 : op = 2 ∧ wasE env x ≠ wasE env y
      · rw [if_pos c2]
        cases wasE env y with
        | true => exact vk_inv (.bin 12 _ _ (by omega) ky k3)
        | false => exact vk_inv (.bin 12 _ _ (by omega) kx k3')
      · rw [if_neg c2]; exact h
  | cal x xs hl hx => exact same (setA_calls env x xs)
  | cst op => exact same (setA_ns env _ (by intro x y; simp [nd, Nd.ns]))
  | lab => exact same (setA_ns env _ (by intro x y; simp [Nd.ns]))
  | smd => exact same (setA_ns env _ (by intro x y; simp [Nd.ns]))
  | sng => exact same (setA_ns env _ (by intro x y; simp [Nd.ns]))
  | not => exact same (setA_ns env _ (by intro x y; simp [nd, Nd.ns]))
  | bin => exact same (setA_ns env _ (by intro x y; simp [nd, Nd.ns]))
  | qnt => exact same (setA_ns env _ (by intro x y; simp [qn, Nd.ns]))
theorem seF_valid : ∀ (k : Nat) (env : List Bd) (n : Nd), sz n ≤ k → ndE n = 0 → ndE (seF env n) = 0
  | 0, env, n, hk, _ => by have := sz_pos n; omega
  | k + 1, env, n, hk, hv => by
    have atom : n.op < 11 → ndE (seF env n) = 0 := by
      intro ho
      have e : seF env n = setA env n := by cases n; simp only [seF]; exact if_pos ho
      rw [e]; exact setA_valid env hv
    cases vk_of hv with
    | cst op h => exact atom (by simp [nd, Nd.op]; omega)
    | two op x y h hx hy => exact atom (by simp [Nd.op]; omega)
    | lab => exact atom (by simp [Nd.op])
    | smd => exact atom (by simp [Nd.op])
    | sng => exact atom (by simp [Nd.op])
    | cal => exact atom (by simp [Nd.op])
    | not a ha =>
      have hs : sz (nd 11 [a]) = sz a + 1 := by simp [nd, sz, szL]
      have e : seF env (nd 11 [a]) = nd 11 [seF env a] := by simp [nd, seF, seL]
      rw [e]
      exact vk_inv (.not _ (seF_valid k env a (by omega) ha))
    | bin op a b h ha hb =>
      have hs : sz (nd op [a, b]) = sz a + sz b + 1 := by simp [nd, sz, szL]
      have e : seF env (nd op [a, b]) = nd op [seF env a, seF env b] := by
        simp only [nd, seF, seL]
        rw [if_neg (by omega)]
      rw [e]
      exact vk_inv (.bin op _ _ h (seF_valid k env a (by omega) ha) (seF_valid k env b (by omega) hb))
    | qnt op x so a h hx hs ha =>
      have hz : sz (qn op x so a) = sz a + 1 := by simp [qn, sz, szL]
      by_cases h2 : so < 2
      · have e : seF env (qn op x so a) = qn op x (if so = 1 then 3 else 2) (nd (if op = 17 then 14 else 12) [sg x, seF (env ++ [Bd.mk x true]) a]) := by
          simp only [qn, seF, seL]
          rw [if_neg (by omega), if_pos h2]
        rw [e]
        exact vk_inv (.qnt op x _ _ h hx (by split <;> omega) (vk_inv (.bin _ _ _ (by split <;> omega) (vk_inv (.sng x hx)) (seF_valid k _ a (by omega) ha))))
      · have e : seF env (qn op x so a) = qn op x so (seF (env ++ [Bd.mk x false]) a) := by
          simp only [qn, seF, seL]
          rw [if_neg (by omega), if_neg h2]
        rw [e]
        exact vk_inv (.qnt op x so _ h hx hs (seF_valid k _ a (by omega) ha))
theorem setA_sz (env : List Bd) (n : Nd) (h : ndE n = 0) : sz (setA env n) ≤ sz n + 2 := by
  unfold setA
  split
  · split
    · have := sz_eq n
      simp only [sz]; omega
    · split
      · have := sz_pos n
        split <;> simp [nd, sg, sz, szL] <;> omega
      · omega
  · omega
theorem seF_sz : ∀ (k : Nat) (env : List Bd) (n : Nd), sz n ≤ k → ndE n = 0 → sz (seF env n) ≤ 3 * sz n
  | 0, env, n, hk, _ => by have := sz_pos n; omega
  | k + 1, env, n, hk, hv => by
    have atom : n.op < 11 → sz (seF env n) ≤ 3 * sz n := by
      intro ho
      have e : seF env n = setA env n := by cases n; simp only [seF]; exact if_pos ho
      rw [e]
      have := setA_sz env n hv
      have := sz_pos n
      omega
    cases vk_of hv with
    | cst op h => exact atom (by simp [nd, Nd.op]; omega)
    | two op x y h hx hy => exact atom (by simp [Nd.op]; omega)
    | lab => exact atom (by simp [Nd.op])
    | smd => exact atom (by simp [Nd.op])
    | sng => exact atom (by simp [Nd.op])
    | cal => exact atom (by simp [Nd.op])
    | not a ha =>
      have hs : sz (nd 11 [a]) = sz a + 1 := by simp [nd, sz, szL]
      have e : seF env (nd 11 [a]) = nd 11 [seF env a] := by simp [nd, seF, seL]
      have ih := seF_sz k env a (by omega) ha
      have hs' : sz (nd 11 [seF env a]) = sz (seF env a) + 1 := by simp [nd, sz, szL]
      rw [e]; omega
    | bin op a b h ha hb =>
      have hs : sz (nd op [a, b]) = sz a + sz b + 1 := by simp [nd, sz, szL]
      have e : seF env (nd op [a, b]) = nd op [seF env a, seF env b] := by
        simp only [nd, seF, seL]
        rw [if_neg (by omega)]
      have i1 := seF_sz k env a (by omega) ha
      have i2 := seF_sz k env b (by omega) hb
      have hs' : sz (nd op [seF env a, seF env b]) = sz (seF env a) + sz (seF env b) + 1 := by simp [nd, sz, szL]
      rw [e]; omega
    | qnt op x so a h hx hs ha =>
      have hz : sz (qn op x so a) = sz a + 1 := by simp [qn, sz, szL]
      by_cases h2 : so < 2
      · have e : seF env (qn op x so a) = qn op x (if so = 1 then 3 else 2) (nd (if op = 17 then 14 else 12) [sg x, seF (env ++ [Bd.mk x true]) a]) := by
          simp only [qn, seF, seL]
          rw [if_neg (by omega), if_pos h2]
        have ih := seF_sz k (env ++ [Bd.mk x true]) a (by omega) ha
        have hs' : sz (seF env (qn op x so a)) = sz (seF (env ++ [Bd.mk x true]) a) + 3 := by rw [e]; simp [qn, nd, sg, sz, szL]; omega
        omega
      · have e : seF env (qn op x so a) = qn op x so (seF (env ++ [Bd.mk x false]) a) := by
          simp only [qn, seF, seL]
          rw [if_neg (by omega), if_neg h2]
        have ih := seF_sz k (env ++ [Bd.mk x false]) a (by omega) ha
        have hs' : sz (seF env (qn op x so a)) = sz (seF (env ++ [Bd.mk x false]) a) + 1 := by rw [e]; simp [qn, sz, szL]
        omega
def setE (n : Nd) : Nd × Int := if chk n = 0 then ckd (seF [] n) else (nd0, chk n)
section
variable {G : Nat → Option AV} {cl : Caller} {yl : Nat → List AV → Mem → Option (AV × Mem)} {N : Nat}
theorem ev11 (n : Nd) (h28 : ∀ M, cl 28 [av n] M = some (.int .i64 (chk n), M)) (h41 : chk n = 0 → ∀ M, cl 41 [av n, .slc .full []] M = some (av (seF [] n), M))
    (h40 : chk n = 0 → ∀ M, cl 40 [av (seF [] n)] M = some (.tup [av (ckd (seF [] n)).1, .int .i64 (ckd (seF [] n)).2], M)) :
    pureA G false cl yl N c11 [av n] = some (.tup [av (setE n).1, .int .i64 (setE n).2], none) := by
  unfold setE
  by_cases h : chk n = 0
  · have k41 := h41 h
    have k40 := h40 h
    refine pureA_avI (by simp) ?_
    simp -implicitDefEqProofs [c11, h28, h, k41, k40]
  · have h' : (chk n != 0) = true := by simp [h]
    simp -implicitDefEqProofs [c11, h28, h, h', av_nd0]
end
def enE (p : Bool × List Bd) : AV := .slc (nfl p.1) (p.2.map bvv)
theorem bvv_inj {a b : Bd} (h : bvv a = bvv b) : a = b := by
  cases a; cases b; simp only [bvv, AV.agg.injEq, List.cons.injEq, AV.str.injEq, AV.bool.injEq, and_true] at h
  obtain ⟨rfl, rfl⟩ := h; rfl
theorem enE_inj {a b : Bool × List Bd} (h : enE a = enE b) : a = b := by
  obtain ⟨a1, a2⟩ := a
  obtain ⟨b1, b2⟩ := b
  simp only [enE, AV.slc.injEq] at h
  obtain ⟨h1, h2⟩ := h
  have e1 : a1 = b1 := by cases a1 <;> cases b1 <;> first | rfl | simp [nfl] at h1
  have e2 : a2 = b2 := List.map_inj_right (fun _ _ h => bvv_inj h) |>.1 h2
  rw [e1, e2]
theorem enE_arg (p : Bool × List Bd) : argV (enE p) = some (enE p) := by
  obtain ⟨b, l⟩ := p
  cases b <;> rfl
def wsE (p : (Bool × List Bd) × Str) : List AV := [enE p.1, .str p.2]
def ndEn (p : (Bool × List Bd) × Nd) : List AV := [av p.2, enE p.1]
theorem wsE_inj (a b : (Bool × List Bd) × Str) (h : wsE a = wsE b) : a = b := by
  simp only [wsE, List.cons.injEq, and_true, AV.str.injEq] at h
  exact Prod.ext (enE_inj h.1) h.2
theorem ndEn_inj (a b : (Bool × List Bd) × Nd) (h : ndEn a = ndEn b) : a = b := by
  simp only [ndEn, List.cons.injEq, and_true] at h
  exact Prod.ext (enE_inj h.2) (av_inj h.1)
theorem wsE_arg (p : (Bool × List Bd) × Str) : argL [enE p.1, .str p.2] = some (wsE p) := by simp [argL, enE_arg, wsE]
theorem ndEn_arg (p : (Bool × List Bd) × Nd) : argL [av p.2, enE p.1] = some (ndEn p) := by simp [argL, enE_arg, ndEn]
section
variable {t : Nat}
noncomputable abbrev W19 : List (Nat × (List AV → Ores)) := (115, spR wsE (fun p => (.bool (wasE p.1.2 p.2), none)) (fun p => p.1.2.length < big)) :: (72, cloneA 99 2) :: M18
theorem w19_ : OrcOK Tryz.prog (GG t) (orcOf W19) := by
  refine orc_bw _ _ _ ok115 (fun p h => ⟨p.1.2.length + 1, 3, ev115 p.1.1 p.1.2 p.2 h (Nat.lt_succ_self _) ?_ ?_⟩) (orc_cons m18 fun ags r hr => orc72 hr)
  · intro ags; unfold orcW; split <;> rfl
  · intro ags; unfold orcW; split <;> rfl
noncomputable abbrev W20 : List (Nat × (List AV → Ores)) := (71, spR ndEn (fun p => (av (setA p.1.2 p.2), none)) (fun p => ndE p.2 = 0 ∧ p.2.op < 11 ∧ p.1.2.length < big)) :: W19
theorem w20_ : OrcOK Tryz.prog (GG t) (orcOf W20) := by
  refine orc_bw _ _ _ ok71 (fun p h => ⟨1, 2, ev71 p.2 p.1.1 p.1.2 h.1 h.2.1 (fun M => ?_) ?_ ?_⟩) w19_
  · exact bw_sp (spC_v av1_inj p.2 (by repeat first | exact .here | refine .there ?_ rfl) (by show bk p.2 ≤ big; have := (bk_at h.1 h.2.1).1; unfold big; omega) (by exact a1 _) (by rfl) M)
  · intro i x hx os h0 h1
    rw [bw_call (cf := c114) (by unfold orcW; split <;> rfl) rfl rfl rfl]
    exact ev114 p.2 _ i x hx os h0 h1 _ (fun M => bw_sp (spC_v wsE_inj (p.1, x) (by repeat first | exact .here | refine .there ?_ rfl) (by exact h.2.2) (by exact wsE_arg (p.1, x)) (by rfl) M))
  · intro op l M
    exact bw_sp (m7_75 (l := W19) (by repeat first | exact .here | refine .there ?_ rfl) op l M)
theorem c72_ {l : List (Nat × (List AV → Ores))} (h : Has l 72 (cloneA 99 2)) (sp : Bool) (env : List Bd) (M : Mem) (hl : env.length < big) : spC (orcOf l) 72 [.slc (nfl sp) (env.map bvv)] M = cl72 env M := by
  unfold big at hl
  have ha : argL [.slc (nfl sp) (env.map bvv)] = some [.slc (nfl sp) (env.map bvv)] := by cases sp <;> rfl
  unfold spC
  rw [ha]
  simp only [h.eq]
  cases env with
  | nil => simp [cloneA, cl72]
  | cons s ss =>
    simp at hl
    have b1 : (ss.length + 1) * 4096 ≤ 140737488355328 := by omega
    simp [cloneA, cl72, b1]
noncomputable abbrev W21 : List (Nat × (List AV → Ores)) := (53, sp53) :: W20
theorem w21_ : OrcOK Tryz.prog (GG t) (orcOf W21) := orc_con _ _ _ ok53 (fun p _ => ⟨1, ev53 p.1.op p.1.nm p.1.so p.2⟩) w20_
noncomputable abbrev W22 : List (Nat × (List AV → Ores)) := (41, spR ndEn (fun p => (av (seF p.1.2 p.2), none)) (fun p => ndE p.2 = 0 ∧ p.1.2.length + sz p.2 < big)) :: W21
theorem w22_ : OrcOK Tryz.prog (GG t) (orcOf W22) := by
  refine orc_self _ _ _ (fun p => sz p.2) ndEn_inj ok41 ?_ w21_
  intro p hp orc hself hother
  obtain ⟨hn, hl⟩ := hp
  have hz := sz_pos p.2
  refine ⟨4, ev41 p.2 hn p.1.1 p.1.2 (by omega) (by omega) (fun M => ?_) (fun ho M => ?_) (fun M => ?_) (fun M => ?_) (fun so M => ?_) ?_ (fun o s so n M => ?_) (fun x hx ho M => ?_) (fun x hx ho b M => ?_)⟩
  · rw [spC_ext (hother 58 (by decide))]
    exact spC_v av1_inj p.2 (by repeat first | exact .here | refine .there ?_ rfl) (by exact trivial) (by exact a1 _) (by rfl) M
  · rw [spC_ext (hother 71 (by decide))]
    exact spC_v ndEn_inj p (by repeat first | exact .here | refine .there ?_ rfl) (by exact ⟨hn, ho, by omega⟩) (by exact ndEn_arg p) (by rfl) M
  · rw [spC_ext (hother 74 (by decide))]
    exact c74_ (by repeat first | exact .here | refine .there ?_ rfl) .shared _ M (by have := ns_len hn; unfold big; omega)
  · rw [spC_ext (hother 72 (by decide))]
    exact c72_ (by repeat first | exact .here | refine .there ?_ rfl) p.1.1 p.1.2 M (by omega)
  · rw [spC_ext (hother 73 (by decide))]
    exact spC_v int_inj so (by repeat first | exact .here | refine .there ?_ rfl) (by exact trivial) (by rfl) (by rfl) M
  · intro op l M
    rw [spC_ext (hother 75 (by decide))]
    exact m7_75 (l := W21) (by repeat first | exact .here | refine .there ?_ rfl) op l M
  · rw [spC_ext (hother 53 (by decide))]
    exact spC_v q53_inj (⟨o, s, so⟩, n) (by repeat first | exact .here | refine .there ?_ rfl) (by exact trivial) (by simp) (by rfl) M
  · exact spC_selfA (hself (p.1, x) ⟨ndE_kid hn hx, by have := sz_child hx; show p.1.2.length + sz x < big; omega⟩ (sz_child hx)) (ndEn_arg (p.1, x)) M
  · exact spC_selfA (hself ((false, p.1.2 ++ [b]), x) ⟨ndE_kid hn hx, by have := sz_child hx; show (p.1.2 ++ [b]).length + sz x < big; simp; omega⟩ (sz_child hx)) (by simp [argL, ndEn, enE, nfl]) M
noncomputable abbrev W23 : List (Nat × (List AV → Ores)) := (11, spR e1 (fun n => (.tup [av (setE n).1, .int .i64 (setE n).2], none)) (fun n => bk n ≤ big)) :: W22
theorem w23_ : OrcOK Tryz.prog (GG t) (orcOf W23) :=
  orc_con _ _ _ ok11 (fun n hb => ⟨1, ev11 n (fun M => spC_v av1_inj n (by repeat first | exact .here | refine .there ?_ rfl) (by exact hb) (by exact a1 n) (by rfl) M)
    (fun hc M => spC_v ndEn_inj ((true, []), n) (by repeat first | exact .here | refine .there ?_ rfl) (by have := (okV_chk hc).2; exact ⟨chk_vd hc, by show 0 + sz n < big; unfold big; omega⟩) (by simp [argL, ndEn, enE, nfl]) (by rfl) M)
    (fun hc M => spC_v av1_inj (seF [] n) (by repeat first | exact .here | refine .there ?_ rfl) (by
      have h1 := (okV_chk hc).2
      have h2 := chk_vd hc
      have h3 := seF_sz _ [] n (Nat.le_refl _) h2
      have h4 := bk_vd _ (seF [] n) (Nat.le_refl _) (seF_valid _ [] n (Nat.le_refl _) h2)
      show bk (seF [] n) ≤ big
      unfold big; omega) (by exact a1 _) (by rfl) M)⟩) w22_
end
theorem rowOf_eq {M : Mem} {a g ty : Nat} {l : Lay} {cs : List AV} (h : M.arrs[a]? = some (.wr g ty l cs)) : rowOf M a g = some (ty, l, cs) := by
  unfold rowOf; rw [h]; simp
def asE (as' : List (Str × Str)) : List (AV × AV) := as'.map fun p => (.str p.1, .str p.2)
def lkS : List (Str × Str) → Str → Option Str
  | [], _ => none
  | p :: ps, x => if x == p.1 then some p.2 else lkS ps x
def ptS : List (Str × Str) → Str → Str → List (Str × Str)
  | [], x, y => [(x, y)]
  | p :: ps, x, y => if x == p.1 then (x, y) :: ps else p :: ptS ps x y
theorem find_asE (x : Str) : ∀ l : List (Str × Str), find (.str x) (asE l) = some ((lkS l x).map .str)
  | [] => rfl
  | p :: ps => by
    have ih := find_asE x ps
    unfold asE at ih ⊢
    simp only [List.map_cons, find, eqK, lkS]
    cases h : x == p.1 with
    | true => simp
    | false => simp [ih]
theorem put_asE (x y : Str) : ∀ l : List (Str × Str), put (.str x) (.str y) (asE l) = some (asE (ptS l x y))
  | [] => rfl
  | p :: ps => by
    have ih := put_asE x y ps
    unfold asE at ih ⊢
    simp only [List.map_cons, put, eqK, ptS]
    cases h : x == p.1 with
    | true => simp
    | false => simp [ih]
def ren (l : List (Str × Str)) (x : Str) : Str := (lkS l x).getD x
def rc (pre : List AV) (m : List (Str × Str)) (l : List Str) (i : Nat) : List AV := pre ++ ((l.take i).map (ren m) ++ l.drop i).map .str
theorem rc_0 (pre : List AV) (m : List (Str × Str)) (l : List Str) : rc pre m l 0 = pre ++ l.map .str := by simp [rc]
theorem rc_end (pre : List AV) (m : List (Str × Str)) (l : List Str) : rc pre m l l.length = pre ++ (l.map (ren m)).map .str := by simp [rc]
theorem rc_len (pre : List AV) (m : List (Str × Str)) (l : List Str) (i : Nat) (hi : i ≤ l.length) : (rc pre m l i).length = pre.length + l.length := by simp [rc]; omega
theorem rc_next (pre : List AV) (m : List (Str × Str)) : ∀ (l : List Str) (i : Nat) (x : Str), l[i]? = some x → (rc pre m l i)[pre.length + i]? = some (.str x) ∧
    (rc pre m l i).take (pre.length + i) ++ .str (ren m x) :: (rc pre m l i).drop (pre.length + i + 1) = rc pre m l (i + 1) := by
  intro l i x hx
  obtain ⟨hlt, hx'⟩ := List.getElem?_eq_some_iff.1 hx
  have hd : l.drop i = x :: l.drop (i + 1) := by rw [List.drop_eq_getElem_cons hlt, hx']
  have e : rc pre m l i = (pre ++ ((l.take i).map (ren m)).map .str) ++ .str x :: (l.drop (i + 1)).map .str := by
    unfold rc; rw [hd]; simp
  have hl : (pre ++ ((l.take i).map (ren m)).map AV.str).length = pre.length + i := by simp; omega
  have e2 : rc pre m l (i + 1) = (pre ++ ((l.take i).map (ren m)).map .str) ++ .str (ren m x) :: (l.drop (i + 1)).map .str := by
    unfold rc
    rw [List.take_add_one, hx]
    simp
  rw [e, e2, ← hl]
  refine ⟨by simp, ?_⟩
  rw [List.take_left, List.drop_append]
  simp
section
variable {G : Nat → Option AV} {cl : Caller} {yl : Nat → List AV → Mem → Option (AV × Mem)} {N N0 : Nat}
theorem ap_loop0 (m : List (Str × Str)) (os : List Obj) (ar : List Arr) (mid a off : Nat) (pre : List AV) (l : List Str) (v2 v3 v6 : AV) (mks : List Nat) (kk mm : Nat)
    (hm : os[mid]? = some (.map (asE m))) (ha : ar[a]? = some (.wr 0 9 .sc (pre ++ l.map .str))) (ho : pre.length = off) (hb : off + l.length < big) (hN : l.length < N) (ts : Slots)
    (l1 : look 1 ts = .map mid) (l2 : look 2 ts = v2) (l3 : look 3 ts = v3) (l6 : look 6 ts = v6) (l7 : look 7 ts = .osl a 0 off l.length) (l17 : look 17 ts = .osl a 0 off l.length) (l18 : look 18 ts = .int .i64 l.length) (l19 : look 19 ts = .int .i64 0) :
    ∃ e s', iter true (evalC G true cl yl N0 c83b0) ⟨[1, 2, 3, 6, 7, 17, 18, 19], [(19, none)]⟩ kk mm N ⟨ts, ⟨os, ar⟩, mks⟩ = some (e, s') ∧ e ≠ .normal ∧ (e = .exit 0 ∧ s'.mks = mks ∧ s'.m = ⟨os, ar.set a (.wr 0 9 .sc (pre ++ (l.map (ren m)).map .str))⟩ ∧ look 1 s'.ts = .map mid ∧ look 2 s'.ts = v2 ∧ look 3 s'.ts = v3 ∧ look 6 s'.ts = v6) := by
  unfold big at hb
  have hal : a < ar.length := (List.getElem?_eq_some_iff.1 ha).1
  have hself : ar = ar.set a (.wr 0 9 .sc (rc pre m l 0)) := by
    rw [rc_0]
    apply List.ext_getElem?
    intro j
    rw [List.getElem?_set]
    split
    · rename_i e; subst e; simpa [hal] using ha
    · rfl
  refine iter_while (mu := true) (step := evalC G true cl yl N0 c83b0) (an := ⟨[1, 2, 3, 6, 7, 17, 18, 19], [(19, none)]⟩) (kk := kk) (m := mm)
    (fun k st => ∃ i ts, i ≤ l.length ∧ k = l.length - i ∧ st = ⟨ts, ⟨os, ar.set a (.wr 0 9 .sc (rc pre m l i))⟩, mks⟩ ∧ look 1 ts = .map mid ∧ look 2 ts = v2 ∧ look 3 ts = v3 ∧ look 6 ts = v6 ∧ look 7 ts = .osl a 0 off l.length ∧ look 17 ts = .osl a 0 off l.length ∧ look 18 ts = .int .i64 l.length ∧ look 19 ts = .int .i64 (i : Nat))
    (fun e s' => e = .exit 0 ∧ s'.mks = mks ∧ s'.m = ⟨os, ar.set a (.wr 0 9 .sc (pre ++ (l.map (ren m)).map .str))⟩ ∧ look 1 s'.ts = .map mid ∧ look 2 s'.ts = v2 ∧ look 3 s'.ts = v3 ∧ look 6 s'.ts = v6) ?_ N l.length _ ⟨0, ts, Nat.zero_le _, rfl, by rw [← hself], l1, l2, l3, l6, l7, l17, l18, l19⟩ hN
  rintro k _ ⟨i, ts, hi, rfl, rfl, l1, l2, l3, l6, l7, l17, l18, l19⟩
  by_cases hlt : i < l.length
  · have w1 : wrapF .i64 ((i : Int) + 1) = ((i + 1 : Nat) : Int) := wrap_succ (by omega)
    have hp : (0 : Int) ≤ (i : Int) := by omega
    obtain ⟨x, hx⟩ : ∃ x, l[i]? = some x := ⟨_, List.getElem?_eq_getElem hlt⟩
    obtain ⟨hcell, hnext⟩ := rc_next pre m l i x hx
    have hlen := rc_len pre m l i hi
    rw [ho] at hcell hnext hlen
    have hC1 : off + i + 1 ≤ (rc pre m l i).length := by rw [hlen]; omega
    have hrow : rowOf ⟨os, ar.set a (.wr 0 9 .sc (rc pre m l i))⟩ a 0 = some (9, .sc, rc pre m l i) := rowOf_eq (by simp [hal])
    have hf := find_asE x m
    cases hk : lkS m x with
    | none =>
      have hr : ren m x = x := by simp [ren, hk]
      have hsame : rc pre m l i = rc pre m l (i + 1) := by
        rw [← hnext, hr]
        obtain ⟨hlt', hg⟩ := List.getElem?_eq_some_iff.1 hcell
        rw [← hg, ← List.drop_eq_getElem_cons hlt', List.take_append_drop]
      rw [hk] at hf
      simp -implicitDefEqProofs [c83b0, l1, l7, l17, l18, l19, hlt, hp, w1, hrow, hcell, hm, hf, keyK, lkpA]
      exact ⟨_, by omega, i + 1, by omega, rfl, _, ⟨rfl, by rw [hsame]⟩, by simp [l1], by simp [l2], by simp [l3], by simp [l6], by simp [l7], by simp [l17], by simp [l18], by simp⟩
    | some y =>
      have hr : ren m x = y := by simp [ren, hk]
      rw [hr] at hnext
      rw [hk] at hf
      simp -implicitDefEqProofs [c83b0, l1, l7, l17, l18, l19, hlt, hp, w1, hrow, hcell, hm, hf, keyK, lkpA, hC1, hnext]
      exact ⟨_, by omega, i + 1, by omega, rfl, _, ⟨rfl, rfl⟩, by simp [l1], by simp [l2], by simp [l3], by simp [l6], by simp [l7], by simp [l17], by simp [l18], by simp⟩
  · have hi' : i = l.length := by omega
    subst hi'
    have he := rc_end pre m l
    simp -implicitDefEqProofs [c83b0, l1, l2, l3, l6, l18, l19]
    rw [he]
    simp
end
section
variable {G : Nat → Option AV} {cl : Caller} {yl : Nat → List AV → Mem → Option (AV × Mem)} {N N0 : Nat}
theorem mv138 (os : List Obj) (ar : List Arr) (a g : Nat) (l : List Str) (s : Str) (ha : ar[a]? = some (.wr g 9 .sc (l.map .str))) (hl : l.length < big) (hN : l.length < N) :
    callA G true cl yl N c138 [.osl a g 0 l.length, .str s] ⟨os, ar⟩ = some (.int .i64 (firstN (fun x => !(s == x)) l), ⟨os, ar⟩) := by
  unfold big at hl
  have hrow : rowOf ⟨os, ar⟩ a g = some (9, .sc, l.map .str) := rowOf_eq ha
  have hle := twa_le (fun x => !(s == x)) l
  obtain ⟨e, ⟨ts, M, mks⟩, h1, h2, rfl, rfl, h5⟩ := iter_while (mu := true) (step := evalC G true cl yl N c138b0) (an := ⟨[0, 1, 7, 8], [(8, none)]⟩) (kk := os.length) (m := ar.length)
    (fun k st => ∃ i ts, i ≤ (l.takeWhile (fun x => !(s == x))).length ∧ k = (l.takeWhile (fun x => !(s == x))).length - i ∧ st = ⟨ts, ⟨os, ar⟩, []⟩ ∧ look 0 ts = .osl a g 0 l.length ∧ look 1 ts = .str s ∧ look 7 ts = .int .i64 l.length ∧ look 8 ts = .int .i64 (i : Nat))
    (fun e s' => s'.m = ⟨os, ar⟩ ∧ s'.mks = [] ∧ ((e = .exit 0 ∧ (l.takeWhile (fun x => !(s == x))).length = l.length) ∨ (e = .ret ∧ ¬ (l.takeWhile (fun x => !(s == x))).length = l.length ∧ look 4 s'.ts = .int .i64 (l.takeWhile (fun x => !(s == x))).length)))
    (by
      rintro k _ ⟨i, ts, hi, rfl, rfl, l0, l1, l7, l8⟩
      by_cases hlt : i < (l.takeWhile (fun x => !(s == x))).length
      · obtain ⟨hx, hg⟩ := twa_get (List.getElem?_eq_getElem hlt)
        generalize (l.takeWhile (fun x => !(s == x)))[i] = x at hx hg
        obtain ⟨hil, hx'⟩ := List.getElem?_eq_some_iff.1 hx
        have w1 : wrapF .i64 ((i : Int) + 1) = ((i + 1 : Nat) : Int) := wrap_succ (by omega)
        have hp : (0 : Int) ≤ (i : Int) := by omega
        have hg' : (s == x) = false := by simpa using hg
        simp -implicitDefEqProofs [c138b0, hil, hx', strA, hg', w1, hp, l0, l1, l7, l8, hrow, hx]
        refine ⟨_, by omega, i + 1, by omega, rfl, ?_⟩
        simp [l0, l1, l7]
      · have hi' : i = (l.takeWhile (fun x => !(s == x))).length := by omega
        rcases twa_end (g := fun x => !(s == x)) l with k | ⟨y, k1, k2⟩
        · have hil : ¬ i < l.length := by omega
          simp -implicitDefEqProofs [c138b0, hil, hi', k, l7, l8]
        · obtain ⟨hil, hx'⟩ := List.getElem?_eq_some_iff.1 k1
          have hp : (0 : Int) ≤ ((l.takeWhile (fun x => !(s == x))).length : Int) := by omega
          have hne : ¬ (l.takeWhile (fun x => !(s == x))).length = l.length := by omega
          have k2' : (s == y) = true := by simpa using k2
          subst hi'
          generalize (l.takeWhile (fun x => !(s == x))).length = i at *
          simp -implicitDefEqProofs [c138b0, hil, hx', hp, strA, k2', hne, l0, l1, l7, l8, hrow, k1])
    N _ ⟨[(8, .int .i64 0), (7, .int .i64 l.length), (6, .osl a g 0 l.length), (4, .int .i64 0), (0, .osl a g 0 l.length), (1, .str s)], ⟨os, ar⟩, []⟩ ⟨0, _, Nat.zero_le _, rfl, rfl, rfl, rfl, rfl, rfl⟩ (by omega)
  rcases h5 with ⟨rfl, h5⟩ | ⟨rfl, h5, h6⟩
  · have : firstN (fun x => !(s == x)) l = -1 := by unfold firstN; rw [if_pos h5]
    rw [this]
    simp -implicitDefEqProofs [c138, hrow, h1]
  · have : firstN (fun x => !(s == x)) l = (l.takeWhile (fun x => !(s == x))).length := by unfold firstN; rw [if_neg h5]
    rw [this]
    simp only [] at h6
    simp -implicitDefEqProofs [c138, hrow, h1, h6]
theorem mv107 (os : List Obj) (ar : List Arr) (a g : Nat) (l : List Str) (s : Str) (h : cl 138 [.osl a g 0 l.length, .str s] ⟨os, ar⟩ = some (.int .i64 (firstN (fun x => !(s == x)) l), ⟨os, ar⟩)) :
    callA G true cl yl N c107 [.osl a g 0 l.length, .str s] ⟨os, ar⟩ = some (.bool (l.contains s), ⟨os, ar⟩) := by
  rw [any_contains]
  by_cases hall : l.all (fun x => !(s == x)) = true
  · have : firstN (fun x => !(s == x)) l = -1 := by unfold firstN; rw [if_pos ((twa_all l).2 hall)]
    rw [this] at h
    rw [hall]
    simp -implicitDefEqProofs [c107, h]
  · have hne : ¬ (l.takeWhile (fun x => !(s == x))).length = l.length := fun hh => hall ((twa_all l).1 hh)
    have : firstN (fun x => !(s == x)) l = (l.takeWhile (fun x => !(s == x))).length := by unfold firstN; rw [if_neg hne]
    rw [this] at h
    have hall' : l.all (fun x => !(s == x)) = false := by simpa using hall
    rw [hall']
    simp -implicitDefEqProofs [c107, h]
def nc6 (op so nn mm : Int) (nv kv : AV) : List AV := [.int .i64 op, nv, .int .i64 so, .int .i64 nn, .int .i64 mm, kv]
theorem mv106_cal (so nn mm : Int) (kv : AV) (a k : Nat) (os : List Obj) (ar : List Arr) (cs : List AV) (ha : ar[a]? = some (.wr 0 9 .sc cs)) :
    callA G true cl yl N c106 [.agg (nc6 10 so nn mm (.osl a 0 0 (k + 1)) kv)] ⟨os, ar⟩ = some (if k = 0 then .slc .shared [] else .osl a 0 1 k, ⟨os ++ [.cells (nc6 10 so nn mm (.osl a 0 0 (k + 1)) kv)], ar⟩) := by
  have hrow : ∀ os, rowOf ⟨os, ar⟩ a 0 = some (9, .sc, cs) := fun os => rowOf_eq ha
  unfold nc6
  cases k with
  | zero => simp -implicitDefEqProofs [c106, hrow, optV]
  | succ k =>
    have hm : (1 : Int) < (k : Int) + 1 + 1 := by omega
    have hm2 : (0 : Int) ≤ (k : Int) + 1 + 1 := by omega
    simp -implicitDefEqProofs [c106, hrow, hm, hm2, optV]
theorem mv106_use (op so nn mm : Int) (nv kv : AV) (os : List Obj) (ar : List Arr) (h : 2 ≤ op ∧ op < 10) (hn : nv ≠ .undef) :
    callA G true cl yl N c106 [.agg (nc6 op so nn mm nv kv)] ⟨os, ar⟩ = some (nv, ⟨os ++ [.cells (nc6 op so nn mm nv kv)], ar⟩) := by
  have k1 : (op == 10) = false := by simp; omega
  have k2 : decide (op ≥ 2) = true := by simp; omega
  have k2' : 2 ≤ op := h.1
  have k3 : op < 10 := h.2
  unfold nc6
  cases nv with
  | undef => exact absurd rfl hn
  | _ => simp -implicitDefEqProofs [c106, k1, k2, k2', k3]
theorem mv106_no (op so nn mm : Int) (nv kv : AV) (os : List Obj) (ar : List Arr) (h : op < 2 ∨ 10 < op) :
    callA G true cl yl N c106 [.agg (nc6 op so nn mm nv kv)] ⟨os, ar⟩ = some (.slc .full [], ⟨os ++ [.cells (nc6 op so nn mm nv kv)], ar⟩) := by
  have k1 : (op == 10) = false := by simp; omega
  unfold nc6
  by_cases h2 : op < 2
  · have k2 : ¬ 2 ≤ op := by omega
    simp -implicitDefEqProofs [c106, k1, k2]
  · have k2 : 2 ≤ op := by omega
    have k3 : ¬ op < 10 := by omega
    simp -implicitDefEqProofs [c106, k1, k2, k3]
theorem mv108_no (op so nn mm : Int) (nv kv : AV) (os : List Obj) (ar : List Arr) (h : op < 16) :
    callA G true cl yl N c108 [.agg (nc6 op so nn mm nv kv)] ⟨os, ar⟩ = some (.bool false, ⟨os ++ [.cells (nc6 op so nn mm nv kv)], ar⟩) := by
  have k1 : (op == 16) = false := by simp; omega
  have k2 : (op == 17) = false := by simp; omega
  unfold nc6
  simp -implicitDefEqProofs [c108, k1, k2]
theorem mv108_yes (op so nn mm : Int) (kv : AV) (a : Nat) (cs : List AV) (os : List Obj) (ar : List Arr) (h : op = 16 ∨ op = 17) (ha : ar[a]? = some (.wr 0 9 .sc cs)) :
    callA G true cl yl N c108 [.agg (nc6 op so nn mm (.osl a 0 0 1) kv)] ⟨os, ar⟩ = some (.bool true, ⟨os ++ [.cells (nc6 op so nn mm (.osl a 0 0 1) kv)], ar⟩) := by
  have hrow : ∀ os, rowOf ⟨os, ar⟩ a 0 = some (9, .sc, cs) := fun os => rowOf_eq ha
  unfold nc6
  rcases h with rfl | rfl
  · simp -implicitDefEqProofs [c108, hrow]
  · simp -implicitDefEqProofs [c108, hrow]
end
def cand (D : Nat → Str) (x : Str) (i : Nat) : Str := x.take (16 - (D i).length) ++ D i
def frB (tk : List Str) (s : Str) : Bool := tk.contains s || !isId s
def frF (D : Nat → Str) (x : Str) (tk : List Str) : Nat → Nat → Str → Option Str
  | 0, _, _ => none
  | k + 1, i, s => if frB tk s then frF D x tk k (i + 1) (cand D x i) else some s
section
variable {G : Nat → Option AV} {cl : Caller} {yl : Nat → List AV → Mem → Option (AV × Mem)} {N N0 : Nat}
theorem mv120_loop (D : Nat → Str) (hD : ∀ i, (D i).length ≤ 15) (x : Str) (hx : x.length < big) (tk : List Str) (tv : AV) (M : Mem) (hT : tv ≠ .undef) (kk mm : Nat)
    (h107 : ∀ s, cl 107 [tv, .str s] M = some (.bool (tk.contains s), M)) (h118 : ∀ s, cl 118 [.str s] M = some (.bool (isId s), M)) (h152 : ∀ i : Nat, i < big → cl 152 [.int .i64 (i : Nat)] M = some (.str (D i), M)) :
    ∀ (K n i : Nat) (s r : Str) (ts : Slots), frF D x tk K i s = some r → K < n → i + K < big → look 0 ts = .str x → look 1 ts = tv → look 5 ts = .str s → look 6 ts = .int .i64 (i : Nat) →
      ∃ ts', iter true (evalC G true cl yl N0 c120b0) ⟨[0, 1, 5, 6], [(5, none), (6, none)]⟩ kk mm n ⟨ts, M, []⟩ = some (.exit 0, ⟨ts', M, []⟩) ∧ look 5 ts' = .str r := by
  intro K
  induction K with
  | zero => intro n i s r ts h; simp [frF] at h
  | succ K ih =>
    intro n i s r ts h hn hi l0 l1 l5 l6
    unfold big at hi hx
    obtain ⟨n, rfl⟩ : ∃ m, n = m + 1 := ⟨n - 1, by omega⟩
    simp only [frF] at h
    cases hb : frB tk s with
    | false =>
      rw [hb] at h
      simp at h
      subst h
      unfold frB at hb
      have b1 : tk.contains s = false := by
        cases hh : tk.contains s with
        | false => rfl
        | true => rw [hh] at hb; simp at hb
      have b2 : isId s = true := by
        rw [b1] at hb; simpa using hb
      have k1 := h107 s
      have k2 := h118 s
      rw [b1] at k1
      rw [b2] at k2
      simp -implicitDefEqProofs [iter, c120b0, l0, l1, l5, l6, k1, k2]
    | true =>
      rw [hb] at h
      simp only [if_true] at h
      have k1 := h107 s
      have k2 := h118 s
      have k3 := h152 i (by unfold big; omega)
      have w1 : wrapF .i64 ((i : Int) + 1) = ((i + 1 : Nat) : Int) := wrap_succ (by omega)
      have hd := hD i
      have w2 : wrapF .i64 (16 - ((D i).length : Int)) = ((16 - (D i).length : Nat) : Int) := by
        rw [wrap_id (by omega) (by omega)]; omega
      have hcand : x.take (min x.length (16 - (D i).length)) ++ D i = cand D x i := by
        unfold cand
        congr 1
        by_cases hh : x.length ≤ 16 - (D i).length
        · rw [Nat.min_eq_left hh, List.take_of_length_le (Nat.le_refl _), List.take_of_length_le hh]
        · rw [Nat.min_eq_right (by omega)]
      have hmin : (if (16 - (D i).length : Nat) < x.length then ((16 - (D i).length : Nat) : Int) else (x.length : Int)) = ((min x.length (16 - (D i).length) : Nat) : Int) := by
        split <;> omega
      have hle : min x.length (16 - (D i).length) ≤ x.length := Nat.min_le_left _ _
      generalize hE : min x.length (16 - (D i).length) = E at hcand hmin hle
      have hbd : E + (D i).length ≤ 9223372036854775807 := by omega
      have hs : ∃ ts', evalC G true cl yl N0 c120b0 ⟨ts, M, []⟩ = some (.normal, ⟨ts', M, []⟩) ∧ look 0 ts' = .str x ∧ look 1 ts' = tv ∧ look 5 ts' = .str (cand D x i) ∧ look 6 ts' = .int .i64 ((i + 1 : Nat) : Int) := by
        cases b1 : tk.contains s with
        | true =>
          rw [b1] at k1
          simp -implicitDefEqProofs [c120b0, l0, l1, l5, l6, k1, k3, w1, w2, hmin, optV, hle, hcand, strA, hbd]
        | false =>
          have b2 : isId s = false := by
            unfold frB at hb; rw [b1] at hb; simpa using hb
          rw [b1] at k1
          rw [b2] at k2
          simp -implicitDefEqProofs [c120b0, l0, l1, l5, l6, k1, k2, k3, w1, w2, hmin, optV, hle, hcand, strA, hbd]
      obtain ⟨t1, e1, a0, a1, a5, a6⟩ := hs
      obtain ⟨t2, e2, e3⟩ := ih n (i + 1) (cand D x i) r t1 h (by omega) (by unfold big; omega) a0 a1 a5 a6
      refine ⟨t2, ?_, e3⟩
      simp only [iter, e1]
      exact e2
theorem mv120 (D : Nat → Str) (hD : ∀ i, (D i).length ≤ 15) (x : Str) (hx : x.length < big) (hid : isId x = true) (tk : List Str) (tv : AV) (M : Mem) (hT : tv ≠ .undef)
    (h107 : ∀ s, cl 107 [tv, .str s] M = some (.bool (tk.contains s), M)) (h118 : ∀ s, cl 118 [.str s] M = some (.bool (isId s), M)) (h152 : ∀ i : Nat, i < big → cl 152 [.int .i64 (i : Nat)] M = some (.str (D i), M))
    (K : Nat) (r : Str) (h : frF D x tk K 2 x = some r) (hK : K + 2 < big) (hN : K < N) : callA G true cl yl N c120 [.str x, tv] M = some (.str r, M) := by
  have k1 := h118 x
  rw [hid] at k1
  obtain ⟨ts', h1, h2⟩ := mv120_loop (G := G) (yl := yl) (N0 := N) D hD x hx tk tv M hT M.objs.length M.arrs.length h107 h118 h152 K N 2 x r
    [(6, .int .i64 2), (5, .str x), (11, .str x), (10, .bool false), (9, .bool true), (8, .str x), (4, .str []), (0, .str x), (1, tv)] h hN (by omega) rfl rfl rfl rfl
  simp -implicitDefEqProofs [c120, k1, h1, h2]
end
def celL : AV → List AV
  | .agg cs => cs
  | _ => []
def flC (vs : List AV) : List AV := (vs.map celL).flatten
def NmAt (ar : List Arr) (ns : List Str) (lo m : Nat) (nv : AV) : Prop := (ns = [] ∧ nv = .slc .full [] ∧ lo ≤ m) ∨ (ns ≠ [] ∧ lo < m ∧ nv = .osl lo 0 0 ns.length ∧ ar[lo]? = some (.wr 0 9 .sc (ns.map .str)))
def KvAt (ar : List Arr) (n b : Nat) (vs : List AV) (kv : AV) (m hi : Nat) : Prop := (n = 0 ∧ kv = .slc .full []) ∨ (∃ k, n = k + 1 ∧ kv = .osl b k 0 (k + 1) ∧ ar[b]? = some (.wr k 30 (.ag 6) (flC vs)) ∧ m ≤ b ∧ b < hi)
mutual
def Ld (ar : List Arr) : Nd → Nat → Nat → AV → Prop
  | .mk op ns so nn mm l, lo, hi, v => ∃ nv kv m b vs, v = .agg (nc6 op so nn mm nv kv) ∧ NmAt ar ns lo m nv ∧ m ≤ hi ∧ KvAt ar l.length b vs kv m hi ∧ LdL ar l m hi b vs
def LdL (ar : List Arr) : List Nd → Nat → Nat → Nat → List AV → Prop
  | [], lo, hi, b, vs => vs = []
  | x :: xs, lo, hi, b, vs => ∃ v vs' l1 h1, vs = v :: vs' ∧ lo ≤ l1 ∧ l1 ≤ h1 ∧ h1 ≤ hi ∧ (b < l1 ∨ h1 ≤ b) ∧ Ld ar x l1 h1 v ∧ LdL ar xs h1 hi b vs'
end
theorem NmAt.frame {ar ar' : List Arr} {ns : List Str} {lo m : Nat} {nv : AV} (hf : ∀ i, lo ≤ i → i < m → ar'[i]? = ar[i]?) (h : NmAt ar ns lo m nv) : NmAt ar' ns lo m nv := by
  rcases h with h | ⟨h1, h2, h3, h4⟩
  · exact .inl h
  · exact .inr ⟨h1, h2, h3, by rw [hf lo (Nat.le_refl _) h2]; exact h4⟩
theorem KvAt.frame {ar ar' : List Arr} {n b : Nat} {vs : List AV} {kv : AV} {m hi : Nat} (hf : ∀ i, m ≤ i → i < hi → ar'[i]? = ar[i]?) (h : KvAt ar n b vs kv m hi) : KvAt ar' n b vs kv m hi := by
  rcases h with h | ⟨k, h1, h2, h3, h4, h5⟩
  · exact .inl h
  · exact .inr ⟨k, h1, h2, by rw [hf b h4 h5]; exact h3, h4, h5⟩
mutual
theorem Ld.frame {ar ar' : List Arr} : ∀ (n : Nd) {lo hi : Nat} {v : AV}, (∀ i, lo ≤ i → i < hi → ar'[i]? = ar[i]?) → Ld ar n lo hi v → Ld ar' n lo hi v
  | .mk op ns so nn mm l, lo, hi, v, hf, h => by
    simp only [Ld] at h ⊢
    obtain ⟨nv, kv, m, b, vs, h1, h2, h3, h4, h5⟩ := h
    have hm : lo ≤ m := by rcases h2 with ⟨_, _, h⟩ | ⟨_, h, _⟩ <;> omega
    exact ⟨nv, kv, m, b, vs, h1, h2.frame (fun i a c => hf i a (by omega)), h3, h4.frame (fun i a c => hf i (by omega) c), LdL.frame l (fun i a c => hf i (by omega) c) h5⟩
theorem LdL.frame {ar ar' : List Arr} : ∀ (l : List Nd) {lo hi b : Nat} {vs : List AV}, (∀ i, lo ≤ i → i < hi → ar'[i]? = ar[i]?) → LdL ar l lo hi b vs → LdL ar' l lo hi b vs
  | [], lo, hi, b, vs, hf, h => by simp only [LdL] at h ⊢; exact h
  | x :: xs, lo, hi, b, vs, hf, h => by
    simp only [LdL] at h ⊢
    obtain ⟨v, vs', l1, h1, e, a1, a2, a3, a4, a5, a6⟩ := h
    exact ⟨v, vs', l1, h1, e, a1, a2, a3, a4, Ld.frame x (fun i a c => hf i (by omega) (by omega)) a5, LdL.frame xs (fun i a c => hf i (by omega) c) a6⟩
end
@[simp] theorem cells_osl (a g o n : Nat) : cells (.osl a g o n) = some [.osl a g o n] := rfl
@[simp] theorem cells_apt (a g o : Nat) : cells (.apt a g o) = some [.apt a g o] := rfl
def Ends (r : Option (AV × Mem)) (P : AV → Mem → Prop) : Prop := match r with
  | some (v, M) => P v M
  | none => False
@[simp] theorem Ends_some (v : AV) (M : Mem) (P : AV → Mem → Prop) : Ends (some (v, M)) P = P v M := rfl
def Cpd (os : List Obj) (ar : List Arr) (n : Nd) (v : AV) (M : Mem) : Prop := ∃ J R, M.objs = os ++ J ∧ M.arrs = ar ++ R ∧ Ld (ar ++ R) n ar.length (ar ++ R).length v
section
variable {G : Nat → Option AV} {cl : Caller} {yl : Nat → List AV → Mem → Option (AV × Mem)} {N N0 : Nat}
def H74 (cl : Caller) (ns : List Str) : Prop := ∀ os ar, cl 74 [.slc .shared (ns.map .str)] ⟨os, ar⟩ = some (match ns with
  | [] => (.slc .full [], ⟨os, ar⟩)
  | s :: ss => (.osl ar.length 0 0 (ss.length + 1), ⟨os, ar ++ [.wr 0 9 .sc ((s :: ss).map .str)]⟩))
theorem mv51_at (n : Nd) (hl : n.l = []) (h74 : H74 cl n.ns) (os : List Obj) (ar : List Arr) (hN : 1 < N) : Ends (callA G true cl yl N c51 [av n] ⟨os, ar⟩) (Cpd os ar n) := by
  obtain ⟨N, rfl⟩ : ∃ m, N = m + 2 := ⟨N - 2, by omega⟩
  cases n with
  | mk op ns so nn mm l =>
    simp only [Nd.l] at hl
    subst hl
    have d0 : (Nd.mk op ns so nn mm []).ns = ns := rfl
    have d1 : av (.mk op ns so nn mm []) = .agg [.int .i64 op, .slc .shared (ns.map .str), .int .i64 so, .int .i64 nn, .int .i64 mm, .slc .shared []] := rfl
    rw [d0] at h74
    rw [d1]
    unfold H74 at h74
    cases ns with
    | nil =>
      simp at h74
      simp -implicitDefEqProofs [c51, c51b0, iter, h74]
      refine ⟨_, [], rfl, by simp, ?_⟩
      simp only [Ld]
      exact ⟨.slc .full [], .slc .full [], ar.length, 0, [], rfl, .inl ⟨rfl, rfl, Nat.le_refl _⟩, by simp, .inl ⟨rfl, rfl⟩, rfl⟩
    | cons s ss =>
      simp at h74
      simp -implicitDefEqProofs [c51, c51b0, iter, h74]
      refine ⟨_, _, rfl, rfl, ?_⟩
      simp only [Ld]
      exact ⟨.osl ar.length 0 0 (ss.length + 1), .slc .full [], ar.length + 1, 0, [], rfl, .inr ⟨by simp, by omega, rfl, by simp⟩, by simp, .inl ⟨rfl, rfl⟩, rfl⟩
end
theorem Ends.out {r : Option (AV × Mem)} {P : AV → Mem → Prop} (h : Ends r P) : ∃ v M, r = some (v, M) ∧ P v M := by
  match r, h with
  | some (v, M), h => exact ⟨v, M, rfl, h⟩
theorem cpd_fun {cl : Caller} {a : Nd} (h : ∀ os ar, Ends (cl 51 [av a] ⟨os, ar⟩) (Cpd os ar a)) : ∃ (NV KV : List Obj → List Arr → AV) (J : List Obj → List Arr → List Obj) (R : List Obj → List Arr → List Arr),
    (∀ os ar, cl 51 [av a] ⟨os, ar⟩ = some (.agg (nc6 a.op a.so a.nn a.mm (NV os ar) (KV os ar)), ⟨os ++ J os ar, ar ++ R os ar⟩)) ∧ ∀ os ar, Ld (ar ++ R os ar) a ar.length (ar ++ R os ar).length (.agg (nc6 a.op a.so a.nn a.mm (NV os ar) (KV os ar))) := by
  have k : ∀ os ar, ∃ p : AV × AV × List Obj × List Arr, cl 51 [av a] ⟨os, ar⟩ = some (.agg (nc6 a.op a.so a.nn a.mm p.1 p.2.1), ⟨os ++ p.2.2.1, ar ++ p.2.2.2⟩) ∧ Ld (ar ++ p.2.2.2) a ar.length (ar ++ p.2.2.2).length (.agg (nc6 a.op a.so a.nn a.mm p.1 p.2.1)) := by
    intro os ar
    obtain ⟨v, ⟨o', a'⟩, e, J, R, h1, h2, h3⟩ := (h os ar).out
    simp only at h1 h2
    subst h1 h2
    cases a with
    | mk op ns so nn mm l =>
      have h4 := h3
      simp only [Ld] at h4
      obtain ⟨nv, kv, m, b, vs, rfl, _⟩ := h4
      exact ⟨(nv, kv, J, R), e, h3⟩
  exact ⟨fun os ar => (k os ar).choose.1, fun os ar => (k os ar).choose.2.1, fun os ar => (k os ar).choose.2.2.1, fun os ar => (k os ar).choose.2.2.2, fun os ar => (k os ar).choose_spec.1, fun os ar => (k os ar).choose_spec.2⟩
theorem frame_app {ar R X : List Arr} {n : Nd} {lo hi : Nat} {v : AV} (hh : hi ≤ (ar ++ R).length) (h : Ld (ar ++ R) n lo hi v) : Ld (ar ++ (R ++ X)) n lo hi v := by
  refine Ld.frame n (fun i _ hi' => ?_) h
  rw [← List.append_assoc]
  exact List.getElem?_append_left (by omega)
theorem ld_one0 (op so nn mm : Int) (a : Nd) (ar R : List Arr) (nv kv : AV) (X : Arr) (h : Ld (ar ++ R) a ar.length (ar ++ R).length (.agg (nc6 a.op a.so a.nn a.mm nv kv))) :
    Ld (ar ++ (R ++ [X, .wr 0 30 (.ag 6) [.int .i64 a.op, nv, .int .i64 a.so, .int .i64 a.nn, .int .i64 a.mm, kv]])) (.mk op [] so nn mm [a]) ar.length (ar ++ (R ++ [X, .wr 0 30 (.ag 6) [.int .i64 a.op, nv, .int .i64 a.so, .int .i64 a.nn, .int .i64 a.mm, kv]])).length
      (.agg [.int .i64 op, .slc .full [], .int .i64 so, .int .i64 nn, .int .i64 mm, .osl (ar.length + (R.length + 1)) 0 0 1]) := by
  have hl : (ar ++ R).length = ar.length + R.length := List.length_append
  simp only [Ld]
  refine ⟨.slc .full [], _, ar.length, ar.length + (R.length + 1), [.agg (nc6 a.op a.so a.nn a.mm nv kv)], rfl, .inl ⟨rfl, rfl, Nat.le_refl _⟩, by simp, .inr ⟨0, rfl, rfl, ?_, by omega, by simp⟩, ?_⟩
  · rw [List.getElem?_append_right (by omega)]
    rw [List.getElem?_append_right (by omega)]
    simp [flC, celL, nc6]
  · simp only [LdL]
    exact ⟨_, [], ar.length, ar.length + R.length, rfl, Nat.le_refl _, by omega, by simp, .inr (by omega), frame_app (by omega) (by rw [hl] at h; exact h), rfl⟩
theorem ld_one1 (op so nn mm : Int) (x : Str) (a : Nd) (ar R : List Arr) (nv kv : AV) (X : Arr) (h : Ld ((ar ++ [.wr 0 9 .sc [.str x]]) ++ R) a (ar ++ [Arr.wr 0 9 .sc [.str x]]).length ((ar ++ [Arr.wr 0 9 .sc [.str x]]) ++ R).length (.agg (nc6 a.op a.so a.nn a.mm nv kv))) :
    Ld (ar ++ .wr 0 9 .sc [.str x] :: (R ++ [X, .wr 0 30 (.ag 6) [.int .i64 a.op, nv, .int .i64 a.so, .int .i64 a.nn, .int .i64 a.mm, kv]])) (.mk op [x] so nn mm [a]) ar.length (ar ++ .wr 0 9 .sc [.str x] :: (R ++ [X, .wr 0 30 (.ag 6) [.int .i64 a.op, nv, .int .i64 a.so, .int .i64 a.nn, .int .i64 a.mm, kv]])).length
      (.agg [.int .i64 op, .osl ar.length 0 0 1, .int .i64 so, .int .i64 nn, .int .i64 mm, .osl (ar.length + (R.length + 1 + 1)) 0 0 1]) := by
  have e : ∀ Y : List Arr, ar ++ .wr 0 9 .sc [.str x] :: (R ++ Y) = (ar ++ [.wr 0 9 .sc [.str x]]) ++ (R ++ Y) := by intro Y; simp
  have hl : (ar ++ [Arr.wr 0 9 .sc [.str x]]).length = ar.length + 1 := by simp
  have hl2 : (ar ++ [Arr.wr 0 9 .sc [.str x]] ++ R).length = ar.length + 1 + R.length := by simp; omega
  have h0 : (ar ++ .wr 0 9 .sc [.str x] :: (R ++ [X, .wr 0 30 (.ag 6) [.int .i64 a.op, nv, .int .i64 a.so, .int .i64 a.nn, .int .i64 a.mm, kv]]))[ar.length]? = some (.wr 0 9 .sc [.str x]) := by simp
  simp only [Ld]
  refine ⟨.osl ar.length 0 0 1, _, ar.length + 1, ar.length + (R.length + 1 + 1), [.agg (nc6 a.op a.so a.nn a.mm nv kv)], rfl, .inr ⟨by simp, by omega, rfl, h0⟩, by simp, .inr ⟨0, rfl, rfl, ?_, by omega, by simp⟩, ?_⟩
  · rw [e, List.getElem?_append_right (by omega)]
    rw [List.getElem?_append_right (by omega), hl]
    rw [show ar.length + (R.length + 1 + 1) - (ar.length + 1) - R.length = 1 by omega]
    simp [flC, celL, nc6]
  · simp only [LdL]
    rw [hl, hl2] at h
    refine ⟨_, [], ar.length + 1, ar.length + 1 + R.length, rfl, Nat.le_refl _, by omega, by simp; omega, .inr (by omega), ?_, rfl⟩
    rw [e]
    exact frame_app (by omega) h
theorem ld_two0 (op so nn mm : Int) (a b : Nd) (ar R R2 : List Arr) (nv kv nw kw : AV) (X Y Z : Arr) (h : Ld (ar ++ R) a ar.length (ar ++ R).length (.agg (nc6 a.op a.so a.nn a.mm nv kv)))
    (h2 : Ld ((ar ++ (R ++ [X, Y])) ++ R2) b (ar ++ (R ++ [X, Y])).length ((ar ++ (R ++ [X, Y])) ++ R2).length (.agg (nc6 b.op b.so b.nn b.mm nw kw))) :
    Ld (ar ++ (R ++ X :: .wr 1 30 (.ag 6) [.int .i64 a.op, nv, .int .i64 a.so, .int .i64 a.nn, .int .i64 a.mm, kv, .int .i64 b.op, nw, .int .i64 b.so, .int .i64 b.nn, .int .i64 b.mm, kw] :: (R2 ++ [Z]))) (.mk op [] so nn mm [a, b]) ar.length
      (ar ++ (R ++ X :: .wr 1 30 (.ag 6) [.int .i64 a.op, nv, .int .i64 a.so, .int .i64 a.nn, .int .i64 a.mm, kv, .int .i64 b.op, nw, .int .i64 b.so, .int .i64 b.nn, .int .i64 b.mm, kw] :: (R2 ++ [Z]))).length
      (.agg [.int .i64 op, .slc .full [], .int .i64 so, .int .i64 nn, .int .i64 mm, .osl (ar.length + (R.length + 1)) 1 0 2]) := by
  have hl : (ar ++ R).length = ar.length + R.length := List.length_append
  have hA : (ar ++ (R ++ [X, Y])).length = ar.length + R.length + 2 := by simp; omega
  have hA2 : ((ar ++ (R ++ [X, Y])) ++ R2).length = ar.length + R.length + 2 + R2.length := by simp; omega
  generalize hW : Arr.wr 1 30 (.ag 6) [.int .i64 a.op, nv, .int .i64 a.so, .int .i64 a.nn, .int .i64 a.mm, kv, .int .i64 b.op, nw, .int .i64 b.so, .int .i64 b.nn, .int .i64 b.mm, kw] = W
  have hT : (ar ++ (R ++ X :: W :: (R2 ++ [Z]))).length = ar.length + R.length + 2 + R2.length + 1 := by simp; omega
  have e : ar ++ (R ++ X :: W :: (R2 ++ [Z])) = (ar ++ (R ++ [X, W])) ++ (R2 ++ [Z]) := by simp
  have hA' : (ar ++ (R ++ [X, W])).length = ar.length + R.length + 2 := by simp; omega
  simp only [Ld]
  refine ⟨.slc .full [], _, ar.length, ar.length + (R.length + 1), [.agg (nc6 a.op a.so a.nn a.mm nv kv), .agg (nc6 b.op b.so b.nn b.mm nw kw)], rfl, .inl ⟨rfl, rfl, Nat.le_refl _⟩, by simp, .inr ⟨1, rfl, rfl, ?_, by omega, by omega⟩, ?_⟩
  · rw [List.getElem?_append_right (by omega)]
    rw [List.getElem?_append_right (by omega)]
    rw [show ar.length + (R.length + 1) - ar.length - R.length = 1 by omega]
    simp [flC, celL, nc6, ← hW]
  · simp only [LdL]
    rw [hl] at h
    rw [hA, hA2] at h2
    refine ⟨_, _, ar.length, ar.length + R.length, rfl, Nat.le_refl _, by omega, by omega, .inr (by omega), frame_app (by omega) h, _, [], ar.length + R.length + 2, ar.length + R.length + 2 + R2.length, rfl, by omega, by omega, by omega, .inl (by omega), Ld.frame b (fun i c1 c2 => ?_) h2, rfl⟩
    have r1 := List.getElem?_append_right (l₁ := ar ++ (R ++ [X, Y])) (l₂ := R2) (i := i) (by omega)
    have r2 := List.getElem?_append_right (l₁ := ar ++ (R ++ [X, W])) (l₂ := R2 ++ [Z]) (i := i) (by omega)
    rw [e, r2, r1, hA, hA', List.getElem?_append_left (by omega)]
section
variable {G : Nat → Option AV} {cl : Caller} {yl : Nat → List AV → Mem → Option (AV × Mem)} {N N0 : Nat}
theorem mv51_one0 (op so nn mm : Int) (a : Nd) (h74 : H74 cl []) (hk : ∀ os ar, Ends (cl 51 [av a] ⟨os, ar⟩) (Cpd os ar a)) (os : List Obj) (ar : List Arr) (hN : 2 < N) : Ends (callA G true cl yl N c51 [av (.mk op [] so nn mm [a])] ⟨os, ar⟩) (Cpd os ar (.mk op [] so nn mm [a])) := by
  obtain ⟨N, rfl⟩ : ∃ m, N = m + 3 := ⟨N - 3, by omega⟩
  obtain ⟨NV, KV, J, R, h1, h2⟩ := cpd_fun hk
  have d1 : av (.mk op [] so nn mm [a]) = .agg [.int .i64 op, .slc .shared [], .int .i64 so, .int .i64 nn, .int .i64 mm, .slc .shared [av a]] := rfl
  rw [d1]
  unfold H74 at h74
  simp at h74
  have w0 : wrapF .i64 1 = 1 := by decide
  unfold nc6 at h1
  simp -implicitDefEqProofs [c51, c51b0, iter, h74, h1, w0, rowOf, flat, appM, srcOf]
  generalize os ++ _ = O
  refine ⟨_, _, rfl, rfl, ?_⟩
  exact ld_one0 op so nn mm a ar (R O ar) _ _ _ (h2 O ar)
theorem mv51_one1 (op so nn mm : Int) (x : Str) (a : Nd) (h74 : H74 cl [x]) (hk : ∀ os ar, Ends (cl 51 [av a] ⟨os, ar⟩) (Cpd os ar a)) (os : List Obj) (ar : List Arr) (hN : 2 < N) : Ends (callA G true cl yl N c51 [av (.mk op [x] so nn mm [a])] ⟨os, ar⟩) (Cpd os ar (.mk op [x] so nn mm [a])) := by
  obtain ⟨N, rfl⟩ : ∃ m, N = m + 3 := ⟨N - 3, by omega⟩
  obtain ⟨NV, KV, J, R, h1, h2⟩ := cpd_fun hk
  have d1 : av (.mk op [x] so nn mm [a]) = .agg [.int .i64 op, .slc .shared [.str x], .int .i64 so, .int .i64 nn, .int .i64 mm, .slc .shared [av a]] := rfl
  rw [d1]
  unfold H74 at h74
  simp at h74
  have w0 : wrapF .i64 1 = 1 := by decide
  unfold nc6 at h1
  simp -implicitDefEqProofs [c51, c51b0, iter, h74, h1, w0, rowOf, flat, appM, srcOf]
  generalize os ++ _ = O
  refine ⟨_, _, rfl, rfl, ?_⟩
  exact ld_one1 op so nn mm x a ar (R O _) _ _ _ (h2 O _)
theorem mv51_two (op so nn mm : Int) (a b : Nd) (h74 : H74 cl []) (hk : ∀ os ar, Ends (cl 51 [av a] ⟨os, ar⟩) (Cpd os ar a)) (hq : ∀ os ar, Ends (cl 51 [av b] ⟨os, ar⟩) (Cpd os ar b)) (os : List Obj) (ar : List Arr) (hN : 3 < N) :
    Ends (callA G true cl yl N c51 [av (.mk op [] so nn mm [a, b])] ⟨os, ar⟩) (Cpd os ar (.mk op [] so nn mm [a, b])) := by
  obtain ⟨N, rfl⟩ : ∃ m, N = m + 4 := ⟨N - 4, by omega⟩
  obtain ⟨NV, KV, J, R, h1, h2⟩ := cpd_fun hk
  obtain ⟨NW, KW, J2, R2, h3, h4⟩ := cpd_fun hq
  have d1 : av (.mk op [] so nn mm [a, b]) = .agg [.int .i64 op, .slc .shared [], .int .i64 so, .int .i64 nn, .int .i64 mm, .slc .shared [av a, av b]] := rfl
  rw [d1]
  unfold H74 at h74
  simp at h74
  have w0 : wrapF .i64 1 = 1 := by decide
  have w1 : wrapF .i64 2 = 2 := by decide
  unfold nc6 at h1 h3
  simp -implicitDefEqProofs [c51, c51b0, iter, h74, h1, h3, w0, w1, rowOf, flat, appM, srcOf]
  refine ⟨_, _, rfl, rfl, ?_⟩
  generalize os ++ [_, _, _] = O
  generalize os ++ _ = O2
  exact ld_two0 op so nn mm a b ar (R O ar) _ _ _ _ _ _ _ _ (h2 O ar) (h4 O2 _)
end
def uR (m : List (Str × Str)) (op : Int) (ns : List Str) : List Str := if op = 10 then (match ns with
    | [] => []
    | x :: xs => x :: xs.map (ren m)) else if 2 ≤ op ∧ op < 10 then ns.map (ren m) else ns
mutual
def apF (F : Str → List Str → Str) : List (Str × Str) → List Str → Nd → Nd × List Str
  | m, tk, .mk op ns so nn mm l => if op = 16 ∨ op = 17 then (match ns with
      | x :: xs => (.mk op (F x tk :: xs) so nn mm (apL F (ptS m x (F x tk)) (tk ++ [F x tk]) l).1, (apL F (ptS m x (F x tk)) (tk ++ [F x tk]) l).2)
      | [] => (.mk op [] so nn mm (apL F m tk l).1, (apL F m tk l).2))
    else (.mk op (uR m op ns) so nn mm (apL F m tk l).1, (apL F m tk l).2)
def apL (F : Str → List Str → Str) : List (Str × Str) → List Str → List Nd → List Nd × List Str
  | _, tk, [] => ([], tk)
  | m, tk, x :: xs => ((apF F m tk x).1 :: (apL F m (apF F m tk x).2 xs).1, (apL F m (apF F m tk x).2 xs).2)
end
section
variable {G : Nat → Option AV} {cl : Caller} {yl : Nat → List AV → Mem → Option (AV × Mem)} {N N0 : Nat}
@[simp] theorem rowOf_nil (b g : Nat) : rowOf ⟨[], []⟩ b g = none := rfl
theorem setAt_same {α : Type} (C cv : List α) (k : Nat) (h : (C.drop k).take cv.length = cv) (hk : k + cv.length ≤ C.length) : C.take k ++ (cv ++ C.drop (k + cv.length)) = C := by
  have : cv ++ C.drop (k + cv.length) = C.drop k := by
    conv => rhs; rw [← List.take_append_drop cv.length (C.drop k), h, List.drop_drop]
  rw [this, List.take_append_drop]
theorem set_same {α : Type} (l : List α) (i : Nat) (a : α) (h : l[i]? = some a) : l.set i a = l := by
  apply List.ext_getElem?
  intro j
  rw [List.getElem?_set]
  split
  · rename_i e; subst e
    have := (List.getElem?_eq_some_iff.1 h).1
    rw [if_pos this, h]
  · rfl
theorem ap_it1 (os : List Obj) (ar : List Arr) (O1 : List Obj) (A1 : List Arr) (op so nn mm : Int) (nv : AV) (p t mid b g len i : Nat) (C : List AV) (c0 c1 c2 c3 c4 c5 : AV) (mks : List Nat) (ts : Slots) (v6 : AV)
    (hi : i < len) (hl : len < big) (hp : os[p]? = some (.cells (nc6 op so nn mm nv (.osl b g 0 len)))) (hb : ar[b]? = some (.wr g 30 (.ag 6) C)) (hC : C.length = len * 6) (hc : (C.drop (i * 6)).take 6 = [c0, c1, c2, c3, c4, c5])
    (hcall : cl 83 [.agg [c0, c1, c2, c3, c4, c5], .map mid, .ptr t 0] ⟨os ++ [.cells [c0, c1, c2, c3, c4, c5]], ar⟩ = some (.agg [c0, c1, c2, c3, c4, c5], ⟨O1, A1⟩))
    (hO : O1[p]? = some (.cells (nc6 op so nn mm nv (.osl b g 0 len)))) (hA : A1[b]? = some (.wr g 30 (.ag 6) C))
    (l1 : look 1 ts = .map mid) (l2 : look 2 ts = .ptr t 0) (l3 : look 3 ts = .ptr p 0) (l6 : look 6 ts = v6) (l67 : look 67 ts = .osl b g 0 len) (l68 : look 68 ts = .int .i64 len) (l69 : look 69 ts = .int .i64 (i : Nat)) :
    ∃ ts', evalC G true cl yl N0 c83b1 ⟨ts, ⟨os, ar⟩, mks⟩ = some (.normal, ⟨ts', ⟨O1, A1⟩, mks⟩) ∧ look 1 ts' = .map mid ∧ look 2 ts' = .ptr t 0 ∧ look 3 ts' = .ptr p 0 ∧ look 6 ts' = v6 ∧ look 67 ts' = .osl b g 0 len ∧ look 68 ts' = .int .i64 len ∧ look 69 ts' = .int .i64 ((i + 1 : Nat) : Int) := by
  unfold big at hl
  have w1 : wrapF .i64 ((i : Int) + 1) = ((i + 1 : Nat) : Int) := wrap_succ (by omega)
  have hpi : (0 : Int) ≤ (i : Int) := by omega
  have hlt : (i : Int) < (len : Int) := by omega
  have r1 : ∀ O, rowOf ⟨O, ar⟩ b g = some (30, .ag 6, C) := fun O => rowOf_eq hb
  have r2 : ∀ O, rowOf ⟨O, A1⟩ b g = some (30, .ag 6, C) := fun O => rowOf_eq hA
  have hle : i * 6 + 6 ≤ C.length := by omega
  have hset : C.take (i * 6) ++ c0 :: c1 :: c2 :: c3 :: c4 :: c5 :: C.drop (i * 6 + 6) = C := setAt_same C [c0, c1, c2, c3, c4, c5] (i * 6) hc hle
  have hsame := set_same A1 b _ hA
  have hpl : p < os.length := (List.getElem?_eq_some_iff.1 hp).1
  have hp2 : ∀ X, (os ++ X)[p]? = some (.cells (nc6 op so nn mm nv (.osl b g 0 len))) := fun X => by rw [List.getElem?_append_left hpl]; exact hp
  unfold nc6 at hp2 hO
  simp -implicitDefEqProofs [c83b1, l1, l2, l3, l6, l67, l68, l69, hi, hpi, hlt, w1, r1, r2, hle, hc, hcall, hO, hp2, hset, hsame]
  done
end
theorem iter_true {step : St → Option (Ex × St)} {an : Ann} (k m : Nat) : ∀ (n : Nat) (s : St), iter true step an k m n s = iter true step an 0 0 n s
  | 0, s => rfl
  | n + 1, s => by
    simp only [iter]
    cases h : step s with
    | none => rfl
    | some r =>
      obtain ⟨e, s'⟩ := r
      cases e with
      | normal => simp only [tidy, if_true]; exact iter_true k m n s'
      | exit i => rfl
      | ret => rfl
section
variable {G : Nat → Option AV} {cl : Caller} {yl : Nat → List AV → Mem → Option (AV × Mem)} {N N0 : Nat}
theorem ap_run (op so nn mm : Int) (nv kv own : AV) (k0 k1 : Nat) (mid t : Nat) (os : List Obj) (ar ar1 : List Arr) (J6 J8 : List Obj) (Q : List Obj → List Arr → Prop)
    (h106 : ∀ O, cl 106 [.agg (nc6 op so nn mm nv kv)] ⟨O, ar⟩ = some (own, ⟨O ++ J6, ar⟩)) (ho : own ≠ .undef) (hlen0 : ∀ O, kdOk 1 own = true ∧ lenA own ⟨O, ar⟩ = some (.int .i64 k0, ⟨O, ar⟩))
    (hL0 : ∀ O ts, (∀ i, i < os.length → O[i]? = os[i]?) → look 1 ts = .map mid → look 2 ts = .ptr t 0 → look 3 ts = .ptr os.length 0 → look 6 ts = .ptr (os.length + 1) 0 → look 7 ts = own → look 17 ts = own → look 18 ts = .int .i64 k0 → look 19 ts = .int .i64 0 →
      ∃ ts', iter true (evalC G true cl yl N c83b0) ⟨[1, 2, 3, 6, 7, 17, 18, 19], [(19, none)]⟩ 0 0 N ⟨ts, ⟨O, ar⟩, []⟩ = some (.exit 0, ⟨ts', ⟨O, ar1⟩, []⟩) ∧ look 1 ts' = .map mid ∧ look 2 ts' = .ptr t 0 ∧ look 3 ts' = .ptr os.length 0 ∧ look 6 ts' = .ptr (os.length + 1) 0)
    (h108 : ∀ O, cl 108 [.agg (nc6 op so nn mm nv kv)] ⟨O, ar1⟩ = some (.bool false, ⟨O ++ J8, ar1⟩))
    (hlen1 : ∀ O, kdOk 1 kv = true ∧ lenA kv ⟨O, ar1⟩ = some (.int .i64 k1, ⟨O, ar1⟩))
    (hL1 : ∀ O ts, (∀ i, i < os.length → O[i]? = os[i]?) → O[os.length]? = some (.cells (nc6 op so nn mm nv kv)) → (∃ z, O[os.length + 1]? = some (.cells z) ∧ z.length = 6) → look 1 ts = .map mid → look 2 ts = .ptr t 0 → look 3 ts = .ptr os.length 0 → look 6 ts = .ptr (os.length + 1) 0 → look 67 ts = kv → look 68 ts = .int .i64 k1 → look 69 ts = .int .i64 0 →
      ∃ ts' O1 A1 z, iter true (evalC G true cl yl N c83b1) ⟨[1, 2, 3, 6, 67, 68, 69], [(69, none)]⟩ 0 0 N ⟨ts, ⟨O, ar1⟩, []⟩ = some (.exit 2, ⟨ts', ⟨O1, A1⟩, []⟩) ∧ look 3 ts' = .ptr os.length 0 ∧ look 6 ts' = .ptr (os.length + 1) 0 ∧ O1[os.length]? = some (.cells (nc6 op so nn mm nv kv)) ∧ O1[os.length + 1]? = some (.cells z) ∧ z.length = 6 ∧ Q O1 A1) :
    Ends (callA G true cl yl N c83 [.agg (nc6 op so nn mm nv kv), .map mid, .ptr t 0] ⟨os, ar⟩) (fun v' M => v' = .agg (nc6 op so nn mm nv kv) ∧ ∃ O1, Q O1 M.arrs ∧ M.objs = O1.set (os.length + 1) (.cells (nc6 op so nn mm nv kv))) := by
  unfold nc6 at *
  have hcs : ∀ a b c d e f : AV, ([a, b, c, d, e, f] : List AV).length = 6 := fun _ _ _ _ _ _ => rfl
  obtain ⟨ts1, e1, a1, a2, a3, a6⟩ := hL0 (os ++ (.cells [.int .i64 op, nv, .int .i64 so, .int .i64 nn, .int .i64 mm, kv] :: .cells [.int .i64 0, .slc .full [], .int .i64 0, .int .i64 0, .int .i64 0, .slc .full []] :: J6))
    [(19, .int .i64 0), (18, .int .i64 k0), (17, own), (7, own), (16, own), (15, .agg [.int .i64 op, nv, .int .i64 so, .int .i64 nn, .int .i64 mm, kv]), (6, .ptr (os.length + 1) 0), (3, .ptr os.length 0), (0, .agg [.int .i64 op, nv, .int .i64 so, .int .i64 nn, .int .i64 mm, kv]), (1, .map mid), (2, .ptr t 0)]
    (fun i hi => List.getElem?_append_left hi) rfl rfl rfl rfl rfl rfl rfl rfl
  have e1' := fun k m => (iter_true (step := evalC G true cl yl N c83b0) (an := ⟨[1, 2, 3, 6, 7, 17, 18, 19], [(19, none)]⟩) k m N _).trans e1
  obtain ⟨ts2, O1, A1, z, e2, b3, b6, q1, q2, q3, q4⟩ := hL1 (os ++ (.cells [.int .i64 op, nv, .int .i64 so, .int .i64 nn, .int .i64 mm, kv] :: .cells [.int .i64 0, .slc .full [], .int .i64 0, .int .i64 0, .int .i64 0, .slc .full []] :: (J6 ++ J8)))
    ((69, .int .i64 0) :: (68, .int .i64 k1) :: (67, kv) :: (66, .ptr os.length 5) :: (37, .bool false) :: (36, .agg [.int .i64 op, nv, .int .i64 so, .int .i64 nn, .int .i64 mm, kv]) :: ts1)
    (fun i hi => List.getElem?_append_left hi) (by simp) ⟨_, by simp; rfl, rfl⟩ a1 a2 a3 a6 rfl rfl rfl
  have e2' := fun k m => (iter_true (step := evalC G true cl yl N c83b1) (an := ⟨[1, 2, 3, 6, 67, 68, 69], [(69, none)]⟩) k m N _).trans e2
  have hl0 := fun O => (hlen0 O).2
  have hl1 := fun O => (hlen1 O).2
  have hk0 := (hlen0 []).1
  have hk1 := (hlen1 []).1
  have hdr : z.drop 6 = [] := List.drop_eq_nil_of_le (by omega)
  have hse : ∀ X, (O1.set (os.length + 1) X)[os.length + 1]? = some X := fun X => by
    rw [List.getElem?_set_self (List.getElem?_eq_some_iff.1 q2).1]
  simp -implicitDefEqProofs [-kdOk, -lenA, c83, h106, h108, hk0, hk1, hl0, hl1, e1', e2', a1, a2, a3, a6, b3, b6, q1, q2, q3, hdr, hse]
  exact ⟨O1, q4, rfl⟩
end
section
variable {G : Nat → Option AV} {cl : Caller} {yl : Nat → List AV → Mem → Option (AV × Mem)} {N N0 : Nat}
theorem loop0_nil (O : List Obj) (A : List Arr) (ts : Slots) (hN : 0 < N) (l18 : look 18 ts = .int .i64 0) (l19 : look 19 ts = .int .i64 0) :
    iter true (evalC G true cl yl N0 c83b0) ⟨[1, 2, 3, 6, 7, 17, 18, 19], [(19, none)]⟩ 0 0 N ⟨ts, ⟨O, A⟩, []⟩ = some (.exit 0, ⟨(20, .bool false) :: ts, ⟨O, A⟩, []⟩) := by
  obtain ⟨N, rfl⟩ : ∃ m, N = m + 1 := ⟨N - 1, by omega⟩
  simp -implicitDefEqProofs [iter, c83b0, l18, l19]
theorem ap_runB (op so nn mm : Int) (kv : AV) (a k1 : Nat) (x y : Str) (m : List (Str × Str)) (mid t : Nat) (tv tv' : AV) (os : List Obj) (ar A1 : List Arr) (J6 J8 : List Obj) (Q : List Obj → List Arr → Prop) (hN : 0 < N)
    (h106 : ∀ O, cl 106 [.agg (nc6 op so nn mm (.osl a 0 0 1) kv)] ⟨O, ar⟩ = some (.slc .full [], ⟨O ++ J6, ar⟩))
    (h108 : ∀ O, cl 108 [.agg (nc6 op so nn mm (.osl a 0 0 1) kv)] ⟨O, ar⟩ = some (.bool true, ⟨O ++ J8, ar⟩))
    (ha : ar[a]? = some (.wr 0 9 .sc [.str x])) (ht : os[t]? = some (.cells [tv])) (hmid : os[mid]? = some (.map (asE m))) (htv : tv ≠ .undef) (htv' : cells tv' = some [tv']) (htv2 : tv' ≠ .undef)
    (h120 : ∀ O, cl 120 [.str x, tv] ⟨O, ar⟩ = some (.str y, ⟨O, ar⟩)) (h121 : ∀ O A, O[mid]? = some (.map (asE m)) → cl 121 [.map mid] ⟨O, A⟩ = some (.map O.length, ⟨O ++ [.map (asE m)], A⟩))
    (happ : ∀ O, appM 9 .sc 16 tv (.osl ar.length 0 0 1) ⟨O, ar ++ [.wr 0 9 .sc [.str y]]⟩ = some (tv', ⟨O, A1⟩)) (hA1 : A1[a]? = some (.wr 0 9 .sc [.str x]))
    (hlen1 : ∀ O, kdOk 1 kv = true ∧ lenA kv ⟨O, A1.set a (.wr 0 9 .sc [.str y])⟩ = some (.int .i64 k1, ⟨O, A1.set a (.wr 0 9 .sc [.str y])⟩))
    (hL1 : ∀ O ts j, (∀ i, i < os.length → i ≠ t → O[i]? = os[i]?) → O[t]? = some (.cells [tv']) → O[os.length]? = some (.cells (nc6 op so nn mm (.osl a 0 0 1) kv)) → (∃ z, O[os.length + 1]? = some (.cells z) ∧ z.length = 6) → O[j]? = some (.map (asE (ptS m x y))) → os.length + 1 < j → look 1 ts = .map j → look 2 ts = .ptr t 0 → look 3 ts = .ptr os.length 0 → look 6 ts = .ptr (os.length + 1) 0 → look 67 ts = kv → look 68 ts = .int .i64 k1 → look 69 ts = .int .i64 0 →
      ∃ ts' O1 A2 z, iter true (evalC G true cl yl N c83b1) ⟨[1, 2, 3, 6, 67, 68, 69], [(69, none)]⟩ 0 0 N ⟨ts, ⟨O, A1.set a (.wr 0 9 .sc [.str y])⟩, []⟩ = some (.exit 2, ⟨ts', ⟨O1, A2⟩, []⟩) ∧ look 3 ts' = .ptr os.length 0 ∧ look 6 ts' = .ptr (os.length + 1) 0 ∧ O1[os.length]? = some (.cells (nc6 op so nn mm (.osl a 0 0 1) kv)) ∧ O1[os.length + 1]? = some (.cells z) ∧ z.length = 6 ∧ Q O1 A2) :
    Ends (callA G true cl yl N c83 [.agg (nc6 op so nn mm (.osl a 0 0 1) kv), .map mid, .ptr t 0] ⟨os, ar⟩) (fun v' M => v' = .agg (nc6 op so nn mm (.osl a 0 0 1) kv) ∧ ∃ O1, Q O1 M.arrs ∧ M.objs = O1.set (os.length + 1) (.cells (nc6 op so nn mm (.osl a 0 0 1) kv))) := by
  unfold nc6 at *
  have htl : t < os.length := (List.getElem?_eq_some_iff.1 ht).1
  have hml : mid < os.length := (List.getElem?_eq_some_iff.1 hmid).1
  have hne : mid ≠ t := by
    intro e; subst e; rw [ht] at hmid; simp at hmid
  have ht2 : ∀ X, (os ++ X)[t]? = some (.cells [tv]) := fun X => by rw [List.getElem?_append_left htl]; exact ht
  have hset : ∀ X Y, (os ++ X).set t Y = os.set t Y ++ X := fun X Y => List.set_append_left _ _ htl
  have hm2 : ∀ X Y, (os.set t Y ++ X)[mid]? = some (.map (asE m)) := fun X Y => by
    rw [List.getElem?_append_left (by simpa using hml), List.getElem?_set_ne (by omega)]; exact hmid
  have hput := put_asE x y m
  have r1 : ∀ O, rowOf ⟨O, ar⟩ a 0 = some (9, .sc, [.str x]) := fun O => rowOf_eq ha
  have r2 : ∀ O, rowOf ⟨O, A1⟩ a 0 = some (9, .sc, [.str x]) := fun O => rowOf_eq hA1
  have hal : a < A1.length := (List.getElem?_eq_some_iff.1 hA1).1
  have r3 : ∀ O, rowOf ⟨O, A1.set a (.wr 0 9 .sc [.str y])⟩ a 0 = some (9, .sc, [.str y]) := fun O => rowOf_eq (by simp [hal])
  have hl1 := fun O => (hlen1 O).2
  have hk1 := (hlen1 []).1
  have e1 := loop0_nil (G := G) (cl := cl) (yl := yl) (N0 := N) (os ++ (.cells [.int .i64 op, .osl a 0 0 1, .int .i64 so, .int .i64 nn, .int .i64 mm, kv] :: .cells [.int .i64 0, .slc .full [], .int .i64 0, .int .i64 0, .int .i64 0, .slc .full []] :: J6)) ar
    [(19, .int .i64 0), (18, .int .i64 0), (17, .slc .full []), (7, .slc .full []), (16, .slc .full []), (15, .agg [.int .i64 op, .osl a 0 0 1, .int .i64 so, .int .i64 nn, .int .i64 mm, kv]), (6, .ptr (os.length + 1) 0), (3, .ptr os.length 0), (0, .agg [.int .i64 op, .osl a 0 0 1, .int .i64 so, .int .i64 nn, .int .i64 mm, kv]), (1, .map mid), (2, .ptr t 0)] hN rfl rfl
  have e1' := fun k m => (iter_true (step := evalC G true cl yl N c83b0) (an := ⟨[1, 2, 3, 6, 7, 17, 18, 19], [(19, none)]⟩) k m N _).trans e1
  have hst : (os.set t (.cells [tv'])).length = os.length := List.length_set
  obtain ⟨ts2, O1, A2, z, e2, b3, b6, q1, q2, q3, q4⟩ := hL1 (os.set t (.cells [tv']) ++ (.cells [.int .i64 op, .osl a 0 0 1, .int .i64 so, .int .i64 nn, .int .i64 mm, kv] :: .cells [.int .i64 0, .slc .full [], .int .i64 0, .int .i64 0, .int .i64 0, .slc .full []] :: (J6 ++ (J8 ++ [.map (asE (ptS m x y))]))))
    [(69, .int .i64 0), (68, .int .i64 k1), (67, kv), (66, .ptr os.length 5), (65, .apt a 0 0), (64, .str y), (63, .osl a 0 0 1), (62, .ptr os.length 1), (61, .str y), (60, .str x), (59, .apt a 0 0), (58, .osl a 0 0 1), (57, .ptr os.length 1), (56, (.map (os.length + (J6.length + J8.length + 1 + 1)))), (1, (.map (os.length + (J6.length + J8.length + 1 + 1)))), (55, (.map (os.length + (J6.length + J8.length + 1 + 1)))), (54, .map mid), (53, .ptr t 0), (52, tv'), (51, .osl ar.length 0 0 1), (50, .str y), (49, tv), (48, .ptr t 0), (47, .ptr t 0), (46, .ptr t 0), (12, .str y), (45, .str y), (44, tv), (43, .ptr t 0), (42, .ptr t 0), (41, .str x), (40, .apt a 0 0), (39, .osl a 0 0 1), (38, .ptr os.length 1), (37, .bool true), (36, .agg [.int .i64 op, .osl a 0 0 1, .int .i64 so, .int .i64 nn, .int .i64 mm, kv]), (20, .bool false), (19, .int .i64 0), (18, .int .i64 0), (17, .slc .full []), (7, .slc .full []), (16, .slc .full []), (15, .agg [.int .i64 op, .osl a 0 0 1, .int .i64 so, .int .i64 nn, .int .i64 mm, kv]), (6, .ptr (os.length + 1) 0), (3, .ptr os.length 0), (0, .agg [.int .i64 op, .osl a 0 0 1, .int .i64 so, .int .i64 nn, .int .i64 mm, kv]), (1, .map mid), (2, .ptr t 0)]
    (os.length + (J6.length + J8.length + 1 + 1)) (fun i hi hn => by rw [List.getElem?_append_left (by omega), List.getElem?_set_ne (by omega)])
    (by rw [List.getElem?_append_left (by omega), List.getElem?_set_self htl]) (by rw [List.getElem?_append_right (by omega), hst]; simp) ⟨_, by rw [List.getElem?_append_right (by omega), hst, show os.length + 1 - os.length = 1 by omega]; rfl, rfl⟩
    (by
      rw [List.getElem?_append_right (by omega), hst, show os.length + (J6.length + J8.length + 1 + 1) - os.length = J6.length + J8.length + 2 by omega]
      simp only [List.getElem?_cons_succ]
      rw [List.getElem?_append_right (by omega), List.getElem?_append_right (by omega)]
      simp) (by omega) rfl rfl rfl rfl rfl rfl rfl
  have e2' := fun k m => (iter_true (step := evalC G true cl yl N c83b1) (an := ⟨[1, 2, 3, 6, 67, 68, 69], [(69, none)]⟩) k m N _).trans e2
  have hdr : z.drop 6 = [] := List.drop_eq_nil_of_le (by omega)
  have hse : ∀ X, (O1.set (os.length + 1) X)[os.length + 1]? = some X := fun X => by
    rw [List.getElem?_set_self (List.getElem?_eq_some_iff.1 q2).1]
  have k00 : kdOk 1 (.slc .full []) = true := rfl
  have l00 : ∀ M, lenA (.slc .full []) M = some (.int .i64 0, M) := fun _ => rfl
  simp -implicitDefEqProofs [k00, l00, -kdOk, -lenA, c83, h106, h108, hk1, hl1, e1', ht2, hset, hm2, h120, h121, happ, htv', r1, r2, r3, hput, insA, keyK, flat, e2', b3, b6, q1, q2, q3, hdr, hse]
  exact ⟨O1, q4, rfl⟩
end
def TkRow (O : List Obj) (t i : Nat) : Prop := ∃ g n, O[t]? = some (.cells [.osl i g 0 n])
def TkS (O : List Obj) (A : List Arr) (t : Nat) (tk : List Str) : Prop := (tk = [] ∧ O[t]? = some (.cells [.slc .full []])) ∨ (tk ≠ [] ∧ ∃ a g, O[t]? = some (.cells [.osl a g 0 tk.length]) ∧ A[a]? = some (.wr g 9 .sc (tk.map .str)))
structure Fr (O : List Obj) (A : List Arr) (t lo hi : Nat) (O' : List Obj) (A' : List Arr) : Prop where
  o : ∀ i, i < O.length → i ≠ t → O'[i]? = O[i]?
  a : ∀ i, i < A.length → (i < lo ∨ hi ≤ i) → ¬ TkRow O t i → A'[i]? = A[i]?
  ol : O.length ≤ O'.length
  al : A.length ≤ A'.length
  tk : ∀ i, TkRow O' t i → TkRow O t i ∨ A.length ≤ i
theorem Fr.refl (O : List Obj) (A : List Arr) (t lo hi : Nat) : Fr O A t lo hi O A := ⟨fun _ _ _ => rfl, fun _ _ _ _ => rfl, Nat.le_refl _, Nat.le_refl _, fun _ h => .inl h⟩
theorem Fr.trans {O O1 O2 : List Obj} {A A1 A2 : List Arr} {t lo hi l1 h1 l2 h2 : Nat} (f : Fr O A t l1 h1 O1 A1) (g : Fr O1 A1 t l2 h2 O2 A2) (e1 : lo ≤ l1) (e2 : h1 ≤ hi) (e3 : lo ≤ l2) (e4 : h2 ≤ hi) : Fr O A t lo hi O2 A2 where
  o i h n := by rw [g.o i (Nat.lt_of_lt_of_le h f.ol) n, f.o i h n]
  a i h c n := by
    rw [g.a i (Nat.lt_of_lt_of_le h f.al) (by omega) ?_, f.a i h (by omega) n]
    intro hr
    rcases f.tk i hr with q | q
    · exact n q
    · omega
  ol := Nat.le_trans f.ol g.ol
  al := Nat.le_trans f.al g.al
  tk i h := by
    have h1 := f.al
    rcases g.tk i h with q | q
    · exact f.tk i q
    · exact .inr (by omega)
theorem Fr.app (O X : List Obj) (A : List Arr) (t lo hi : Nat) (ht : t < O.length) : Fr O A t lo hi (O ++ X) A where
  o i h n := List.getElem?_append_left h
  a i h c n := rfl
  ol := by simp
  al := Nat.le_refl _
  tk i h := by
    obtain ⟨g, n, h⟩ := h
    rw [List.getElem?_append_left ht] at h
    exact .inl ⟨g, n, h⟩
structure ApP (F : Str → List Str → Str) (O : List Obj) (A : List Arr) (m : List (Str × Str)) (tk : List Str) (n : Nd) (t lo hi : Nat) (v v' : AV) (M : Mem) : Prop where
  ve : v' = v
  ld : Ld M.arrs (apF F m tk n).1 lo hi v
  fr : Fr O A t lo hi M.objs M.arrs
  ts : TkS M.objs M.arrs t (apF F m tk n).2
def ApC (cl : Caller) (F : Str → List Str → Str) (B t : Nat) (n : Nd) : Prop := ∀ (m : List (Str × Str)) (tk : List Str) (O : List Obj) (A : List Arr) (mid lo hi : Nat) (v : AV), Ld A n lo hi v → hi ≤ A.length → O[mid]? = some (.map (asE m)) → TkS O A t tk → (∀ i, TkRow O t i → (i < lo ∨ hi ≤ i)) → tk.length + sz n ≤ B →
  Ends (cl 83 [v, .map mid, .ptr t 0] ⟨O, A⟩) (ApP F O A m tk n t lo hi v)
theorem TkS.lt {O : List Obj} {A : List Arr} {t : Nat} {tk : List Str} (h : TkS O A t tk) : t < O.length := by
  rcases h with ⟨_, h⟩ | ⟨_, a, g, h, _⟩ <;> exact (List.getElem?_eq_some_iff.1 h).1
theorem TkS.app {O : List Obj} {A : List Arr} {t : Nat} {tk : List Str} (h : TkS O A t tk) (X : List Obj) : TkS (O ++ X) A t tk := by
  have hl := h.lt
  unfold TkS
  rw [List.getElem?_append_left hl]
  exact h
theorem Ld_len (A : List Arr) (n : Nd) {lo hi : Nat} {v : AV} (h : Ld A n lo hi v) : ∃ c0 c1 c2 c3 c4 c5, v = .agg [c0, c1, c2, c3, c4, c5] := by
  cases n with
  | mk op ns so nn mm l =>
    simp only [Ld] at h
    obtain ⟨nv, kv, m, b, vs, rfl, _⟩ := h
    exact ⟨_, _, _, _, _, _, rfl⟩
theorem apL_len (F : Str → List Str → Str) : ∀ (l : List Nd) (m : List (Str × Str)) (tk : List Str), (apL F m tk l).1.length = l.length
  | [], m, tk => rfl
  | x :: xs, m, tk => by simp [apL, apL_len F xs]
mutual
theorem apF_tk (F : Str → List Str → Str) : ∀ (n : Nd) (m : List (Str × Str)) (tk : List Str), (apF F m tk n).2.length ≤ tk.length + sz n
  | .mk op ns so nn mm l, m, tk => by
    simp only [apF, sz]
    split
    · split
      · have := apL_tk F l (ptS m ‹Str› (F ‹Str› tk)) (tk ++ [F ‹Str› tk])
        simp at this ⊢
        omega
      · have := apL_tk F l m tk
        simp; omega
    · have := apL_tk F l m tk
      simp; omega
theorem apL_tk (F : Str → List Str → Str) : ∀ (l : List Nd) (m : List (Str × Str)) (tk : List Str), (apL F m tk l).2.length ≤ tk.length + szL l
  | [], m, tk => by simp [apL, szL]
  | x :: xs, m, tk => by
    have h1 := apF_tk F x m tk
    have h2 := apL_tk F xs m (apF F m tk x).2
    simp only [apL, szL]
    omega
end
section
variable {G : Nat → Option AV} {cl : Caller} {yl : Nat → List AV → Mem → Option (AV × Mem)} {N0 : Nat}
theorem flC_at (vs : List AV) (h6 : ∀ v ∈ vs, (celL v).length = 6) : ∀ (i : Nat) (v : AV), vs[i]? = some v → ((flC vs).drop (i * 6)).take 6 = celL v := by
  induction vs with
  | nil => intro i v h; simp at h
  | cons w ws ih =>
    intro i v h
    have hw : (celL w).length = 6 := h6 w (by simp)
    have e : flC (w :: ws) = celL w ++ flC ws := by simp [flC]
    cases i with
    | zero =>
      simp at h; subst h
      rw [e]
      simp [hw, List.take_append]
    | succ i =>
      simp at h
      rw [e, show (i + 1) * 6 = (celL w).length + i * 6 by omega, ← List.drop_drop, List.drop_left]
      exact ih (fun v hv => h6 v (by simp [hv])) i v h
theorem flC_len (vs : List AV) (h6 : ∀ v ∈ vs, (celL v).length = 6) : (flC vs).length = vs.length * 6 := by
  induction vs with
  | nil => rfl
  | cons w ws ih =>
    have hw : (celL w).length = 6 := h6 w (by simp)
    have e : flC (w :: ws) = celL w ++ flC ws := by simp [flC]
    rw [e, List.length_append, hw, ih (fun v hv => h6 v (by simp [hv]))]
    simp; omega
theorem LdL_6 (A : List Arr) : ∀ (l : List Nd) {lo hi b : Nat} {vs : List AV}, LdL A l lo hi b vs → vs.length = l.length ∧ ∀ v ∈ vs, (celL v).length = 6
  | [], lo, hi, b, vs, h => by simp only [LdL] at h; subst h; simp
  | x :: xs, lo, hi, b, vs, h => by
    simp only [LdL] at h
    obtain ⟨v, vs', l1, h1, rfl, a1, a2, a3, a4, a5, a6⟩ := h
    obtain ⟨i1, i2⟩ := LdL_6 A xs a6
    obtain ⟨_, _, _, _, _, _, rfl⟩ := Ld_len A x a5
    refine ⟨by simp [i1], fun w hw => ?_⟩
    rcases List.mem_cons.1 hw with rfl | hw
    · rfl
    · exact i2 w hw
theorem ap_loop1 (F : Str → List Str → Str) (B : Nat) (op so nn mm : Int) (nv : AV) (p t mid b g len : Nat) (C : List AV) (m : List (Str × Str)) (vs : List AV) (hC : C = flC vs) (h6 : ∀ v ∈ vs, (celL v).length = 6) (hlen : vs.length = len) (hbig : len < big) (hpt : p ≠ t) :
    ∀ (l : List Nd) (i lo hi : Nat) (ws : List AV) (tk : List Str) (O : List Obj) (A : List Arr) (ts : Slots) (v6 : AV) (n : Nat), vs.drop i = ws → LdL A l lo hi b ws → i + l.length = len → (∀ x ∈ l, ApC cl F B t x) → hi ≤ A.length → O[mid]? = some (.map (asE m)) → mid ≠ t → TkS O A t tk → (∀ i, TkRow O t i → (i < lo ∨ hi ≤ i) ∧ i ≠ b) → tk.length + szL l ≤ B →
      O[p]? = some (.cells (nc6 op so nn mm nv (.osl b g 0 len))) → A[b]? = some (.wr g 30 (.ag 6) C) → l.length < n → lo ≤ hi → b < A.length → 
      look 1 ts = .map mid → look 2 ts = .ptr t 0 → look 3 ts = .ptr p 0 → look 6 ts = v6 → look 67 ts = .osl b g 0 len → look 68 ts = .int .i64 len → look 69 ts = .int .i64 (i : Nat) →
      ∃ ts' O1 A1, iter true (evalC G true cl yl N0 c83b1) ⟨[1, 2, 3, 6, 67, 68, 69], [(69, none)]⟩ 0 0 n ⟨ts, ⟨O, A⟩, []⟩ = some (.exit 2, ⟨ts', ⟨O1, A1⟩, []⟩) ∧ look 3 ts' = .ptr p 0 ∧ look 6 ts' = v6 ∧ LdL A1 (apL F m tk l).1 lo hi b ws ∧ Fr O A t lo hi O1 A1 ∧ TkS O1 A1 t (apL F m tk l).2 ∧ A1[b]? = some (.wr g 30 (.ag 6) C)
  | [], i, lo, hi, ws, tk, O, A, ts, v6, n, hd, hL, hi2, hK, hhi, hm, hmt, hT, hR, hB, hp, hb, hn, hlh, hbl, l1, l2, l3, l6, l67, l68, l69 => by
    obtain ⟨n, rfl⟩ : ∃ m, n = m + 1 := ⟨n - 1, by simp at hn; omega⟩
    simp at hi2
    subst hi2
    refine ⟨(70, .bool false) :: ts, O, A, ?_, by simpa using l3, by simpa using l6, by simpa [apL] using hL, Fr.refl _ _ _ _ _, by simpa [apL] using hT, hb⟩
    simp -implicitDefEqProofs [iter, c83b1, l68, l69]
  | x :: xs, i, lo, hi, ws, tk, O, A, ts, v6, n, hd, hL, hi2, hK, hhi, hm, hmt, hT, hR, hB, hp, hb, hn, hlh, hbl, l1, l2, l3, l6, l67, l68, l69 => by
    obtain ⟨n, rfl⟩ : ∃ m, n = m + 1 := ⟨n - 1, by simp at hn; omega⟩
    simp only [LdL] at hL
    obtain ⟨v, ws', k1, k2, rfl, a1, a2, a3, a4, a5, a6⟩ := hL
    simp only [List.length_cons] at hi2 hn
    have hvi : vs[i]? = some v := by
      have := congrArg List.head? hd
      simpa [List.head?_drop] using this
    have hd' : vs.drop (i + 1) = ws' := by
      rw [← List.drop_drop, hd]; rfl
    have hcell := flC_at vs h6 i v hvi
    obtain ⟨c0, c1, c2, c3, c4, c5, rfl⟩ := Ld_len A x a5
    have hlC := flC_len vs h6
    have htl := hT.lt
    have hpl : p < O.length := (List.getElem?_eq_some_iff.1 hp).1
    have hml : mid < O.length := (List.getElem?_eq_some_iff.1 hm).1
    simp only [szL] at hB
    have hTr : ∀ i, TkRow (O ++ [.cells [c0, c1, c2, c3, c4, c5]]) t i → TkRow O t i := by
      rintro i ⟨g, n, h⟩
      rw [List.getElem?_append_left htl] at h
      exact ⟨g, n, h⟩
    have key := hK x (by simp) m tk (O ++ [.cells [c0, c1, c2, c3, c4, c5]]) A mid k1 k2 _ a5 (by omega) (by rw [List.getElem?_append_left hml]; exact hm) (hT.app _) (fun i h => by have := (hR i (hTr i h)).1; omega) (by omega)
    obtain ⟨v', ⟨O1, A1⟩, e1, hv, hld, hfr, hts⟩ := key.out
    subst hv
    simp only at hld hfr hts
    have fr0 : Fr O A t k1 k2 O1 A1 := Fr.trans (Fr.app O _ A t k1 k2 htl) hfr (Nat.le_refl _) (Nat.le_refl _) (Nat.le_refl _) (Nat.le_refl _)
    have hO1 : O1[p]? = some (.cells (nc6 op so nn mm nv (.osl b g 0 len))) := by rw [fr0.o p hpl hpt]; exact hp
    have hA1 : A1[b]? = some (.wr g 30 (.ag 6) C) := by rw [fr0.a b hbl (by omega) (fun h => (hR b h).2 rfl)]; exact hb
    obtain ⟨ts1, s1, t1, t2, t3, t6, t67, t68, t69⟩ := ap_it1 (G := G) (yl := yl) (N0 := N0) O A O1 A1 op so nn mm nv p t mid b g len i C c0 c1 c2 c3 c4 c5 [] ts v6 (by omega) hbig hp hb (by rw [hC, hlC, hlen]) (by rw [hC]; exact hcell) e1 hO1 hA1 l1 l2 l3 l6 l67 l68 l69
    have hL1 : LdL A1 xs k2 hi b ws' := LdL.frame xs (fun j c d => fr0.a j (by omega) (by omega) (fun h => by have := (hR j h).1; omega)) a6
    have hR1 : ∀ i, TkRow O1 t i → (i < k2 ∨ hi ≤ i) ∧ i ≠ b := by
      intro i h
      rcases fr0.tk i h with q | q
      · have := hR i q; omega
      · omega
    obtain ⟨ts2, O2, A2, s2, u3, u6, hl2, fr2, hts2, hb2⟩ := ap_loop1 F B op so nn mm nv p t mid b g len C m vs hC h6 hlen hbig hpt xs (i + 1) k2 hi ws' (apF F m tk x).2 O1 A1 ts1 v6 n hd' hL1 (by omega) (fun y hy => hK y (by simp [hy])) (by have := fr0.al; omega)
      (by rw [fr0.o mid hml hmt]; exact hm) hmt hts hR1 (by have := apF_tk F x m tk; omega) hO1 hA1 (by omega) a3 (by have := fr0.al; omega) t1 t2 t3 t6 t67 t68 t69
    refine ⟨ts2, O2, A2, ?_, u3, u6, ?_, Fr.trans fr0 fr2 a1 a3 (by omega) (Nat.le_refl _), by simpa [apL] using hts2, hb2⟩
    · simp only [iter, s1, tidy, if_true]
      exact s2
    · simp only [apL, LdL]
      refine ⟨_, _, k1, k2, rfl, a1, a2, a3, a4, Ld.frame _ (fun j c d => fr2.a j (by have := fr0.al; omega) (by omega) (fun h => by have := (hR1 j h).1; rcases fr0.tk j h with q | q; (have := (hR j q).1; omega); omega)) hld, hl2⟩
end
theorem TkRow_set {O : List Obj} {t j i : Nat} {X : Obj} (h : j ≠ t) : TkRow (O.set j X) t i ↔ TkRow O t i := by
  unfold TkRow
  rw [List.getElem?_set_ne h]
theorem TkS_set {O : List Obj} {A : List Arr} {t j : Nat} {X : Obj} {tk : List Str} (h : j ≠ t) : TkS (O.set j X) A t tk ↔ TkS O A t tk := by
  unfold TkS
  rw [List.getElem?_set_ne h]
theorem TkRow_eq {O O' : List Obj} {t i : Nat} (h : O'[t]? = O[t]?) : TkRow O' t i ↔ TkRow O t i := by unfold TkRow; rw [h]
theorem TkS_eq {O O' : List Obj} {A A' : List Arr} {t : Nat} {tk : List Str} (h : O'[t]? = O[t]?) (ha : ∀ i, TkRow O t i → A'[i]? = A[i]?) (hs : TkS O A t tk) : TkS O' A' t tk := by
  rcases hs with ⟨e, h1⟩ | ⟨e, a, g, h1, h2⟩
  · exact .inl ⟨e, by rw [h]; exact h1⟩
  · exact .inr ⟨e, a, g, by rw [h]; exact h1, by rw [ha a ⟨g, _, h1⟩]; exact h2⟩
section
variable {G : Nat → Option AV} {cl : Caller} {yl : Nat → List AV → Mem → Option (AV × Mem)} {N : Nat}
theorem loop1_nil (N0 : Nat) (O : List Obj) (A : List Arr) (ts : Slots) (hN : 0 < N) (l68 : look 68 ts = .int .i64 0) (l69 : look 69 ts = .int .i64 0) :
    iter true (evalC G true cl yl N0 c83b1) ⟨[1, 2, 3, 6, 67, 68, 69], [(69, none)]⟩ 0 0 N ⟨ts, ⟨O, A⟩, []⟩ = some (.exit 2, ⟨(70, .bool false) :: ts, ⟨O, A⟩, []⟩) := by
  obtain ⟨N, rfl⟩ : ∃ m, N = m + 1 := ⟨N - 1, by omega⟩
  simp -implicitDefEqProofs [iter, c83b1, l68, l69]
theorem ap_nb (F : Str → List Str → Str) (B : Nat) (op so nn mm : Int) (ns : List Str) (l : List Nd) (hop : op < 16) (m : List (Str × Str)) (tk : List Str) (os : List Obj) (ar ar1 : List Arr) (mid t lo hi : Nat) (nv kv own : AV) (md b : Nat) (vs : List AV) (k0 : Nat) (J6 J8 : List Obj)
    (hmd : lo ≤ md) (hmh : md ≤ hi) (hkv : KvAt ar l.length b vs kv md hi) (hL : LdL ar l md hi b vs) (hhi : hi ≤ ar.length) (hm : os[mid]? = some (.map (asE m))) (hT : TkS os ar t tk) (hR : ∀ i, TkRow os t i → (i < lo ∨ hi ≤ i)) (hB : tk.length + szL l ≤ B) (hlb : l.length < big) (hN : l.length < N)
    (hK : ∀ x ∈ l, ApC cl F B t x)
    (h106 : ∀ O, cl 106 [.agg (nc6 op so nn mm nv kv)] ⟨O, ar⟩ = some (own, ⟨O ++ J6, ar⟩)) (ho : own ≠ .undef) (hlen0 : ∀ O, kdOk 1 own = true ∧ lenA own ⟨O, ar⟩ = some (.int .i64 k0, ⟨O, ar⟩))
    (hL0 : ∀ O ts, (∀ i, i < os.length → O[i]? = os[i]?) → look 1 ts = .map mid → look 2 ts = .ptr t 0 → look 3 ts = .ptr os.length 0 → look 6 ts = .ptr (os.length + 1) 0 → look 7 ts = own → look 17 ts = own → look 18 ts = .int .i64 k0 → look 19 ts = .int .i64 0 →
      ∃ ts', iter true (evalC G true cl yl N c83b0) ⟨[1, 2, 3, 6, 7, 17, 18, 19], [(19, none)]⟩ 0 0 N ⟨ts, ⟨O, ar⟩, []⟩ = some (.exit 0, ⟨ts', ⟨O, ar1⟩, []⟩) ∧ look 1 ts' = .map mid ∧ look 2 ts' = .ptr t 0 ∧ look 3 ts' = .ptr os.length 0 ∧ look 6 ts' = .ptr (os.length + 1) 0)
    (h108 : ∀ O, cl 108 [.agg (nc6 op so nn mm nv kv)] ⟨O, ar1⟩ = some (.bool false, ⟨O ++ J8, ar1⟩))
    (hnm : NmAt ar1 (uR m op ns) lo md nv) (har : ∀ i, (i < lo ∨ md ≤ i) → ar1[i]? = ar[i]?) (hal : ar1.length = ar.length) :
    Ends (callA G true cl yl N c83 [.agg (nc6 op so nn mm nv kv), .map mid, .ptr t 0] ⟨os, ar⟩) (ApP F os ar m tk (.mk op ns so nn mm l) t lo hi (.agg (nc6 op so nn mm nv kv))) := by
  have htl := hT.lt
  have hml : mid < os.length := (List.getElem?_eq_some_iff.1 hm).1
  have hmt : mid ≠ t := by
    rintro rfl
    rcases hT with ⟨_, h⟩ | ⟨_, a, g, h, _⟩ <;> rw [hm] at h <;> simp at h
  have hop2 : ¬ (op = 16 ∨ op = 17) := by omega
  have e1 : (apF F m tk (.mk op ns so nn mm l)).1 = .mk op (uR m op ns) so nn mm (apL F m tk l).1 := by simp only [apF]; rw [if_neg hop2]
  have e2 : (apF F m tk (.mk op ns so nn mm l)).2 = (apL F m tk l).2 := by simp only [apF]; rw [if_neg hop2]
  have fr0 : ∀ i, i < ar.length → (i < lo ∨ hi ≤ i) → ar1[i]? = ar[i]? := fun i _ h => har i (by omega)
  have run := ap_run (G := G) (cl := cl) (yl := yl) (N := N) op so nn mm nv kv own k0 l.length mid t os ar ar1 J6 J8
    (fun O1 A1 => LdL A1 (apL F m tk l).1 md hi b vs ∧ KvAt A1 l.length b vs kv md hi ∧ NmAt A1 (uR m op ns) lo md nv ∧ Fr os ar t lo hi O1 A1 ∧ TkS O1 A1 t (apL F m tk l).2) h106 ho hlen0 hL0 h108 ?_ ?_
  · obtain ⟨v', ⟨O2, A2⟩, hrun, hv, O1, ⟨q1, q2, q3, q4, q5⟩, hO⟩ := run.out
    rw [hrun]
    simp only at q1 q2 q3 q4 q5 hO
    subst hO
    have hne : os.length + 1 ≠ t := by omega
    show ApP F os ar m tk _ t lo hi _ v' ⟨_, A2⟩
    refine ⟨hv, ?_, ⟨fun i h n => ?_, q4.a, by simpa using q4.ol, q4.al, fun i h => q4.tk i ((TkRow_set hne).1 h)⟩, ?_⟩
    · rw [e1]
      simp only [Ld]
      exact ⟨nv, kv, md, b, vs, rfl, q3, hmh, by rw [apL_len]; exact q2, q1⟩
    · show (O1.set (os.length + 1) _)[i]? = _
      rw [List.getElem?_set_ne (by omega)]
      exact q4.o i h n
    · rw [e2]
      exact (TkS_set hne).2 q5
  · intro O
    rcases hkv with ⟨h0, rfl⟩ | ⟨k, h0, rfl, h1, h2, h3⟩
    · rw [h0]; exact ⟨rfl, rfl⟩
    · rw [h0]
      refine ⟨rfl, ?_⟩
      have : ar1[b]? = some (.wr k 30 (.ag 6) (flC vs)) := by rw [har b (by omega)]; exact h1
      simp only [lenA, rowOf_eq (M := ⟨O, ar1⟩) this]
      rfl
  · intro O ts hO hbox hz l1 l2 l3 l6 l67 l68 l69
    obtain ⟨z, hz1, hz2⟩ := hz
    have hTO : TkS O ar1 t tk := TkS_eq (hO t htl) (fun i h => har i (by have := hR i h; omega)) hT
    have frO : Fr os ar t lo hi O ar1 := ⟨fun i h n => hO i h, fun i h c n => fr0 i h c, by have := (List.getElem?_eq_some_iff.1 hbox).1; omega, by omega, fun i h => .inl ((TkRow_eq (hO t htl)).1 h)⟩
    rcases hkv with ⟨h0, rfl⟩ | ⟨k, h0, rfl, h1, h2, h3⟩
    · have hl : l = [] := List.eq_nil_of_length_eq_zero h0
      subst hl
      simp only [LdL] at hL
      subst hL
      refine ⟨_, O, ar1, z, loop1_nil N O ar1 ts (by omega) l68 l69, by simpa using l3, by simpa using l6, hbox, hz1, hz2, by simp only [apL, LdL], .inl ⟨rfl, rfl⟩, hnm, frO, hTO⟩
    · obtain ⟨i1, i2⟩ := LdL_6 ar l hL
      have hb1 : ar1[b]? = some (.wr k 30 (.ag 6) (flC vs)) := by rw [har b (by omega)]; exact h1
      rw [h0] at l68 hlb
      obtain ⟨ts', O1, A1, s1, u3, u6, hl1, fr1, hts1, hb2⟩ := ap_loop1 (G := G) (cl := cl) (yl := yl) (N0 := N) F B op so nn mm nv os.length t mid b k (k + 1) (flC vs) m vs rfl i2 (by omega) hlb (by omega) l 0 md hi vs tk O ar1 ts (.ptr (os.length + 1) 0) N rfl
        (LdL.frame l (fun i c d => har i (by omega)) hL) (by omega) hK (by omega) (by rw [hO mid hml]; exact hm) hmt hTO (fun i h => by have := hR i ((TkRow_eq (hO t htl)).1 h); omega) hB hbox hb1 hN hmh (by omega) l1 l2 l3 l6 l67 l68 l69
      have hbx : O1[os.length]? = O[os.length]? := fr1.o _ (List.getElem?_eq_some_iff.1 hbox).1 (by omega)
      have hzx : O1[os.length + 1]? = O[os.length + 1]? := fr1.o _ (List.getElem?_eq_some_iff.1 hz1).1 (by omega)
      refine ⟨ts', O1, A1, z, s1, u3, u6, by rw [hbx]; exact hbox, by rw [hzx]; exact hz1, hz2, hl1, .inr ⟨k, h0, rfl, hb2, h2, h3⟩, ?_, Fr.trans frO fr1 (Nat.le_refl _) (Nat.le_refl _) hmd (Nat.le_refl _), hts1⟩
      refine hnm.frame (fun i c d => fr1.a i (by omega) (by omega) (fun h => ?_))
      have := hR i ((TkRow_eq (hO t htl)).1 h)
      omega
end
theorem app_tk {os : List Obj} {ar : List Arr} {t : Nat} {tk : List Str} (h : TkS os ar t tk) (hl : tk.length < big) (y : Str) : ∃ tv tv' A1, os[t]? = some (.cells [tv]) ∧ tv ≠ .undef ∧ ((tk = [] ∧ tv = .slc .full []) ∨ (tk ≠ [] ∧ ∃ a g, tv = .osl a g 0 tk.length ∧ ar[a]? = some (.wr g 9 .sc (tk.map .str)))) ∧
    (∀ O, appM 9 .sc 16 tv (.osl ar.length 0 0 1) ⟨O, ar ++ [.wr 0 9 .sc [.str y]]⟩ = some (tv', ⟨O, A1⟩)) ∧ (∃ a g, tv' = .osl a g 0 (tk.length + 1) ∧ A1[a]? = some (.wr g 9 .sc ((tk ++ [y]).map .str)) ∧ (TkRow os t a ∨ ar.length ≤ a)) ∧ ar.length ≤ A1.length ∧ (∀ i, i < ar.length → ¬ TkRow os t i → A1[i]? = ar[i]?) := by
  unfold big at hl
  have hr : ∀ O, rowOf ⟨O, ar ++ [.wr 0 9 .sc [.str y]]⟩ ar.length 0 = some (9, .sc, [.str y]) := fun O => rowOf_eq (by simp)
  rcases h with ⟨rfl, h1⟩ | ⟨hne, a, g, h1, h2⟩
  · refine ⟨.slc .full [], .osl (ar.length + 1) 0 0 1, ar ++ [.wr 0 9 .sc [.str y]] ++ [.wr 0 9 .sc [.str y]], h1, by simp, .inl ⟨rfl, rfl⟩, fun O => ?_, ⟨ar.length + 1, 0, rfl, ?_, .inr (by omega)⟩, by simp, fun i h n => ?_⟩
    · simp [appM, srcOf, hr]
    · rw [List.getElem?_append_right (by simp)]; simp
    · rw [List.append_assoc, List.getElem?_append_left h]
  · have hal : a < ar.length := (List.getElem?_eq_some_iff.1 h2).1
    have h2' : (ar ++ [Arr.wr 0 9 .sc [.str y]])[a]? = some (.wr g 9 .sc (tk.map .str)) := by rw [List.getElem?_append_left hal]; exact h2
    have hr2 : ∀ O, rowOf ⟨O, ar ++ [.wr 0 9 .sc [.str y]]⟩ a g = some (9, .sc, tk.map .str) := fun O => rowOf_eq h2'
    have b1 : (tk.length + 1) * 16 ≤ 140737488355328 := by omega
    have b2 : tk.length + 1 ≤ 140737488355328 := by omega
    refine ⟨_, .osl a (g + 1) 0 (tk.length + 1), (ar ++ [Arr.wr 0 9 .sc [AV.str y]]).set a (Arr.wr (g + 1) 9 .sc (tk.map AV.str ++ [AV.str y])), h1, by simp, .inr ⟨hne, a, g, rfl, h2⟩, fun O => ?_, ⟨a, g + 1, rfl, ?_, .inl ⟨g, _, h1⟩⟩, by simp, fun i h n => ?_⟩
    · simp [appM, srcOf, hr, hr2, b1, b2]
    · rw [List.getElem?_set_self (by simp; omega)]; simp
    · rw [List.getElem?_set_ne (fun e => n ⟨g, _, e ▸ h1⟩), List.getElem?_append_left h]
section
variable {G : Nat → Option AV} {cl : Caller} {yl : Nat → List AV → Mem → Option (AV × Mem)} {N : Nat}
theorem ap_qn (F : Str → List Str → Str) (B : Nat) (op so nn mm : Int) (x : Str) (l : List Nd) (hop : op = 16 ∨ op = 17) (m : List (Str × Str)) (tk : List Str) (os : List Obj) (ar : List Arr) (mid t lo hi : Nat) (kv : AV) (md b : Nat) (vs : List AV) (J6 J8 : List Obj)
    (hmd : lo < md) (hmh : md ≤ hi) (hnm : ar[lo]? = some (.wr 0 9 .sc [.str x])) (hkv : KvAt ar l.length b vs kv md hi) (hL : LdL ar l md hi b vs) (hhi : hi ≤ ar.length) (hm : os[mid]? = some (.map (asE m))) (hT : TkS os ar t tk) (hR : ∀ i, TkRow os t i → (i < lo ∨ hi ≤ i)) (hB : tk.length + (szL l + 1) ≤ B) (hBb : B < big) (hlb : l.length < big) (hN : l.length < N)
    (hK : ∀ x ∈ l, ApC cl F B t x)
    (h106 : ∀ O, cl 106 [.agg (nc6 op so nn mm (.osl lo 0 0 1) kv)] ⟨O, ar⟩ = some (.slc .full [], ⟨O ++ J6, ar⟩))
    (h108 : ∀ O, cl 108 [.agg (nc6 op so nn mm (.osl lo 0 0 1) kv)] ⟨O, ar⟩ = some (.bool true, ⟨O ++ J8, ar⟩))
    (h120 : ∀ tv, ((tk = [] ∧ tv = .slc .full []) ∨ (tk ≠ [] ∧ ∃ a g, tv = .osl a g 0 tk.length ∧ ar[a]? = some (.wr g 9 .sc (tk.map .str)))) → ∀ O, cl 120 [.str x, tv] ⟨O, ar⟩ = some (.str (F x tk), ⟨O, ar⟩))
    (h121 : ∀ O A, O[mid]? = some (.map (asE m)) → cl 121 [.map mid] ⟨O, A⟩ = some (.map O.length, ⟨O ++ [.map (asE m)], A⟩)) :
    Ends (callA G true cl yl N c83 [.agg (nc6 op so nn mm (.osl lo 0 0 1) kv), .map mid, .ptr t 0] ⟨os, ar⟩) (ApP F os ar m tk (.mk op [x] so nn mm l) t lo hi (.agg (nc6 op so nn mm (.osl lo 0 0 1) kv))) := by
  have htl := hT.lt
  obtain ⟨tv, tv', A1, t1, t2, t3, t4, ⟨a', g', rfl, t6, t7⟩, t8, t9⟩ := app_tk hT (by omega) (F x tk)
  have hlo : lo < ar.length := by omega
  have hloT : ¬ TkRow os t lo := fun h => by have := hR lo h; omega
  have hA1 : A1[lo]? = some (.wr 0 9 .sc [.str x]) := by rw [t9 lo hlo hloT]; exact hnm
  have hla : a' ≠ lo := by
    rcases t7 with h | h
    · have := hR a' h; omega
    · omega
  generalize hA2 : A1.set lo (.wr 0 9 .sc [.str (F x tk)]) = ar2
  have h2l : ar2.length = A1.length := by rw [← hA2]; simp
  have har : ∀ i, i < ar.length → i ≠ lo → ¬ TkRow os t i → ar2[i]? = ar[i]? := fun i h n q => by rw [← hA2, List.getElem?_set_ne (by omega), t9 i h q]
  have hlo2 : ar2[lo]? = some (.wr 0 9 .sc [.str (F x tk)]) := by rw [← hA2, List.getElem?_set_self (by omega)]
  have ht2 : ar2[a']? = some (.wr g' 9 .sc ((tk ++ [F x tk]).map .str)) := by rw [← hA2, List.getElem?_set_ne (by omega)]; exact t6
  have e1 : (apF F m tk (.mk op [x] so nn mm l)).1 = .mk op [F x tk] so nn mm (apL F (ptS m x (F x tk)) (tk ++ [F x tk]) l).1 := by simp only [apF]; rw [if_pos hop]
  have e2 : (apF F m tk (.mk op [x] so nn mm l)).2 = (apL F (ptS m x (F x tk)) (tk ++ [F x tk]) l).2 := by simp only [apF]; rw [if_pos hop]
  have hin : ∀ i, md ≤ i → i < hi → ar2[i]? = ar[i]? := fun i c d => har i (by omega) (by omega) (fun h => by have := hR i h; omega)
  have run := ap_runB (G := G) (cl := cl) (yl := yl) (N := N) op so nn mm kv lo l.length x (F x tk) m mid t tv (.osl a' g' 0 (tk.length + 1)) os ar A1 J6 J8
    (fun O1 A1 => LdL A1 (apL F (ptS m x (F x tk)) (tk ++ [F x tk]) l).1 md hi b vs ∧ KvAt A1 l.length b vs kv md hi ∧ A1[lo]? = some (.wr 0 9 .sc [.str (F x tk)]) ∧ Fr os ar t lo hi O1 A1 ∧ TkS O1 A1 t (apL F (ptS m x (F x tk)) (tk ++ [F x tk]) l).2) (by omega) h106 h108 hnm t1 hm t2 rfl (by simp) (h120 tv t3) h121 t4 hA1 ?_ ?_
  · obtain ⟨v', ⟨O2, A2⟩, hrun, hv, O1, ⟨q1, q2, q3, q4, q5⟩, hO⟩ := run.out
    rw [hrun]
    simp only at q1 q2 q3 q4 q5 hO
    subst hO
    have hne : os.length + 1 ≠ t := by omega
    show ApP F os ar m tk _ t lo hi _ v' ⟨_, A2⟩
    refine ⟨hv, ?_, ⟨fun i h n => ?_, q4.a, by simpa using q4.ol, q4.al, fun i h => q4.tk i ((TkRow_set hne).1 h)⟩, ?_⟩
    · rw [e1]
      simp only [Ld]
      exact ⟨.osl lo 0 0 1, kv, md, b, vs, rfl, .inr ⟨by simp, hmd, rfl, q3⟩, hmh, by rw [apL_len]; exact q2, q1⟩
    · show (O1.set (os.length + 1) _)[i]? = _
      rw [List.getElem?_set_ne (by omega)]
      exact q4.o i h n
    · rw [e2]
      exact (TkS_set hne).2 q5
  · intro O
    rw [hA2]
    rcases hkv with ⟨h0, rfl⟩ | ⟨k, h0, rfl, h1, h2, h3⟩
    · rw [h0]; exact ⟨rfl, rfl⟩
    · rw [h0]
      refine ⟨rfl, ?_⟩
      have : ar2[b]? = some (.wr k 30 (.ag 6) (flC vs)) := by rw [hin b h2 h3]; exact h1
      simp only [lenA, rowOf_eq (M := ⟨O, ar2⟩) this]
      rfl
  · intro O ts j hO hOt hbox hz hj hjl l1 l2 l3 l6 l67 l68 l69
    rw [hA2]
    obtain ⟨z, hz1, hz2⟩ := hz
    have hTO : TkS O ar2 t (tk ++ [F x tk]) := .inr ⟨by simp, a', g', by rw [hOt]; simp, ht2⟩
    have hrowO : ∀ i, TkRow O t i → i = a' := by
      rintro i ⟨g, n, h⟩
      rw [hOt] at h
      simp at h
      exact h.1.symm
    have frO : Fr os ar t lo hi O ar2 := ⟨fun i h n => hO i h n, fun i h c n => har i h (by omega) n, by have := (List.getElem?_eq_some_iff.1 hbox).1; omega, by omega, fun i h => by rw [hrowO i h]; exact t7⟩
    have hRO : ∀ i, TkRow O t i → (i < md ∨ hi ≤ i) := fun i h => by
      have e := hrowO i h
      subst e
      rcases t7 with q | q
      · have := hR _ q; omega
      · omega
    rcases hkv with ⟨h0, rfl⟩ | ⟨k, h0, rfl, h1, h2, h3⟩
    · have hl : l = [] := List.eq_nil_of_length_eq_zero h0
      subst hl
      simp only [LdL] at hL
      subst hL
      refine ⟨_, O, ar2, z, loop1_nil N O ar2 ts (by omega) l68 l69, by simpa using l3, by simpa using l6, hbox, hz1, hz2, by simp only [apL, LdL], .inl ⟨rfl, rfl⟩, hlo2, frO, hTO⟩
    · obtain ⟨i1, i2⟩ := LdL_6 ar l hL
      have hb1 : ar2[b]? = some (.wr k 30 (.ag 6) (flC vs)) := by rw [hin b h2 h3]; exact h1
      rw [h0] at l68 hlb
      obtain ⟨ts', O1, A3, s1, u3, u6, hl1, fr1, hts1, hb2⟩ := ap_loop1 (G := G) (cl := cl) (yl := yl) (N0 := N) F B op so nn mm (.osl lo 0 0 1) os.length t j b k (k + 1) (flC vs) (ptS m x (F x tk)) vs rfl i2 (by omega) hlb (by omega) l 0 md hi vs (tk ++ [F x tk]) O ar2 ts (.ptr (os.length + 1) 0) N rfl
        (LdL.frame l (fun i c d => hin i c d) hL) (by omega) hK (by omega) hj (by omega) hTO (fun i h => by
          have := hRO i h
          omega) (by simp; omega) hbox hb1 hN hmh (by omega) l1 l2 l3 l6 l67 l68 l69
      have hbx : O1[os.length]? = O[os.length]? := fr1.o _ (List.getElem?_eq_some_iff.1 hbox).1 (by omega)
      have hzx : O1[os.length + 1]? = O[os.length + 1]? := fr1.o _ (List.getElem?_eq_some_iff.1 hz1).1 (by omega)
      refine ⟨ts', O1, A3, z, s1, u3, u6, by rw [hbx]; exact hbox, by rw [hzx]; exact hz1, hz2, hl1, .inr ⟨k, h0, rfl, hb2, h2, h3⟩, ?_, Fr.trans frO fr1 (Nat.le_refl _) (Nat.le_refl _) (by omega) (Nat.le_refl _), hts1⟩
      rw [fr1.a lo (by omega) (by omega) (fun h => by have := hRO lo h; exact hla (hrowO lo h).symm)]
      exact hlo2
end
def orcX (orc : Nat → List AV → Ores) (f : Nat) (ags : List AV) : Ores := match f with
  | 51 => none
  | f => orc f ags
theorem orcX_ne {orc : Nat → List AV → Ores} {f : Nat} (h : f ≠ 51) (ags : List AV) : orcX orc f ags = orc f ags := by
  unfold orcX
  split
  · exact absurd rfl h
  · rfl
theorem orcX_ok {P : Program} {G : Nat → Option AV} {orc : Nat → List AV → Ores} (h : OrcOK P G orc) : OrcOK P G (orcX orc) := by
  intro f ags r hr
  unfold orcX at hr
  split at hr
  · cases hr
  · exact h _ ags r hr
abbrev BM (G : Nat → Option AV) (orc : Nat → List AV → Ores) (N k : Nat) : Caller := (both G (TW orc) N true k).1
abbrev YM (G : Nat → Option AV) (orc : Nat → List AV → Ores) (N k : Nat) : Nat → List AV → Mem → Option (AV × Mem) := (both G (TW orc) N true k).2
section
variable {G : Nat → Option AV} {orc : Nat → List AV → Ores} {N k f : Nat} {ags : List AV}
theorem takeV_true (v : AV) (M : Mem) : takeV true (v, none) M = some (v, M) := by cases v <;> rfl
theorem bm_orc {v : AV} (h : orcW orc f ags = some (v, none)) (M : Mem) : BM G orc N (k + 1) f ags M = some (v, M) := by
  have e : (TW orc).orc f ags = some (v, none) := h
  unfold BM
  rw [both]
  simp only [e, takeV_true]
theorem bm_call {cf : CFn} (h1 : orcW orc f ags = none) (hf : fns f = some cf) (hp : cf.pure = false ∨ argL ags = none ∨ mutv f = true) (M : Mem) :
    BM G orc N (k + 1) f ags M = callA G true (BM G orc N k) (YM G orc N k) N cf ags M := by
  have e1 : (TW orc).orc f ags = none := h1
  have e2 : (TW orc).fns f = some cf := hf
  have e3 : (TW orc).mutf f = mutv f := rfl
  unfold BM YM
  rw [both]
  simp only [e1, e2, e3]
  have e4 : (cf.pure && !(true && mutv f) && (argL ags).isSome) = false := by
    rcases hp with h | h | h <;> simp [h]
  rw [e4]
  simp
theorem orcW_none (h : argL ags = none) : orcW orc f ags = none := by unfold orcW; rw [h]
theorem bm_v {L : List (Nat × (List AV → Ores))} {X : Type} {enc : X → List AV} {F : X → AV × Option Arr} {ok : X → Prop} (inj : ∀ x y, enc x = enc y → x = y) (x : X) (ho : Has L f (spR enc F ok)) (hx : ok x) (ha : argL ags = some (enc x)) {v : AV} (hv : F x = (v, none)) (hf : f ≠ 51) (M : Mem) :
    BM G (orcX (orcOf L)) N (k + 1) f ags M = some (v, M) := by
  refine bm_orc ?_ M
  unfold orcW
  rw [ha]
  simp only
  rw [orcX_ne hf, ho.eq, spR_at inj hx, hv]
theorem argL_osl (op so nn mm : Int) (nv kv : AV) (rest : List AV) (h : (∃ a g o n, nv = .osl a g o n) ∨ (nv = .slc .full [] ∧ ∃ a g o n, kv = .osl a g o n)) : argL (.agg (nc6 op so nn mm nv kv) :: rest) = none := by
  rcases h with ⟨a, g, o, n, rfl⟩ | ⟨rfl, a, g, o, n, rfl⟩
  · simp [nc6, argL, pureV, pureL]
  · simp [nc6, argL, pureV, pureL]
end
section
variable {G : Nat → Option AV} {cl : Caller} {yl : Nat → List AV → Mem → Option (AV × Mem)} {N N0 : Nat}
theorem hL0_osl (m : List (Str × Str)) (os : List Obj) (ar : List Arr) (mid lo off t : Nat) (pre : List AV) (l : List Str) (hm : os[mid]? = some (.map (asE m))) (ha : ar[lo]? = some (.wr 0 9 .sc (pre ++ l.map .str))) (ho : pre.length = off) (hb : off + l.length < big) (hN : l.length < N) :
    ∀ O ts, (∀ i, i < os.length → O[i]? = os[i]?) → look 1 ts = .map mid → look 2 ts = .ptr t 0 → look 3 ts = .ptr os.length 0 → look 6 ts = .ptr (os.length + 1) 0 → look 7 ts = .osl lo 0 off l.length → look 17 ts = .osl lo 0 off l.length → look 18 ts = .int .i64 l.length → look 19 ts = .int .i64 0 →
      ∃ ts', iter true (evalC G true cl yl N0 c83b0) ⟨[1, 2, 3, 6, 7, 17, 18, 19], [(19, none)]⟩ 0 0 N ⟨ts, ⟨O, ar⟩, []⟩ = some (.exit 0, ⟨ts', ⟨O, ar.set lo (.wr 0 9 .sc (pre ++ (l.map (ren m)).map .str))⟩, []⟩) ∧ look 1 ts' = .map mid ∧ look 2 ts' = .ptr t 0 ∧ look 3 ts' = .ptr os.length 0 ∧ look 6 ts' = .ptr (os.length + 1) 0 := by
  intro O ts hO l1 l2 l3 l6 l7 l17 l18 l19
  have hml := (List.getElem?_eq_some_iff.1 hm).1
  obtain ⟨e, ⟨ts', M', mk'⟩, e1, -, rfl, rfl, rfl, a1, a2, a3, a6⟩ := ap_loop0 (G := G) (cl := cl) (yl := yl) (N0 := N0) m O ar mid lo off pre l _ _ _ [] 0 0 (by rw [hO mid hml]; exact hm) ha ho hb hN ts l1 l2 l3 l6 l7 l17 l18 l19
  exact ⟨ts', e1, a1, a2, a3, a6⟩
theorem hL0_nil (os : List Obj) (ar : List Arr) (mid t : Nat) (own : AV) (hN : 0 < N) :
    ∀ O ts, (∀ i, i < os.length → O[i]? = os[i]?) → look 1 ts = .map mid → look 2 ts = .ptr t 0 → look 3 ts = .ptr os.length 0 → look 6 ts = .ptr (os.length + 1) 0 → look 7 ts = own → look 17 ts = own → look 18 ts = .int .i64 ((0 : Nat) : Int) → look 19 ts = .int .i64 0 →
      ∃ ts', iter true (evalC G true cl yl N0 c83b0) ⟨[1, 2, 3, 6, 7, 17, 18, 19], [(19, none)]⟩ 0 0 N ⟨ts, ⟨O, ar⟩, []⟩ = some (.exit 0, ⟨ts', ⟨O, ar⟩, []⟩) ∧ look 1 ts' = .map mid ∧ look 2 ts' = .ptr t 0 ∧ look 3 ts' = .ptr os.length 0 ∧ look 6 ts' = .ptr (os.length + 1) 0 := by
  intro O ts hO l1 l2 l3 l6 l7 l17 l18 l19
  exact ⟨_, loop0_nil O ar ts hN l18 l19, by simpa using l1, by simpa using l2, by simpa using l3, by simpa using l6⟩
end
structure HAp (G : Nat → Option AV) (L : List (Nat × (List AV → Ores))) (N : Nat) (F : Str → List Str → Str) (B : Nat) : Prop where
  h106 : Has L 106 s106
  h108 : Has L 108 s108
  n83 : ∀ ags, orcOf L 83 ags = none
  n121 : ∀ ags, orcOf L 121 ags = none
  hB : B < big
  fresh : ∀ (k : Nat) (x : Str) (tk : List Str) (A : List Arr) (tv : AV), isId x = true → tk.length ≤ B → ((tk = [] ∧ tv = .slc .full []) ∨ (tk ≠ [] ∧ ∃ a g, tv = .osl a g 0 tk.length ∧ A[a]? = some (.wr g 9 .sc (tk.map .str)))) → ∀ O, BM G (orcX (orcOf L)) N (k + 4) 120 [.str x, tv] ⟨O, A⟩ = some (.str (F x tk), ⟨O, A⟩)
section
variable {G : Nat → Option AV} {L : List (Nat × (List AV → Ores))} {N : Nat} {F : Str → List Str → Str} {B : Nat}
theorem bx106_no (k : Nat) (op so nn mm : Int) (nv kv : AV) (h : op < 2 ∨ 10 < op) (hs : (∃ a g o n, nv = .osl a g o n) ∨ (nv = .slc .full [] ∧ ∃ a g o n, kv = .osl a g o n)) (O : List Obj) (A : List Arr) :
    BM G (orcX (orcOf L)) N (k + 1) 106 [.agg (nc6 op so nn mm nv kv)] ⟨O, A⟩ = some (.slc .full [], ⟨O ++ [.cells (nc6 op so nn mm nv kv)], A⟩) := by
  have ha := argL_osl op so nn mm nv kv [] hs
  rw [bm_call (cf := c106) (orcW_none ha) rfl (.inr (.inl ha))]
  exact mv106_no op so nn mm nv kv O A h
theorem bx108_no (k : Nat) (op so nn mm : Int) (nv kv : AV) (h : op < 16) (hs : (∃ a g o n, nv = .osl a g o n) ∨ (nv = .slc .full [] ∧ ∃ a g o n, kv = .osl a g o n)) (O : List Obj) (A : List Arr) :
    BM G (orcX (orcOf L)) N (k + 1) 108 [.agg (nc6 op so nn mm nv kv)] ⟨O, A⟩ = some (.bool false, ⟨O ++ [.cells (nc6 op so nn mm nv kv)], A⟩) := by
  have ha := argL_osl op so nn mm nv kv [] hs
  rw [bm_call (cf := c108) (orcW_none ha) rfl (.inr (.inl ha))]
  exact mv108_no op so nn mm nv kv O A h
theorem orcX_none {f : Nat} (h : ∀ ags, orcOf L f ags = none) (hf : f ≠ 51) (ags : List AV) : orcW (orcX (orcOf L)) f ags = none := by
  unfold orcW
  split
  · rw [orcX_ne hf]; exact h _
  · rfl
theorem bx121 (h : ∀ ags, orcOf L 121 ags = none) (k mid : Nat) (es : List (AV × AV)) (O : List Obj) (A : List Arr) (hm : O[mid]? = some (.map es)) : BM G (orcX (orcOf L)) N (k + 1) 121 [.map mid] ⟨O, A⟩ = some (.map O.length, ⟨O ++ [.map es], A⟩) := by
  rw [bm_call (cf := c121) (orcX_none h (by decide) _) rfl (.inl rfl)]
  simp -implicitDefEqProofs [c121, hm]
theorem NmAt.nil {A : List Arr} {lo m : Nat} {nv : AV} (h : NmAt A [] lo m nv) : nv = .slc .full [] ∧ lo ≤ m := by
  rcases h with ⟨_, h1, h2⟩ | ⟨h1, _⟩
  · exact ⟨h1, h2⟩
  · exact absurd rfl h1
theorem NmAt.cons {A : List Arr} {x : Str} {xs : List Str} {lo m : Nat} {nv : AV} (h : NmAt A (x :: xs) lo m nv) : lo < m ∧ nv = .osl lo 0 0 (xs.length + 1) ∧ A[lo]? = some (.wr 0 9 .sc ((x :: xs).map .str)) := by
  rcases h with ⟨h1, _⟩ | ⟨_, h2, h3, h4⟩
  · cases h1
  · exact ⟨h2, h3, h4⟩
theorem KvAt.nil {A : List Arr} {b m hi : Nat} {vs : List AV} {kv : AV} (h : KvAt A 0 b vs kv m hi) : kv = .slc .full [] := by
  rcases h with ⟨_, h⟩ | ⟨k, h, _⟩
  · exact h
  · cases h
theorem KvAt.cons {A : List Arr} {k b m hi : Nat} {vs : List AV} {kv : AV} (h : KvAt A (k + 1) b vs kv m hi) : ∃ a g o n, kv = .osl a g o n := by
  rcases h with ⟨h, _⟩ | ⟨j, h1, h2, _⟩
  · cases h
  · exact ⟨_, _, _, _, h2⟩
theorem NmAt.len {A : List Arr} {ns : List Str} {lo m : Nat} {nv : AV} (h : NmAt A ns lo m nv) : lo ≤ m := by
  rcases h with ⟨_, _, h⟩ | ⟨_, h, _⟩ <;> omega
theorem apC_op (H : HAp G L N F B) (k : Nat) (t : Nat) (op : Int) (l : List Nd) (hop : 10 < op ∧ op < 16) (hl : l ≠ []) (hlb : l.length < big) (hN : l.length < N) (hK : ∀ x ∈ l, ApC (BM G (orcX (orcOf L)) N (k + 1)) F B t x) : ApC (BM G (orcX (orcOf L)) N (k + 2)) F B t (.mk op [] 0 0 0 l) := by
  intro m tk O A mid lo hi v hLd hhi hm hT hR hB
  simp only [Ld] at hLd
  obtain ⟨nv, kv, md, b, vs, rfl, hnm, hmh, hkv, hL⟩ := hLd
  obtain ⟨rfl, hlo⟩ := hnm.nil
  have hs : (∃ a g o n, (AV.slc .full [] : AV) = .osl a g o n) ∨ ((AV.slc .full [] : AV) = .slc .full [] ∧ ∃ a g o n, kv = .osl a g o n) := by
    cases l with
    | nil => exact absurd rfl hl
    | cons x xs => exact .inr ⟨rfl, hkv.cons⟩
  rw [bm_call (cf := c83) (orcX_none H.n83 (by decide) _) rfl (.inl rfl)]
  refine ap_nb F B op 0 0 0 [] l hop.2 m tk O A A mid t lo hi _ kv (.slc .full []) md b vs 0 _ _ hlo hmh hkv hL hhi hm hT hR (by simp only [sz] at hB; omega) hlb hN hK
    (fun O => bx106_no k op 0 0 0 _ kv (.inr hop.1) hs O A) (by simp) (fun O => ⟨rfl, rfl⟩) (hL0_nil O A mid t _ (by omega)) (fun O => bx108_no k op 0 0 0 _ kv hop.2 hs O A) ?_ (fun _ _ => rfl) rfl
  have : uR m op [] = [] := by unfold uR; rw [if_neg (by omega), if_neg (by omega)]
  rw [this]; exact hnm
theorem apC_qn (H : HAp G L N F B) (k : Nat) (t : Nat) (op so : Int) (x : Str) (a : Nd) (hop : op = 16 ∨ op = 17) (hx : isId x = true) (hN : 1 < N) (hK : ApC (BM G (orcX (orcOf L)) N (k + 4)) F B t a) : ApC (BM G (orcX (orcOf L)) N (k + 5)) F B t (.mk op [x] so 0 0 [a]) := by
  intro m tk O A mid lo hi v hLd hhi hm hT hR hB
  simp only [Ld] at hLd
  obtain ⟨nv, kv, md, b, vs, rfl, hnm, hmh, hkv, hL⟩ := hLd
  obtain ⟨hlo, rfl, ha⟩ := hnm.cons
  have hs : (∃ a g o n, (AV.osl lo 0 0 1 : AV) = .osl a g o n) ∨ ((AV.osl lo 0 0 1 : AV) = .slc .full [] ∧ ∃ a g o n, kv = .osl a g o n) := .inl ⟨_, _, _, _, rfl⟩
  have hz : sz (.mk op [x] so 0 0 [a]) = szL [a] + 1 := rfl
  rw [hz] at hB
  have hav := argL_osl op so 0 0 (.osl lo 0 0 1) kv [] hs
  rw [bm_call (cf := c83) (orcX_none H.n83 (by decide) _) rfl (.inl rfl)]
  refine ap_qn F B op so 0 0 x [a] hop m tk O A mid t lo hi kv md b vs [.cells (nc6 op so 0 0 (.osl lo 0 0 1) kv)] [.cells (nc6 op so 0 0 (.osl lo 0 0 1) kv)] hlo hmh ha hkv hL hhi hm hT hR hB H.hB (by simp; unfold big; omega) (by simpa using hN) (fun y hy => by simp at hy; subst hy; exact hK)
    (fun O => bx106_no (k + 3) op so 0 0 _ kv (.inr (by omega)) hs O A) (fun O => ?_) (fun tv htv O => H.fresh k x tk A tv hx (by omega) htv O) (fun O A hO => bx121 H.n121 (k + 3) mid _ O A hO)
  rw [bm_call (cf := c108) (orcW_none hav) rfl (.inr (.inl hav))]
  exact mv108_yes op so 0 0 kv lo _ O A hop ha
theorem set_other {A : List Arr} {lo md : Nat} {X : Arr} (h : lo < md) : ∀ i, (i < lo ∨ md ≤ i) → (A.set lo X)[i]? = A[i]? := fun i hi => List.getElem?_set_ne (by omega)
theorem apC_use (H : HAp G L N F B) (k : Nat) (t : Nat) (op so nn mm : Int) (x : Str) (xs : List Str) (hop : 2 ≤ op ∧ op < 10) (hlb : xs.length + 1 < big) (hN : xs.length + 1 < N) : ApC (BM G (orcX (orcOf L)) N (k + 2)) F B t (.mk op (x :: xs) so nn mm []) := by
  intro m tk O A mid lo hi v hLd hhi hm hT hR hB
  simp only [Ld] at hLd
  obtain ⟨nv, kv, md, b, vs, rfl, hnm, hmh, hkv, hL⟩ := hLd
  obtain ⟨hlo, rfl, ha⟩ := hnm.cons
  have hs : (∃ a g o n, (AV.osl lo 0 0 (xs.length + 1) : AV) = .osl a g o n) ∨ ((AV.osl lo 0 0 (xs.length + 1) : AV) = .slc .full [] ∧ ∃ a g o n, kv = .osl a g o n) := .inl ⟨_, _, _, _, rfl⟩
  have hav := argL_osl op so nn mm (.osl lo 0 0 (xs.length + 1)) kv [] hs
  have hu : uR m op (x :: xs) = (x :: xs).map (ren m) := by unfold uR; rw [if_neg (by omega), if_pos hop]
  have hlA : lo < A.length := by omega
  rw [bm_call (cf := c83) (orcX_none H.n83 (by decide) _) rfl (.inl rfl)]
  refine ap_nb F B op so nn mm (x :: xs) [] (by omega) m tk O A (A.set lo (.wr 0 9 .sc (((x :: xs).map (ren m)).map .str))) mid t lo hi _ kv (.osl lo 0 0 (xs.length + 1)) md b vs (xs.length + 1) [.cells (nc6 op so nn mm (.osl lo 0 0 (xs.length + 1)) kv)] [.cells (nc6 op so nn mm (.osl lo 0 0 (xs.length + 1)) kv)] (by omega) hmh hkv hL hhi hm hT hR (by simp only [sz] at hB; omega) (by simp; unfold big; omega) (by simp; omega) (fun y hy => by cases hy)
    (fun O => ?_) (by simp) (fun O => ⟨rfl, by simp only [lenA, rowOf_eq (M := ⟨O, A⟩) ha]; rfl⟩) ?_ (fun O => bx108_no k op so nn mm _ kv (by omega) hs O _) ?_ (set_other hlo) (by simp)
  · rw [bm_call (cf := c106) (orcW_none hav) rfl (.inr (.inl hav))]
    exact mv106_use op so nn mm _ kv O A hop (by simp)
  · exact hL0_osl m O A mid lo 0 t [] (x :: xs) hm (by simpa using ha) rfl (by simpa using hlb) (by simpa using hN)
  · rw [hu]
    exact .inr ⟨by simp, hlo, by simp, by rw [List.getElem?_set_self hlA]⟩
theorem apC_cal (H : HAp G L N F B) (k : Nat) (t : Nat) (so nn mm : Int) (x : Str) (xs : List Str) (hlb : xs.length + 1 < big) (hN : xs.length + 1 < N) : ApC (BM G (orcX (orcOf L)) N (k + 2)) F B t (.mk 10 (x :: xs) so nn mm []) := by
  intro m tk O A mid lo hi v hLd hhi hm hT hR hB
  simp only [Ld] at hLd
  obtain ⟨nv, kv, md, b, vs, rfl, hnm, hmh, hkv, hL⟩ := hLd
  have hnm0 := hnm
  obtain ⟨hlo, rfl, ha⟩ := hnm.cons
  have hs : (∃ a g o n, (AV.osl lo 0 0 (xs.length + 1) : AV) = .osl a g o n) ∨ ((AV.osl lo 0 0 (xs.length + 1) : AV) = .slc .full [] ∧ ∃ a g o n, kv = .osl a g o n) := .inl ⟨_, _, _, _, rfl⟩
  have hav := argL_osl 10 so nn mm (.osl lo 0 0 (xs.length + 1)) kv [] hs
  have hu : uR m 10 (x :: xs) = x :: xs.map (ren m) := rfl
  have hlA : lo < A.length := by omega
  have h106 : ∀ O, BM G (orcX (orcOf L)) N (k + 1) 106 [.agg (nc6 10 so nn mm (.osl lo 0 0 (xs.length + 1)) kv)] ⟨O, A⟩ = some (if xs.length = 0 then .slc .shared [] else .osl lo 0 1 xs.length, ⟨O ++ [.cells (nc6 10 so nn mm (.osl lo 0 0 (xs.length + 1)) kv)], A⟩) := by
    intro O
    rw [bm_call (cf := c106) (orcW_none hav) rfl (.inr (.inl hav))]
    exact mv106_cal so nn mm kv lo xs.length O A _ ha
  rw [bm_call (cf := c83) (orcX_none H.n83 (by decide) _) rfl (.inl rfl)]
  cases xs with
  | nil =>
    refine ap_nb F B 10 so nn mm [x] [] (by omega) m tk O A A mid t lo hi _ kv (.slc .shared []) md b vs 0 _ [.cells (nc6 10 so nn mm (.osl lo 0 0 1) kv)] (by omega) hmh hkv hL hhi hm hT hR (by simp only [sz] at hB; omega) (by simp; unfold big; omega) (by simp at hN ⊢; omega) (fun y hy => by cases hy)
      h106 (by simp) (fun O => ⟨rfl, rfl⟩) (hL0_nil O A mid t _ (by omega)) (fun O => bx108_no k 10 so nn mm _ kv (by omega) hs O _) hnm0 (fun _ _ => rfl) rfl
  | cons y ys =>
    have hne : ¬ (y :: ys).length = 0 := by simp
    rw [if_neg hne] at h106
    refine ap_nb F B 10 so nn mm (x :: y :: ys) [] (by omega) m tk O A (A.set lo (.wr 0 9 .sc ([.str x] ++ ((y :: ys).map (ren m)).map .str))) mid t lo hi _ kv (.osl lo 0 1 (y :: ys).length) md b vs (y :: ys).length _ [.cells (nc6 10 so nn mm (.osl lo 0 0 ((y :: ys).length + 1)) kv)] (by omega) hmh hkv hL hhi hm hT hR (by simp only [sz] at hB; omega) (by simp; unfold big; omega) (by simp; omega) (fun y hy => by cases hy)
      h106 (by simp) (fun O => ⟨rfl, by simp only [lenA, rowOf_eq (M := ⟨O, A⟩) ha]; rfl⟩) ?_ (fun O => bx108_no k 10 so nn mm _ kv (by omega) hs O _) ?_ (set_other hlo) (by simp)
    · exact hL0_osl m O A mid lo 1 t [.str x] (y :: ys) hm (by simpa using ha) rfl (by simp at hlb ⊢; omega) (by simp at hN ⊢; omega)
    · rw [hu]
      exact .inr ⟨by simp, hlo, by simp, by rw [List.getElem?_set_self hlA]; rfl⟩
theorem apC_cst (H : HAp G L N F B) (k : Nat) (t : Nat) (op : Int) (hop : op = 0 ∨ op = 1) (hN : 0 < N) : ApC (BM G (orcX (orcOf L)) N (k + 2)) F B t (.mk op [] 0 0 0 []) := by
  intro m tk O A mid lo hi v hLd hhi hm hT hR hB
  simp only [Ld] at hLd
  obtain ⟨nv, kv, md, b, vs, rfl, hnm, hmh, hkv, hL⟩ := hLd
  obtain ⟨rfl, hlo⟩ := hnm.nil
  have hk := hkv.nil
  subst hk
  have ha : argL [.agg (nc6 op 0 0 0 (.slc .full []) (.slc .full []))] = some (e1 (.mk op [] 0 0 0 [])) := rfl
  have h106 : ∃ sp, ∀ O, BM G (orcX (orcOf L)) N (k + 1) 106 [.agg (nc6 op 0 0 0 (.slc .full []) (.slc .full []))] ⟨O, A⟩ = some (.slc sp [], ⟨O ++ [], A⟩) := by
    refine ⟨nfl (usB (.mk op [] 0 0 0 [])), fun O => ?_⟩
    rw [List.append_nil]
    exact bm_v av1_inj (.mk op [] 0 0 0 []) H.h106 trivial ha (by rcases hop with rfl | rfl <;> rfl) (by decide) _
  obtain ⟨sp, h106⟩ := h106
  rw [bm_call (cf := c83) (orcX_none H.n83 (by decide) _) rfl (.inl rfl)]
  refine ap_nb F B op 0 0 0 [] [] (by omega) m tk O A A mid t lo hi _ _ (.slc sp []) md b vs 0 _ [] hlo hmh hkv hL hhi hm hT hR (by simp only [sz] at hB; omega) (by simp; unfold big; omega) (by simpa using hN) (fun y hy => by cases hy)
    h106 (by simp) (fun O => ⟨rfl, rfl⟩) (hL0_nil O A mid t _ hN) (fun O => ?_) ?_ (fun _ _ => rfl) rfl
  · rw [List.append_nil]
    exact bm_v av1_inj (.mk op [] 0 0 0 []) H.h108 trivial ha (by rcases hop with rfl | rfl <;> rfl) (by decide) _
  · have : uR m op [] = [] := by unfold uR; rw [if_neg (by omega), if_neg (by omega)]
    rw [this]; exact hnm
end
section
variable {G : Nat → Option AV} {L : List (Nat × (List AV → Ores))} {N : Nat} {F : Str → List Str → Str} {B : Nat}
theorem apC_all (H : HAp G L N F B) (hN : 20 < N) (t : Nat) : ∀ (s : Nat) (n : Nd), sz n ≤ s → ndE n = 0 → ∀ k, s + 5 ≤ k → ApC (BM G (orcX (orcOf L)) N k) F B t n
  | 0, n, hs, _ => by have := sz_pos n; omega
  | s + 1, n, hs, hv => by
    intro k hk
    have bg : 100 < big := by unfold big; omega
    cases vk_of hv with
    | cst op h =>
      obtain ⟨j, rfl⟩ : ∃ j, k = j + 2 := ⟨k - 2, by omega⟩
      exact apC_cst H j t op h (by omega)
    | two op x y h hx hy =>
      obtain ⟨j, rfl⟩ : ∃ j, k = j + 2 := ⟨k - 2, by omega⟩
      exact apC_use H j t op 0 0 0 x [y] (by omega) (by simp; omega) (by simp; omega)
    | lab x q hx h =>
      obtain ⟨j, rfl⟩ : ∃ j, k = j + 2 := ⟨k - 2, by omega⟩
      exact apC_use H j t 7 0 q 0 x [] (by omega) (by simp; omega) (by simp; omega)
    | smd x q m hx h =>
      obtain ⟨j, rfl⟩ : ∃ j, k = j + 2 := ⟨k - 2, by omega⟩
      exact apC_use H j t 8 0 q m x [] (by omega) (by simp; omega) (by simp; omega)
    | sng x hx =>
      obtain ⟨j, rfl⟩ : ∃ j, k = j + 2 := ⟨k - 2, by omega⟩
      exact apC_use H j t 9 0 0 0 x [] (by omega) (by simp; omega) (by simp; omega)
    | cal x xs h hx =>
      obtain ⟨j, rfl⟩ : ∃ j, k = j + 2 := ⟨k - 2, by omega⟩
      simp at h
      exact apC_cal H j t 0 0 0 x xs (by omega) (by omega)
    | not a ha =>
      obtain ⟨j, rfl⟩ : ∃ j, k = j + 2 := ⟨k - 2, by omega⟩
      have hz : sz (nd 11 [a]) = sz a + 1 := by simp [nd, sz, szL]
      refine apC_op H j t 11 [a] (by omega) (by simp) (by simp; omega) (by simp; omega) (fun x hx => ?_)
      simp at hx
      subst hx
      exact apC_all H hN t s x (by omega) ha (j + 1) (by omega)
    | bin op a b h ha hb =>
      obtain ⟨j, rfl⟩ : ∃ j, k = j + 2 := ⟨k - 2, by omega⟩
      have hz : sz (nd op [a, b]) = sz a + sz b + 1 := by simp [nd, sz, szL]
      have p1 := sz_pos a
      have p2 := sz_pos b
      refine apC_op H j t op [a, b] (by omega) (by simp) (by simp; omega) (by simp; omega) (fun x hx => ?_)
      simp at hx
      rcases hx with rfl | rfl
      · exact apC_all H hN t s x (by omega) ha (j + 1) (by omega)
      · exact apC_all H hN t s x (by omega) hb (j + 1) (by omega)
    | qnt op x so a h hx hso ha =>
      obtain ⟨j, rfl⟩ : ∃ j, k = j + 5 := ⟨k - 5, by omega⟩
      have hz : sz (qn op x so a) = sz a + 1 := by simp [qn, sz, szL]
      exact apC_qn H j t op so x a h hx (by omega) (apC_all H hN t s a (by omega) ha (j + 4) (by omega))
theorem flat_str : ∀ l : List Str, flat (l.map .str) = some (l.map .str)
  | [] => rfl
  | x :: xs => by simp [flat, flat_str xs]
theorem plain_str : ∀ l : List Str, plainL (l.map .str) = true
  | [] => rfl
  | x :: xs => by simp [plainL, plain_str xs]
theorem bx74 (h : Has L 74 (cloneA 9 1)) (k : Nat) (ns : List Str) (hl : ns.length < big) : H74 (BM G (orcX (orcOf L)) N (k + 1)) ns := by
  unfold big at hl
  intro os ar
  have e : (TW (orcX (orcOf L))).orc 74 [.slc .shared (ns.map .str)] = cloneA 9 1 [.slc .shared (ns.map .str)] := by
    show orcW (orcX (orcOf L)) 74 [.slc .shared (ns.map .str)] = _
    unfold orcW
    rw [show argL [AV.slc .shared (ns.map .str)] = some [.slc .shared (ns.map .str)] from rfl]
    simp only
    rw [orcX_ne (by decide), h.eq]
  show (both G (TW (orcX (orcOf L))) N true (k + 1)).1 _ _ _ = _
  rw [both]
  simp only [e]
  cases ns with
  | nil => rfl
  | cons s ss =>
    simp at hl
    have b1 : (ss.length + 1) * 4096 ≤ 140737488355328 := by omega
    have hf := flat_str (s :: ss)
    have hp := plain_str (s :: ss)
    simp only [List.map_cons] at hf hp
    simp [cloneA, b1, takeV, hf, hp]
theorem cpd_all (h74 : Has L 74 (cloneA 9 1)) (hN : 20 < N) : ∀ (s : Nat) (n : Nd), sz n ≤ s → ndE n = 0 → ∀ k, s + 2 ≤ k → ∀ os ar, Ends (BM G (orcX (orcOf L)) N k 51 [av n] ⟨os, ar⟩) (Cpd os ar n)
  | 0, n, hs, _ => by have := sz_pos n; omega
  | s + 1, n, hs, hv => by
    intro k hk os ar
    obtain ⟨j, rfl⟩ : ∃ j, k = j + 1 + 1 := ⟨k - 2, by omega⟩
    have hx : orcW (orcX (orcOf L)) 51 [av n] = none := by unfold orcW; split <;> rfl
    rw [bm_call (cf := c51) hx rfl (.inr (.inr rfl))]
    have hns : n.ns.length < big := by have := ns_len hv; unfold big; omega
    have h7 := bx74 (G := G) (N := N) h74 j n.ns hns
    cases vk_of hv with
    | cst op h => exact mv51_at _ rfl h7 os ar (by omega)
    | two op x y h hx hy => exact mv51_at _ rfl h7 os ar (by omega)
    | lab x q hx h => exact mv51_at _ rfl h7 os ar (by omega)
    | smd x q m hx h => exact mv51_at _ rfl h7 os ar (by omega)
    | sng x hx => exact mv51_at _ rfl h7 os ar (by omega)
    | cal x xs h hx => exact mv51_at _ rfl h7 os ar (by omega)
    | not a ha =>
      have hz : sz (nd 11 [a]) = sz a + 1 := by simp [nd, sz, szL]
      exact mv51_one0 11 0 0 0 a h7 (cpd_all h74 hN s a (by omega) ha (j + 1) (by omega)) os ar (by omega)
    | bin op a b h ha hb =>
      have hz : sz (nd op [a, b]) = sz a + sz b + 1 := by simp [nd, sz, szL]
      have p1 := sz_pos a
      have p2 := sz_pos b
      exact mv51_two op 0 0 0 a b h7 (cpd_all h74 hN s a (by omega) ha (j + 1) (by omega)) (cpd_all h74 hN s b (by omega) hb (j + 1) (by omega)) os ar (by omega)
    | qnt op x so a h hx hso ha =>
      have hz : sz (qn op x so a) = sz a + 1 := by simp [qn, sz, szL]
      exact mv51_one1 op so 0 0 x a h7 (cpd_all h74 hN s a (by omega) ha (j + 1) (by omega)) os ar (by omega)
end
end Go.Proofs.Ae
