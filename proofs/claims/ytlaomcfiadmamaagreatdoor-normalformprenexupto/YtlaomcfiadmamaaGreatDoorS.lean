/- Further functions: what they answer, and what that means. -/
import Derived.Test.YtlaomcfiadmamaaGreatDoorR
set_option linter.unusedSimpArgs false
set_option linter.unusedVariables false
set_option linter.unusedSectionVars false
namespace Go.Proofs.Ae
open Go Go.RowKit
section
variable {G : Nat → Option AV} {cl : Caller} {yl : Nat → List AV → Mem → Option (AV × Mem)} {N N0 : Nat}
theorem ev78 (sp : Bool) (env : List Bd) (s : Str) (hl : env.length < big) (hN : env.length < N) :
    pureA G false cl yl N c78 [.slc (nfl sp) (env.map bvv), .str s] = some (.bool (wasE env s), none) := by
  unfold big at hl
  have hrl : env.reverse.length = env.length := List.length_reverse
  have h := iter_find (mu := false) (step := evalC G false cl yl N c78b0) (an := ⟨[0, 1, 5], [(5, none)]⟩) (k := 0) (m := 0) (N := N) env.reverse (hitB s)
    (fun j => ⟨[(0, .slc (nfl sp) (env.map bvv)), (1, .str s), (5, .int .i64 (ix env.length j))], ⟨[], []⟩, []⟩)
    (fun r e s' => e = .ret ∧ look 4 s'.ts = .bool r ∧ s'.mks = []) (.exit 0)
    ⟨[(10, .bool false), (9, .int .i64 (ix env.length env.length)), (0, .slc (nfl sp) (env.map bvv)), (1, .str s), (5, .int .i64 (ix env.length env.length))], ⟨[], []⟩, []⟩ (by rw [hrl]; exact hN) (by simp) ?_ ?_
  · have w0 : wrapF .i64 ((env.length : Int) - 1) = ix env.length 0 := by rw [wrap_id (by omega) (by omega)]; simp [ix]
    unfold wasE
    cases hf : env.reverse.findSome? (hitB s) with
    | none =>
      rw [hf] at h
      simp at h
      cases sp <;> simp [nfl] at h <;> simp -implicitDefEqProofs [c78, nfl, w0, h]
    | some r =>
      rw [hf] at h
      obtain ⟨e, s', q1, -, rfl, q2, q3⟩ := h
      cases sp <;> simp [nfl] at q1 <;> simp -implicitDefEqProofs [c78, nfl, w0, q1, q2, q3]
  · intro j x hx hj
    rw [hrl] at hj
    obtain ⟨i, hi⟩ : ∃ i, env.length = j + 1 + i := ⟨env.length - j - 1, by omega⟩
    have hil : i < env.length := by omega
    have e1 : ix env.length j = (i : Int) := by unfold ix; omega
    have w1 : wrapF .i64 ((i : Int) - 1) = ix env.length (j + 1) := by rw [wrap_id (by omega) (by omega)]; unfold ix; omega
    have hxi : env[i]? = some x := by
      rw [List.getElem?_reverse hj] at hx
      rw [← hx]
      congr 1
      omega
    have hx' := (List.getElem?_eq_some_iff.1 hxi).2
    have hp : (0 : Int) ≤ (i : Int) := by omega
    unfold hitB
    cases hh : x.nm == s with
    | false => cases sp <;> simp -implicitDefEqProofs [c78b0, nfl, e1, w1, hp, hil, hx', bvv, strA, hh]
    | true => cases sp <;> simp -implicitDefEqProofs [c78b0, nfl, e1, w1, hp, hil, hx', bvv, strA, hh]
  · have e1 : decide (ix env.reverse.length env.length ≥ 0) = false := by simp [ix]; omega
    have e2 : decide (0 ≤ ix env.length env.length) = false := by simp [ix]; omega
    rw [hrl] at *
    cases sp <;> simp -implicitDefEqProofs [c78b0, nfl, e1, e2]
theorem ev80 (s : Str) : pureA G false cl yl N c80 [.str s] = some (av (sg s), none) := by
  simp -implicitDefEqProofs [c80, sg, av, avL]
structure Cs44 (cl : Caller) (sp : Bool) (env : List Bd) (n : Nd) : Prop where
  h78 : ∀ s M, cl 78 [.slc (nfl sp) (env.map bvv), .str s] M = some (.bool (wasE env s), M)
  h80 : ∀ s M, cl 80 [.str s] M = some (av (sg s), M)
  h79 : ∀ op a b M, cl 79 [.int .i64 op, av a, av b] M = some (av (nd op [a, b]), M)
  h79r : ∀ a x y M, cl 79 [.int .i64 12, av a, .agg [.int .i64 3, .slc .full [.str x, .str y], .int .i64 0, .int .i64 0, .int .i64 0, .slc .full []]] M = some (av (nd 12 [a, .mk 3 [x, y] 0 0 0 []]), M)
  kid : ∀ x ∈ n.l, n.op < 16 → ∀ M, cl 44 [av x, .slc (nfl sp) (env.map bvv)] M = some (av (seF env x), M)
  kidq : ∀ x ∈ n.l, 16 ≤ n.op → ∀ b k M, cl 44 [av x, .slc (.own k) ((env ++ [b]).map bvv)] M = some (av (seF (env ++ [b]) x), M)
def L44 (env : List Bd) (l : List Nd) : List AV := avL (l.map (seF env))
theorem L44_succ (env : List Bd) {l : List Nd} {i : Nat} {x : Nd} (h : l[i]? = some x) : L44 env (l.take i) ++ [av (seF env x)] = L44 env (l.take (i + 1)) := by
  unfold L44
  rw [List.take_add_one, h, List.map_append, avL_append]; rfl
@[simp] theorem szOk_L44 (env : List Bd) (l : List Nd) : szOk 6 (L44 env l) = true := by unfold L44; simp
theorem L44_len (env : List Bd) (l : List Nd) : (L44 env l).length = l.length := by unfold L44; rw [avL_map]; simp
theorem ev44_loop (n : Nd) (sp : Bool) (env : List Bd) (hb : n.l.length < big) (hN : n.l.length < N) (hc : ∀ x ∈ n.l, ∀ M, cl 44 [av x, .slc (nfl sp) (env.map bvv)] M = some (av (seF env x), M)) :
    iter false (evalC G false cl yl N0 c44b0) ⟨[1, 2, 4, 7, 8], [(7, some 5), (8, none)]⟩ 3 1 N
      ⟨[(1, .slc (nfl sp) (env.map bvv)), (2, .ptr 0 0), (4, .ptr 1 0), (7, .ptr 2 0), (8, .int .i64 ((0 : Nat) : Int))], ⟨[.cells (ndc n), .cells z6, .cells [.int .i64 n.op, .slc .full [], .int .i64 0, .int .i64 0, .int .i64 0, .slc (.own 0) (L44 env (n.l.take 0))]], [rowA 0 25 6]⟩, []⟩ =
    some (.exit 1, ⟨[(75, .bool false), (74, .int .i64 n.l.length), (73, .slc .shared (avL n.l)), (72, .ptr 0 5), (71, .int .i64 n.l.length), (1, .slc (nfl sp) (env.map bvv)), (2, .ptr 0 0), (4, .ptr 1 0), (7, .ptr 2 0), (8, .int .i64 n.l.length)],
      ⟨[.cells (ndc n), .cells z6, .cells [.int .i64 n.op, .slc .full [], .int .i64 0, .int .i64 0, .int .i64 0, .slc (.own 0) (L44 env n.l)]], [rowA n.l.length 25 6]⟩, []⟩) := by
  unfold big at hb
  refine iter_all n.l
    (fun i => ⟨[(1, .slc (nfl sp) (env.map bvv)), (2, .ptr 0 0), (4, .ptr 1 0), (7, .ptr 2 0), (8, .int .i64 (i : Int))], ⟨[.cells (ndc n), .cells z6, .cells [.int .i64 n.op, .slc .full [], .int .i64 0, .int .i64 0, .int .i64 0, .slc (.own 0) (L44 env (n.l.take i))]], [rowA i 25 6]⟩, []⟩) (.exit 1) _ hN (by simp) ?_ ?_
  · intro i x hx hi
    have w1 := wrap_succ (i := i) (by omega)
    have hc' := hc x (mem_of_get hx)
    have hx' := (List.getElem?_eq_some_iff.1 hx).2
    have ht := L44_succ env hx
    have hm : (L44 env (n.l.take i)).length = i := by rw [L44_len]; simp; omega
    have hq : (i + 1) * 80 ≤ 140737488355328 := by omega
    have hq2 : i + 1 ≤ 140737488355328 := by omega
    have hr : i = 0 ∨ ¬ i = 0 := Decidable.em _
    cases sp <;> simp [nfl] at hc' <;> simp -implicitDefEqProofs [c44b0, nfl, z6, rowA, hi, hx', hc', w1, hm, hq, hq2, ht, hr]
  · cases sp <;> simp -implicitDefEqProofs [c44b0, nfl, z6]
theorem seF_at {env : List Bd} {n : Nd} (h : n.op < 11) : seF env n = setA env n := by cases n; simp only [seF]; exact if_pos h
theorem ev44_q1 {op : Int} (h : op = 16 ∨ op = 17) (x : Str) (so : Int) (a m : Nd) (sp : Bool) (env : List Bd) (he : env.length < 65536) (hs : 0 ≤ so ∧ so < 2)
    (h80 : ∀ M, cl 80 [.str x] M = some (av (sg x), M)) (h79 : ∀ op a b M, cl 79 [.int .i64 op, av a, av b] M = some (av (nd op [a, b]), M))
    (hk : ∀ k M, cl 44 [av a, .slc (.own k) ((env ++ [Bd.mk x true]).map bvv)] M = some (av m, M)) :
    pureA G false cl yl N c44 [av (qn op x so a), .slc (nfl sp) (env.map bvv)] = some (av (qn op x (so + 2) (nd (if op = 17 then 14 else 12) [sg x, m])), none) := by
  have b1 : (env.length + 1) * 24 ≤ 140737488355328 := by omega
  have b2 : env.length + 1 ≤ 140737488355328 := by omega
  have b3 : env.length * 24 ≤ 140737488355328 := by omega
  have b4 : env.length ≤ 140737488355328 := by omega
  have w1 : wrapF .i64 (so + 2) = so + 2 := wrap_id (by omega) (by omega)
  have k79 := h79 14 (sg x) m
  have k79' := h79 12 (sg x) m
  have h2 : so < 2 := hs.2
  have h2' : ¬ 2 ≤ so := by omega
  have k80 := h80
  simp [bvv] at hk
  rcases h with rfl | rfl
  · cases env with
    | nil =>
      simp at hk
      cases sp <;> simp -implicitDefEqProofs [c44, nfl, avL, hk, k80, k79', w1, h2, h2'] <;> rfl
    | cons c env =>
      simp at hk b1 b2 b3 b4
      cases sp <;> simp -implicitDefEqProofs [c44, nfl, avL, hk, k80, k79', w1, h2, h2', b1, b2, b3, b4] <;> rfl
  · cases env with
    | nil =>
      simp at hk
      cases sp <;> simp -implicitDefEqProofs [c44, nfl, avL, hk, k80, k79, w1, h2, h2'] <;> rfl
    | cons c env =>
      simp at hk b1 b2 b3 b4
      cases sp <;> simp -implicitDefEqProofs [c44, nfl, avL, hk, k80, k79, w1, h2, h2', b1, b2, b3, b4] <;> rfl
theorem ev44_q2 {op : Int} (h : op = 16 ∨ op = 17) (x : Str) (so : Int) (a m : Nd) (sp : Bool) (env : List Bd) (he : env.length < 65536) (hs : 2 ≤ so)
    (hk : ∀ k M, cl 44 [av a, .slc (.own k) ((env ++ [Bd.mk x false]).map bvv)] M = some (av m, M)) :
    pureA G false cl yl N c44 [av (qn op x so a), .slc (nfl sp) (env.map bvv)] = some (av (qn op x so m), none) := by
  have b1 : (env.length + 1) * 24 ≤ 140737488355328 := by omega
  have b2 : env.length + 1 ≤ 140737488355328 := by omega
  have b3 : env.length * 24 ≤ 140737488355328 := by omega
  have b4 : env.length ≤ 140737488355328 := by omega
  have h2 : ¬ so < 2 := by omega
  simp [bvv] at hk
  rcases h with rfl | rfl
  · cases env with
    | nil =>
      simp at hk
      cases sp <;> simp -implicitDefEqProofs [c44, nfl, avL, hk, hs, h2] <;> rfl
    | cons c env =>
      simp at hk b1 b2 b3 b4
      cases sp <;> simp -implicitDefEqProofs [c44, nfl, avL, hk, hs, h2, b1, b2, b3, b4] <;> rfl
  · cases env with
    | nil =>
      simp at hk
      cases sp <;> simp -implicitDefEqProofs [c44, nfl, avL, hk, hs, h2] <;> rfl
    | cons c env =>
      simp at hk b1 b2 b3 b4
      cases sp <;> simp -implicitDefEqProofs [c44, nfl, avL, hk, hs, h2, b1, b2, b3, b4] <;> rfl
theorem ev44 (n : Nd) (sp : Bool) (env : List Bd) (hv : ndE n = 0) (he : env.length < 65536) (h : Cs44 cl sp env n) (hN : 3 < N) :
    pureA G false cl yl N c44 [av n, .slc (nfl sp) (env.map bvv)] = some (av (seF env n), none) := by
  obtain ⟨h78, h80, h79, h79r, kid, kidq⟩ := h
  have hA : ∀ n, argL [av n, .slc (nfl sp) (env.map bvv)] = some [av n, .slc (nfl sp) (env.map bvv)] := fun n => by cases sp <;> simp [argL, nfl]
  have same : n.op < 11 → n.op ≠ 2 → n.op ≠ 3 → setA env n = n → pureA G false cl yl N c44 [av n, .slc (nfl sp) (env.map bvv)] = some (av (seF env n), none) := by
    intro h1 h2 h3 hs
    rw [seF_at h1, hs]
    have k2 : (n.op == 2) = false := by simp [h2]
    have k3 : (n.op == 3) = false := by simp [h3]
    refine pureA_av (hA _) ?_
    cases sp <;> simp -implicitDefEqProofs [c44, nfl, k2, k3, h1]
  cases vk_of hv with
  | cst op h => exact same (by simp; omega) (by simp; omega) (by simp; omega) (setA_ns env _ (by intro x y; simp [nd, Nd.ns]))
  | lab => exact same (by simp [Nd.op]) (by simp [Nd.op]) (by simp [Nd.op]) (setA_ns env _ (by intro x y; simp [Nd.ns]))
  | smd => exact same (by simp [Nd.op]) (by simp [Nd.op]) (by simp [Nd.op]) (setA_ns env _ (by intro x y; simp [Nd.ns]))
  | sng => exact same (by simp [Nd.op]) (by simp [Nd.op]) (by simp [Nd.op]) (setA_ns env _ (by intro x y; simp [Nd.ns]))
  | cal x xs hl hx => exact same (by simp [Nd.op]) (by simp [Nd.op]) (by simp [Nd.op]) (setA_calls env x xs)
  | two op x y h hx hy =>
    have hx78 := h78 x
    have hy78 := h78 y
    rw [seF_at (by simp only [Nd.op]; omega), setA_two]
    by_cases h3 : op = 3
    · subst h3
      cases hw : wasE env x with
      | true =>
        rw [hw] at hx78
        rw [if_pos ⟨rfl, rfl⟩]
        cases sp <;> simp [nfl] at hx78 <;> simp -implicitDefEqProofs [c44, nfl, Nd.op, Nd.ns, hx78] <;> rfl
      | false =>
        rw [hw] at hx78
        rw [if_neg (by simp), if_neg (by simp)]
        refine pureA_av (hA _) ?_
        cases sp <;> simp [nfl] at hx78 <;> simp -implicitDefEqProofs [c44, nfl, Nd.op, Nd.ns, hx78]
    · have k3 : (op == 3) = false := by simp [h3]
      by_cases h2 : op = 2
      · subst h2
        rw [if_neg (by simp)]
        cases hw : wasE env x with
        | true =>
          cases hw2 : wasE env y with
          | true =>
            rw [hw] at hx78
            rw [hw2] at hy78
            rw [if_neg (by simp)]
            refine pureA_av (hA _) ?_
            cases sp <;> simp [nfl] at hx78 hy78 <;> simp -implicitDefEqProofs [c44, nfl, Nd.op, Nd.ns, hx78, hy78]
          | false =>
            rw [hw] at hx78
            rw [hw2] at hy78
            have k80 := h80 x
            have k79 := h79r (sg x) y x
            rw [if_pos (by simp), if_neg (by simp)]
            refine pureA_av (hA _) ?_
            cases sp <;> simp [nfl] at hx78 hy78 <;> simp -implicitDefEqProofs [c44, nfl, Nd.op, Nd.ns, hx78, hy78, k80, k79]
        | false =>
          cases hw2 : wasE env y with
          | true =>
            rw [hw] at hx78
            rw [hw2] at hy78
            have k80 := h80 y
            have k79 := h79r (sg y) x y
            rw [if_pos (by simp), if_pos (by simp)]
            refine pureA_av (hA _) ?_
            cases sp <;> simp [nfl] at hx78 hy78 <;> simp -implicitDefEqProofs [c44, nfl, Nd.op, Nd.ns, hx78, hy78, k80, k79]
          | false =>
            rw [hw] at hx78
            rw [hw2] at hy78
            rw [if_neg (by simp)]
            refine pureA_av (hA _) ?_
            cases sp <;> simp [nfl] at hx78 hy78 <;> simp -implicitDefEqProofs [c44, nfl, Nd.op, Nd.ns, hx78, hy78]
      · have k2 : (op == 2) = false := by simp [h2]
        have h11 : op < 11 := by omega
        rw [if_neg (by simp [h3]), if_neg (by simp [h2])]
        refine pureA_av (hA _) ?_
        cases sp <;> simp -implicitDefEqProofs [c44, nfl, Nd.op, Nd.ns, k2, k3, h11]
  | not a ha =>
    have l1 := ev44_loop (G := G) (cl := cl) (yl := yl) (N := N) (N0 := N) (nd 11 [a]) sp env (by simp [big]) (by simp; omega) (fun x hx M => kid x hx (by simp) M)
    have e : seF env (nd 11 [a]) = nd 11 [seF env a] := by simp [nd, seF, seL]
    rw [e]
    cases sp <;> simp [nfl, L44, avL, rowA, z6] at l1 <;> simp -implicitDefEqProofs [c44, nfl, avL, l1] <;> rfl
  | bin op a b h ha hb =>
    have l1 := ev44_loop (G := G) (cl := cl) (yl := yl) (N := N) (N0 := N) (nd op [a, b]) sp env (by simp [big]) (by simp; omega) (fun x hx M => kid x hx (by simp; omega) M)
    have e : seF env (nd op [a, b]) = nd op [seF env a, seF env b] := by
      simp only [nd, seF, seL]
      rw [if_neg (by omega)]
    rw [e]
    have hop : op = 12 ∨ op = 13 ∨ op = 14 ∨ op = 15 := by omega
    rcases hop with rfl | rfl | rfl | rfl <;> (cases sp <;> simp [nfl, L44, avL, rowA, z6] at l1 <;> simp -implicitDefEqProofs [c44, nfl, avL, l1] <;> rfl)
  | qnt op x so a h hx hs ha =>
    have hk := fun b k M => kidq a (by simp) (by simp; omega) b k M
    by_cases h2 : so < 2
    · have e : seF env (qn op x so a) = qn op x (so + 2) (nd (if op = 17 then 14 else 12) [sg x, seF (env ++ [Bd.mk x true]) a]) := by
        have : (if so = 1 then (3 : Int) else 2) = so + 2 := by split <;> omega
        simp only [qn, seF, seL]
        rw [if_neg (by omega), if_pos h2, this]
      rw [e]
      exact ev44_q1 h x so a _ sp env he ⟨hs.1, h2⟩ (h80 x) h79 (hk _)
    · have e : seF env (qn op x so a) = qn op x so (seF (env ++ [Bd.mk x false]) a) := by
        simp only [qn, seF, seL]
        rw [if_neg (by omega), if_neg h2]
      rw [e]
      exact ev44_q2 h x so a _ sp env he (by omega) (hk _)
theorem ev13 (n : Nd) (h42 : ∀ M, cl 42 [av n] M = some (.int .i64 (chk n), M)) (h44 : chk n = 0 → ∀ M, cl 44 [av n, .slc .full []] M = some (av (seF [] n), M))
    (h43 : chk n = 0 → ∀ M, cl 43 [av (seF [] n)] M = some (.tup [av (ckd (seF [] n)).1, .int .i64 (ckd (seF [] n)).2], M)) :
    pureA G false cl yl N c13 [av n] = some (.tup [av (setE n).1, .int .i64 (setE n).2], none) := by
  unfold setE
  by_cases h : chk n = 0
  · have k44 := h44 h
    have k43 := h43 h
    refine pureA_avI (by simp) ?_
    simp -implicitDefEqProofs [c13, h42, h, k44, k43]
  · have h' : (chk n != 0) = true := by simp [h]
    simp -implicitDefEqProofs [c13, h42, h, h', av_nd0]
end
section
variable {G : Nat → Option AV} {cl : Caller} {yl : Nat → List AV → Mem → Option (AV × Mem)} {N N0 : Nat}
def C122 (cl : Caller) : Prop := ∀ a M, cl 122 [av a] M = some (av (nd 11 [a]), M)
def C79 (cl : Caller) : Prop := ∀ op a b M, cl 79 [.int .i64 op, av a, av b] M = some (av (nd op [a, b]), M)
theorem ev123 (n : Nd) (a b : Nd) (h : n = nd 14 [a, b] ∨ n = nd 15 [a, b]) (h122 : C122 cl) (h79 : C79 cl) : pureA G false cl yl N c123 [av n] = some (av (asF n), none) := by
  rcases h with rfl | rfl
  · have e : asF (nd 14 [a, b]) = nd 13 [nd 11 [a], b] := rfl
    rw [e]
    refine pureA_av (by simp) ?_
    simp -implicitDefEqProofs [c123, avL, h122 a, h79 13 (nd 11 [a]) b]
  · have e : asF (nd 15 [a, b]) = nd 12 [nd 13 [nd 11 [a], b], nd 13 [nd 11 [b], a]] := rfl
    rw [e]
    refine pureA_av (by simp) ?_
    simp -implicitDefEqProofs [c123, avL, h122 a, h122 b, h79 13 (nd 11 [a]) b, h79 13 (nd 11 [b]) a, h79 12 (nd 13 [nd 11 [a], b]) (nd 13 [nd 11 [b], a])]
theorem ev85 (n : Nd) (neg : Bool) (hv : ndE n = 0) (h122 : C122 cl) (h79 : C79 cl) (h123 : n.op = 14 ∨ n.op = 15 → ∀ M, cl 123 [av n] M = some (av (asF n), M))
    (has : n.op = 14 ∨ n.op = 15 → ∀ b M, cl 85 [av (asF n), .bool b] M = some (av (pk b (psh (asF n))), M)) (kid : n.op ≠ 14 → n.op ≠ 15 → ∀ x ∈ n.l, ∀ b M, cl 85 [av x, .bool b] M = some (av (pk b (psh x)), M)) :
    pureA G false cl yl N c85 [av n, .bool neg] = some (av (pk neg (psh n)), none) := by
  have w12 : wrapF .i64 12 = 12 := wrap_id (by omega) (by omega)
  have w13 : wrapF .i64 13 = 13 := wrap_id (by omega) (by omega)
  have w16 : wrapF .i64 16 = 16 := wrap_id (by omega) (by omega)
  have w17 : wrapF .i64 17 = 17 := wrap_id (by omega) (by omega)
  have atom : ∀ op ns so nn mm, 2 ≤ op → op < 11 → n = .mk op ns so nn mm [] → pureA G false cl yl N c85 [av n, .bool neg] = some (av (pk neg (psh n)), none) := by
    rintro op ns so nn mm h1 h2 rfl
    have e : psh (.mk op ns so nn mm []) = (.mk op ns so nn mm [], nd 11 [.mk op ns so nn mm []]) := by
      rw [psh_eq]
      unfold pshC
      rw [if_neg (by simp only [Nd.op]; omega), if_pos (by simp only [Nd.op]; omega)]
    have k := h122 (.mk op ns so nn mm [])
    have o : (Nd.mk op ns so nn mm []).op = op := rfl
    rw [e]
    generalize Nd.mk op ns so nn mm [] = m at *
    have k1 : ¬ op < 2 := by omega
    cases neg with
    | true =>
      refine pureA_av (by simp [pk]) ?_
      simp -implicitDefEqProofs [c85, o, k1, h2, k, pk]
    | false =>
      refine pureA_av (by simp [pk]) ?_
      simp -implicitDefEqProofs [c85, o, k1, h2, k, pk]
  cases vk_of hv with
  | cst op h =>
    rcases h with rfl | rfl <;> cases neg <;> (simp -implicitDefEqProofs [c85]; rfl)
  | two op x y h hx hy => exact atom op [x, y] 0 0 0 (by omega) (by omega) rfl
  | lab x q hx h => exact atom 7 [x] 0 q 0 (by omega) (by omega) rfl
  | smd x q r hx h => exact atom 8 [x] 0 q r (by omega) (by omega) rfl
  | sng x hx => exact atom 9 [x] 0 0 0 (by omega) (by omega) rfl
  | cal x xs h hx => exact atom 10 (x :: xs) 0 0 0 (by omega) (by omega) rfl
  | not a ha =>
    have k := kid (by simp) (by simp) a (by simp)
    rw [psh_not]
    cases neg with
    | true =>
      have k := k false
      refine pureA_av (by simp [pk]) ?_
      simp -implicitDefEqProofs [c85, avL, k, pk]
    | false =>
      have k := k true
      refine pureA_av (by simp [pk]) ?_
      simp -implicitDefEqProofs [c85, avL, k, pk]
  | bin op a b h ha hb =>
    have e := psh_as _ hv
    have hc : op = 12 ∨ op = 13 ∨ op = 14 ∨ op = 15 := by omega
    rcases hc with rfl | rfl | rfl | rfl
    · have ka := kid (by simp) (by simp) a (by simp)
      have kb := kid (by simp) (by simp) b (by simp)
      rw [psh_12]
      cases neg with
      | true =>
        have ka := ka true; have kb := kb true
        have k79 := h79 13 (psh a).2 (psh b).2
        simp only [pk, if_true] at ka kb
        refine pureA_av (by simp [pk]) ?_
        simp -implicitDefEqProofs [c85, avL, ka, kb, pk, k79, w12, w13]
      | false =>
        have ka := ka false; have kb := kb false
        have k79 := h79 12 (psh a).1 (psh b).1
        simp only [pk, Bool.false_eq_true, if_false] at ka kb
        refine pureA_av (by simp [pk]) ?_
        simp -implicitDefEqProofs [c85, avL, ka, kb, pk, k79, w12, w13]
    · have ka := kid (by simp) (by simp) a (by simp)
      have kb := kid (by simp) (by simp) b (by simp)
      rw [psh_13]
      cases neg with
      | true =>
        have ka := ka true; have kb := kb true
        have k79 := h79 12 (psh a).2 (psh b).2
        simp only [pk, if_true] at ka kb
        refine pureA_av (by simp [pk]) ?_
        simp -implicitDefEqProofs [c85, avL, ka, kb, pk, k79, w12, w13]
      | false =>
        have ka := ka false; have kb := kb false
        have k79 := h79 13 (psh a).1 (psh b).1
        simp only [pk, Bool.false_eq_true, if_false] at ka kb
        refine pureA_av (by simp [pk]) ?_
        simp -implicitDefEqProofs [c85, avL, ka, kb, pk, k79, w12, w13]
    · have k := has (by simp) neg
      have k2 := h123 (by simp)
      rw [← e]
      generalize asF (nd 14 [a, b]) = m at *
      refine pureA_av (by simp) ?_
      simp -implicitDefEqProofs [c85, k, k2]
    · have k := has (by simp) neg
      have k2 := h123 (by simp)
      rw [← e]
      generalize asF (nd 15 [a, b]) = m at *
      refine pureA_av (by simp) ?_
      simp -implicitDefEqProofs [c85, k, k2]
  | qnt op x so a h hx hso ha =>
    have k := kid (by simp; omega) (by simp; omega) a (by simp)
    rcases h with rfl | rfl
    · rw [psh_16]
      cases neg with
      | true =>
        have k := k true
        simp only [pk, if_true] at k
        simp -implicitDefEqProofs [c85, avL, k, pk, w16, w17]
        rfl
      | false =>
        have k := k false
        simp only [pk, Bool.false_eq_true, if_false] at k
        simp -implicitDefEqProofs [c85, avL, k, pk, w16, w17]
        rfl
    · rw [psh_17]
      cases neg with
      | true =>
        have k := k true
        simp only [pk, if_true] at k
        simp -implicitDefEqProofs [c85, avL, k, pk, w16, w17]
        rfl
      | false =>
        have k := k false
        simp only [pk, Bool.false_eq_true, if_false] at k
        simp -implicitDefEqProofs [c85, avL, k, pk, w16, w17]
        rfl
def clR (k : Nat) : Int := if (k : Int) < 1048576 then k else 1048576
theorem clR_1 : clR 1 = 1 := by unfold clR; rw [if_pos (by omega)]; rfl
theorem clR_2 : clR 2 = 2 := by unfold clR; rw [if_pos (by omega)]; rfl
theorem clR_bd (n : Nd) : 1 ≤ clR (sz n) ∧ clR (sz n) ≤ 1048576 := by have := sz_pos n; unfold clR; split <;> omega
def rzI (n : Nd) : AV := .tup [.int .i64 (clR (sz (psh n).1)), .int .i64 (clR (sz (psh n).2))]
theorem clR1 (A : Nat) : clR (A + 1) = if 1 + clR A < 1048576 then 1 + clR A else 1048576 := by unfold clR; repeat' split <;> omega
theorem clR2 (A B : Nat) : clR (A + B + 1) = if 1 + clR A + clR B < 1048576 then 1 + clR A + clR B else 1048576 := by unfold clR; repeat' split <;> omega
theorem clR4 {A B C D k : Nat} (h : k = A + B + C + D + 3) : clR k = if 3 + clR A + clR B + clR C + clR D < 1048576 then 3 + clR A + clR B + clR C + clR D else 1048576 := by subst h; unfold clR; repeat' split <;> omega
theorem ev84 (n : Nd) (hv : ndE n = 0) (hc : ∀ x ∈ n.l, ∀ M, cl 84 [av x] M = some (rzI x, M)) : pureA G false cl yl N c84 [av n] = some (rzI n, none) := by
  have atom : ∀ op ns so nn mm, 2 ≤ op → op < 11 → n = .mk op ns so nn mm [] → pureA G false cl yl N c84 [av n] = some (rzI n, none) := by
    rintro op ns so nn mm h1 h2 rfl
    have e : rzI (.mk op ns so nn mm []) = .tup [.int .i64 1, .int .i64 2] := by
      have e : psh (.mk op ns so nn mm []) = (.mk op ns so nn mm [], nd 11 [.mk op ns so nn mm []]) := by
        rw [psh_eq]
        unfold pshC
        rw [if_neg (by simp only [Nd.op]; omega), if_pos (by simp only [Nd.op]; omega)]
      unfold rzI
      rw [e, show sz (Nd.mk op ns so nn mm []) = 1 from rfl, show sz (nd 11 [Nd.mk op ns so nn mm []]) = 2 from rfl, clR_1, clR_2]
    have o : (Nd.mk op ns so nn mm []).op = op := rfl
    have k1 : ¬ op < 2 := by omega
    rw [e]
    generalize Nd.mk op ns so nn mm [] = m at *
    simp -implicitDefEqProofs [c84, o, k1, h2]
  cases vk_of hv with
  | cst op h =>
    have e : rzI (nd op []) = .tup [.int .i64 1, .int .i64 1] := by
      unfold rzI
      rcases h with rfl | rfl
      · rw [show sz (psh (nd 0 [])).1 = 1 from rfl, show sz (psh (nd 0 [])).2 = 1 from rfl, clR_1]
      · rw [show sz (psh (nd 1 [])).1 = 1 from rfl, show sz (psh (nd 1 [])).2 = 1 from rfl, clR_1]
    rw [e]
    rcases h with rfl | rfl <;> simp -implicitDefEqProofs [c84]
  | two op x y h hx hy => exact atom op [x, y] 0 0 0 (by omega) (by omega) rfl
  | lab x q hx h => exact atom 7 [x] 0 q 0 (by omega) (by omega) rfl
  | smd x q r hx h => exact atom 8 [x] 0 q r (by omega) (by omega) rfl
  | sng x hx => exact atom 9 [x] 0 0 0 (by omega) (by omega) rfl
  | cal x xs h hx => exact atom 10 (x :: xs) 0 0 0 (by omega) (by omega) rfl
  | not a ha =>
    have k := hc a (by simp)
    have e : rzI (nd 11 [a]) = .tup [.int .i64 (clR (sz (psh a).2)), .int .i64 (clR (sz (psh a).1))] := rfl
    rw [e]
    unfold rzI at k
    simp -implicitDefEqProofs [c84, k, avL]
  | bin op a b h ha hb =>
    have ka := hc a (by simp)
    have kb := hc b (by simp)
    have a1 := clR_bd (psh a).1
    have a2 := clR_bd (psh a).2
    have b1 := clR_bd (psh b).1
    have b2 := clR_bd (psh b).2
    have hop : op = 12 ∨ op = 13 ∨ op = 14 ∨ op = 15 := by omega
    have go : ∀ p1 p2 q1 q2 : Int, 1 ≤ p1 ∧ p1 ≤ 1048576 → 1 ≤ p2 ∧ p2 ≤ 1048576 → 1 ≤ q1 ∧ q1 ≤ 1048576 → 1 ≤ q2 ∧ q2 ≤ 1048576 →
        (∀ M, cl 84 [av a] M = some (.tup [.int .i64 p1, .int .i64 p2], M)) → (∀ M, cl 84 [av b] M = some (.tup [.int .i64 q1, .int .i64 q2], M)) →
        pureA G false cl yl N c84 [av (nd op [a, b])] = some ((if op = 14 then .tup [.int .i64 (if 1 + p2 + q1 < 1048576 then 1 + p2 + q1 else 1048576), .int .i64 (if 1 + p1 + q2 < 1048576 then 1 + p1 + q2 else 1048576)]
          else if op = 15 then .tup [.int .i64 (if 3 + p1 + p2 + q1 + q2 < 1048576 then 3 + p1 + p2 + q1 + q2 else 1048576), .int .i64 (if 3 + p1 + p2 + q1 + q2 < 1048576 then 3 + p1 + p2 + q1 + q2 else 1048576)]
          else .tup [.int .i64 (if 1 + p1 + q1 < 1048576 then 1 + p1 + q1 else 1048576), .int .i64 (if 1 + p2 + q2 < 1048576 then 1 + p2 + q2 else 1048576)]), none) := by
      intro p1 p2 q1 q2 c1 c2 c3 c4 ka kb
      have w1 : wrapF .i64 (1 + p1) = 1 + p1 := wrap_id (by omega) (by omega)
      have w2 : wrapF .i64 (1 + p2) = 1 + p2 := wrap_id (by omega) (by omega)
      have w3 : wrapF .i64 (1 + p1 + q1) = 1 + p1 + q1 := wrap_id (by omega) (by omega)
      have w4 : wrapF .i64 (1 + p2 + q2) = 1 + p2 + q2 := wrap_id (by omega) (by omega)
      have w5 : wrapF .i64 (1 + p2 + q1) = 1 + p2 + q1 := wrap_id (by omega) (by omega)
      have w6 : wrapF .i64 (1 + p1 + q2) = 1 + p1 + q2 := wrap_id (by omega) (by omega)
      have w7 : wrapF .i64 (3 + p1) = 3 + p1 := wrap_id (by omega) (by omega)
      have w8 : wrapF .i64 (3 + p1 + p2) = 3 + p1 + p2 := wrap_id (by omega) (by omega)
      have w9 : wrapF .i64 (3 + p1 + p2 + q1) = 3 + p1 + p2 + q1 := wrap_id (by omega) (by omega)
      have w0 : wrapF .i64 (3 + p1 + p2 + q1 + q2) = 3 + p1 + p2 + q1 + q2 := wrap_id (by omega) (by omega)
      rcases hop with rfl | rfl | rfl | rfl <;> simp -implicitDefEqProofs [c84, ka, kb, w1, w2, w3, w4, w5, w6, w7, w8, w9, w0, avL]
    rw [go _ _ _ _ a1 a2 b1 b2 ka kb]
    unfold rzI
    rcases hop with rfl | rfl | rfl | rfl
    · rw [if_neg (by omega), if_neg (by omega), psh_12, sz_nd2, sz_nd2, clR2, clR2]
    · rw [if_neg (by omega), if_neg (by omega), psh_13, sz_nd2, sz_nd2, clR2, clR2]
    · rw [if_pos rfl, psh_14, sz_nd2, sz_nd2, clR2, clR2]
    · rw [if_neg (by omega), if_pos rfl, psh_15, sz_nd2, sz_nd2, sz_nd2, sz_nd2, sz_nd2, sz_nd2, ← clR4 (A := sz (psh a).1) (B := sz (psh a).2) (C := sz (psh b).1) (D := sz (psh b).2) rfl]
      have s1 : sz (psh a).2 + sz (psh b).1 + 1 + (sz (psh b).2 + sz (psh a).1 + 1) + 1 = sz (psh a).1 + sz (psh a).2 + sz (psh b).1 + sz (psh b).2 + 3 := by omega
      have s2 : sz (psh a).1 + sz (psh b).2 + 1 + (sz (psh b).1 + sz (psh a).2 + 1) + 1 = sz (psh a).1 + sz (psh a).2 + sz (psh b).1 + sz (psh b).2 + 3 := by omega
      rw [s1, s2]
  | qnt op x so a h hx hso ha =>
    have k := hc a (by simp)
    have a1 := clR_bd (psh a).1
    have a2 := clR_bd (psh a).2
    have s1 : ∀ o m, sz (qn o x so m) = sz m + 1 := fun o m => by simp [qn, sz, szL]
    unfold rzI at k ⊢
    rcases h with rfl | rfl
    · rw [psh_16, s1, s1, clR1, clR1]
      generalize clR (sz (psh a).1) = p1 at *
      generalize clR (sz (psh a).2) = p2 at *
      have w1 : wrapF .i64 (1 + p1) = 1 + p1 := wrap_id (by omega) (by omega)
      have w2 : wrapF .i64 (1 + p2) = 1 + p2 := wrap_id (by omega) (by omega)
      simp -implicitDefEqProofs [c84, k, w1, w2, avL]
    · rw [psh_17, s1, s1, clR1, clR1]
      generalize clR (sz (psh a).1) = p1 at *
      generalize clR (sz (psh a).2) = p2 at *
      have w1 : wrapF .i64 (1 + p1) = 1 + p1 := wrap_id (by omega) (by omega)
      have w2 : wrapF .i64 (1 + p2) = 1 + p2 := wrap_id (by omega) (by omega)
      simp -implicitDefEqProofs [c84, k, w1, w2, avL]
theorem clR_lim {n : Nd} (hv : ndE n = 0) : 4096 < clR (sz (psh n).1) ↔ (szP n).1 > 4096 := by
  rw [(szP_psh _ n (Nat.le_refl _) hv).1]
  unfold clR clp
  repeat' split <;> omega
theorem ev47 (n : Nd) (h42 : ∀ M, cl 42 [av n] M = some (.int .i64 (chk n), M)) (h84 : chk n = 0 → ∀ M, cl 84 [av n] M = some (rzI n, M))
    (h85 : chk n = 0 → ∀ M, cl 85 [av n, .bool false] M = some (av (psh n).1, M))
    (h43 : chk n = 0 → ¬ (szP n).1 > 4096 → ∀ M, cl 43 [av (psh n).1] M = some (.tup [av (ckd (psh n).1).1, .int .i64 (ckd (psh n).1).2], M)) :
    pureA G false cl yl N c47 [av n] = some (.tup [av (nnfE n).1, .int .i64 (nnfE n).2], none) := by
  unfold nnfE
  by_cases hc : chk n = 0
  · have k84 := h84 hc
    have k85 := h85 hc
    have hl := clR_lim (chk_vd hc)
    rw [if_pos hc]
    unfold rzI at k84
    by_cases hs : (szP n).1 > 4096
    · rw [if_pos hs]
      have hs' := hl.2 hs
      simp -implicitDefEqProofs [c47, h42, hc, k84, hs', av_nd0]
    · rw [if_neg hs]
      have hs' : ¬ 4096 < clR (sz (psh n).1) := fun h => hs (hl.1 h)
      have k43 := h43 hc hs
      refine pureA_avI (by simp) ?_
      simp -implicitDefEqProofs [c47, h42, hc, k84, k85, k43, hs']
  · have hc' : (chk n != 0) = true := by simp [hc]
    rw [if_neg hc]
    simp -implicitDefEqProofs [c47, h42, hc, hc', av_nd0]
end
section
variable {G : Nat → Option AV} {cl : Caller} {yl : Nat → List AV → Mem → Option (AV × Mem)} {N N0 : Nat}
def S154 (n : Nat) (s : Str) : St := ⟨[(0, .int .i64 (n : Int)), (3, .str s)], ⟨[], []⟩, []⟩
theorem ev154_step (n : Nat) (s : Str) (hn : n < big) (hs : s.length < 100) (h : s = [] ∨ 0 < n) :
    Post (fun e s' => e = .normal ∧ tidy false ⟨[0, 3], [(0, none), (3, none)]⟩ 0 0 s' = S154 (n / 10) (UInt8.ofNat (48 + n % 10) :: s)) (evalC G false cl yl N c154b0 (S154 n s)) := by
  unfold big at hn
  have e1 : (n : Int).tmod 10 = ((n % 10 : Nat) : Int) := by rw [Int.tmod_eq_emod_of_nonneg (by omega)]; omega
  have e2 : wrapF .i64 (48 + ((n % 10 : Nat) : Int)) = 48 + ((n % 10 : Nat) : Int) := wrap_id (by omega) (by omega)
  have e3 : UInt8.ofNat (wrapF .u8 (48 + ((n % 10 : Nat) : Int))).toNat = UInt8.ofNat (48 + n % 10) := by
    rw [wrap_u8 (by omega) (by omega)]
    congr 1
  have e4 : wrapF .i64 ((n : Int) / 10) = ((n / 10 : Nat) : Int) := by rw [wrap_id (by omega) (by omega)]; omega
  generalize UInt8.ofNat (48 + n % 10) = c at *
  generalize n % 10 = d at *
  generalize n / 10 = q at *
  cases s with
  | nil => simp -implicitDefEqProofs [S154, c154b0, e1, e2, e3, e4, bytesOf, strA]
  | cons x s =>
    have hp : 0 < n := by
      rcases h with h | h
      · cases h
      · exact h
    have hb : 1 + (s.length + 1) ≤ 9223372036854775807 := by simp at hs; omega
    simp -implicitDefEqProofs [S154, c154b0, e1, e2, e3, e4, bytesOf, strA, hp, hb]
theorem ev154_loop : ∀ (k n : Nat) (s : Str) (N : Nat), n < 10 ^ k → n < big → k + 1 < N → s.length + k ≤ 20 → (s = [] ∨ 0 < n) →
    ∃ s', iter false (evalC G false cl yl N0 c154b0) ⟨[0, 3], [(0, none), (3, none)]⟩ 0 0 N (S154 n s) = some (.exit 0, s') ∧ look 3 s'.ts = .str (Lib.decDigits n ++ s) ∧ s'.mks = []
  | k, n, s, 0, _, _, hN, _, _ => by omega
  | k, n, s, N + 1, hk, hn, hN, hs, h => by
    obtain ⟨e, s1, h1, rfl, h2⟩ := (ev154_step (G := G) (cl := cl) (yl := yl) (N := N0) n s hn (by omega) h).out
    by_cases h10 : n < 10
    · have hq : n / 10 = 0 := by omega
      have hm : n % 10 = n := by omega
      rw [hq, hm] at h2
      obtain ⟨N, rfl⟩ : ∃ m, N = m + 1 := ⟨N - 1, by omega⟩
      have h3 : evalC G false cl yl N0 c154b0 (S154 0 (UInt8.ofNat (48 + n) :: s)) = some (.exit 0, ⟨[(9, .bool false), (8, .bool false), (7, .int .i64 0), (6, .bool false), (5, .bool false), (4, .str (UInt8.ofNat (48 + n) :: s)), (0, .int .i64 0), (3, .str (UInt8.ofNat (48 + n) :: s))], ⟨[], []⟩, []⟩) := by
        simp -implicitDefEqProofs [S154, c154b0, strA]
      refine ⟨⟨[(9, .bool false), (8, .bool false), (7, .int .i64 0), (6, .bool false), (5, .bool false), (4, .str (UInt8.ofNat (48 + n) :: s)), (0, .int .i64 0), (3, .str (UInt8.ofNat (48 + n) :: s))], ⟨[], []⟩, []⟩, by simp only [iter, h1, h2, h3], ?_, rfl⟩
      rw [dd_lt h10]
      rfl
    · cases k with
      | zero => simp at hk; omega
      | succ k =>
        obtain ⟨s', h3, h4, h5⟩ := ev154_loop k (n / 10) (UInt8.ofNat (48 + n % 10) :: s) N (by rw [Nat.pow_succ] at hk; omega) (by omega) (by omega) (by simp; omega) (.inr (by omega))
        refine ⟨s', by simp only [iter, h1, h2, h3], ?_, h5⟩
        rw [dd_ge h10, h4]
        simp
theorem ev154 (n : Nat) (hn : n < big) (hN : 12 < N) : pureA G false cl yl N c154 [.int .i64 (n : Int)] = some (.str (Lib.decDigits n), none) := by
  obtain ⟨⟨ts, M, mks⟩, h1, h2, h3⟩ := ev154_loop (G := G) (cl := cl) (yl := yl) (N0 := N) 10 n [] N (by unfold big at hn; omega) hn (by omega) (by simp) (.inl rfl)
  simp only [] at h2 h3
  subst h3
  simp [S154] at h1 h2
  simp -implicitDefEqProofs [c154, h1, h2]
theorem frF_succ (D : Nat → Str) (x : Str) (tk : List Str) (k i : Nat) (s : Str) : frF D x tk (k + 1) i s = if frB tk s then frF D x tk k (i + 1) (cand D x i) else some s := rfl
theorem ev127_loop (x : Str) (sp : Bool) (tk : List Str) (hx : x.length < big) (htk : tk.length < big)
    (h154 : ∀ i : Nat, i < big → ∀ M, cl 154 [.int .i64 (i : Nat)] M = some (.str (DD i), M)) (h117 : ∀ s M, s.length < big → cl 117 [.str s] M = some (.bool (isId s), M)) (h126 : ∀ s M, cl 126 [.slc (nfl sp) (tk.map .str), .str s] M = some (.bool (tk.contains s), M)) :
    ∀ (K i n : Nat) (r : Str), frF DD x tk K (i + 1) (cand DD x i) = some r → K < n → i + K + 1 < big →
    ∃ s', iter false (evalC G false cl yl N0 c127b0) ⟨[0, 1, 5], [(5, none)]⟩ 0 0 n ⟨[(0, .str x), (1, .slc (nfl sp) (tk.map .str)), (5, .int .i64 (i : Int))], ⟨[], []⟩, []⟩ = some (.ret, s') ∧ look 4 s'.ts = .str r ∧ s'.mks = []
  | 0, i, n, r, h, _, _ => by simp [frF] at h
  | K + 1, i, 0, r, h, hn, hb => by omega
  | K + 1, i, n + 1, r, h, hn, hb => by
    have hb' := hb
    unfold big at hb hx
    have k154 := h154 i (by unfold big; omega)
    have hD := dd_ok.len i
    have hc : (cand DD x i).length < big := by
      unfold cand; rw [List.length_append, List.length_take]; unfold big; omega
    have k117 := fun M => h117 (cand DD x i) M hc
    have k126 := h126 (cand DD x i)
    have w1 := wrap_succ (i := i) (by omega)
    have w2 : wrapF .i64 (16 - ((DD i).length : Int)) = ((16 - (DD i).length : Nat) : Int) := by rw [wrap_id (by omega) (by omega)]; omega
    have hcand : x.take (min x.length (16 - (DD i).length)) ++ DD i = cand DD x i := by
      unfold cand
      congr 1
      by_cases hh : x.length ≤ 16 - (DD i).length
      · rw [Nat.min_eq_left hh, List.take_of_length_le (Nat.le_refl _), List.take_of_length_le hh]
      · rw [Nat.min_eq_right (by omega)]
    have hmin : (if (16 - (DD i).length : Nat) < x.length then ((16 - (DD i).length : Nat) : Int) else (x.length : Int)) = ((min x.length (16 - (DD i).length) : Nat) : Int) := by
      split <;> omega
    have hle : min x.length (16 - (DD i).length) ≤ x.length := Nat.min_le_left _ _
    generalize hE : min x.length (16 - (DD i).length) = E at hcand hmin hle
    have hbd : E + (DD i).length ≤ 9223372036854775807 := by omega
    simp only [frF] at h
    cases hb2 : frB tk (cand DD x i) with
    | false =>
      rw [hb2] at h
      simp at h
      subst h
      unfold frB at hb2
      have b1 : tk.contains (cand DD x i) = false := by
        cases hh : tk.contains (cand DD x i) with
        | false => rfl
        | true => rw [hh] at hb2; simp at hb2
      have b2 : isId (cand DD x i) = true := by
        rw [b1] at hb2; simpa using hb2
      rw [b1] at k126
      rw [b2] at k117
      have step : Post (fun e s' => e = .ret ∧ look 4 s'.ts = .str (cand DD x i) ∧ s'.mks = []) (evalC G false cl yl N0 c127b0 ⟨[(0, .str x), (1, .slc (nfl sp) (tk.map .str)), (5, .int .i64 (i : Int))], ⟨[], []⟩, []⟩) := by
        cases sp <;> simp [nfl] at k126 <;> simp -implicitDefEqProofs [c127b0, nfl, k154, k117, k126, w1, w2, hmin, optV, hle, hcand, strA, hbd]
      obtain ⟨e, s', h1, rfl, h2, h3⟩ := step.out
      exact ⟨s', by simp only [iter, h1], h2, h3⟩
    | true =>
      rw [hb2] at h
      simp only [if_true] at h
      have step : Post (fun e s' => e = .normal ∧ tidy false ⟨[0, 1, 5], [(5, none)]⟩ 0 0 s' = ⟨[(0, .str x), (1, .slc (nfl sp) (tk.map .str)), (5, .int .i64 ((i + 1 : Nat) : Int))], ⟨[], []⟩, []⟩) (evalC G false cl yl N0 c127b0 ⟨[(0, .str x), (1, .slc (nfl sp) (tk.map .str)), (5, .int .i64 (i : Int))], ⟨[], []⟩, []⟩) := by
        cases b2 : isId (cand DD x i) with
        | false =>
          rw [b2] at k117
          cases sp <;> simp [nfl] at k126 <;> simp -implicitDefEqProofs [c127b0, nfl, k154, k117, k126, w1, w2, hmin, optV, hle, hcand, strA, hbd]
        | true =>
          have b1 : tk.contains (cand DD x i) = true := by
            unfold frB at hb2; rw [b2] at hb2; simpa using hb2
          rw [b2] at k117
          rw [b1] at k126
          cases sp <;> simp [nfl] at k126 <;> simp -implicitDefEqProofs [c127b0, nfl, k154, k117, k126, w1, w2, hmin, optV, hle, hcand, strA, hbd]
      obtain ⟨e, s1, h1, rfl, h2⟩ := step.out
      obtain ⟨s', h3, h4, h5⟩ := ev127_loop x sp tk hx htk h154 h117 h126 K (i + 1) n r h (by omega) (by omega)
      exact ⟨s', by simp only [iter, h1, h2, h3], h4, h5⟩
theorem ev127 (x : Str) (sp : Bool) (tk : List Str) (hx : isId x = true) (htk : tk.length < 90000) (hN : 100005 < N)
    (h154 : ∀ i : Nat, i < big → ∀ M, cl 154 [.int .i64 (i : Nat)] M = some (.str (DD i), M)) (h117 : ∀ s M, s.length < big → cl 117 [.str s] M = some (.bool (isId s), M)) (h126 : ∀ s M, cl 126 [.slc (nfl sp) (tk.map .str), .str s] M = some (.bool (tk.contains s), M)) :
    pureA G false cl yl N c127 [.str x, .slc (nfl sp) (tk.map .str)] = some (.str (frs DD 100002 x tk), none) := by
  have hxl : x.length < big := by
    have := isId_len hx
    unfold big; omega
  have k117 := fun M => h117 x M hxl
  have k126 := h126 x
  rw [hx] at k117
  obtain ⟨r, hr⟩ := Option.isSome_iff_exists.1 (frF_some dd_ok x tk hx htk)
  have e : frs DD 100002 x tk = r := by unfold frs; rw [hr]; rfl
  rw [e]
  rw [show (100002 : Nat) = 100001 + 1 from rfl, frF_succ] at hr
  cases hb : frB tk x with
  | false =>
    rw [hb] at hr
    simp at hr
    subst hr
    have b1 : tk.contains x = false := by
      unfold frB at hb
      cases hh : tk.contains x with
      | false => rfl
      | true => rw [hh] at hb; simp at hb
    rw [b1] at k126
    cases sp <;> simp [nfl] at k126 <;> simp -implicitDefEqProofs [c127, nfl, k117, k126]
  | true =>
    rw [hb] at hr
    simp only [if_true] at hr
    have b1 : tk.contains x = true := by
      unfold frB at hb; rw [hx] at hb; simpa using hb
    rw [b1] at k126
    obtain ⟨s', h1, h2, h3⟩ := ev127_loop (G := G) (cl := cl) (yl := yl) (N0 := N) x sp tk hxl (by unfold big; omega) h154 h117 h126 100001 2 N r hr (by omega) (by unfold big; omega)
    cases sp <;> simp [nfl] at k126 h1 <;> simp -implicitDefEqProofs [c127, nfl, k117, k126, h1, h2, h3]
end
structure Ev where
  fm : Str
  nw : Str
  so : Int
def evF (E : List Ev) : List AV := E.map fun e => .str e.fm
def evT (E : List Ev) : List AV := E.map fun e => .str e.nw
def evS (E : List Ev) : List AV := E.map fun e => .int .i64 e.so
def enV (E : List Ev) : AV := .agg [.slc .shared (evF E), .slc .shared (evT E), .slc .shared (evS E)]
def fnd (E : List Ev) (s : Str) : Nat → Option Nat
  | 0 => none
  | k + 1 => match E[k]? with
    | some e => if e.fm == s then some k else fnd E s k
    | none => fnd E s k
def mOf (E : List Ev) : List (Str × Str) := E.foldl (fun m e => ptS m e.fm e.nw) []
theorem mOf_snoc (E : List Ev) (e : Ev) : mOf (E ++ [e]) = ptS (mOf E) e.fm e.nw := by unfold mOf; rw [List.foldl_append]; rfl
theorem lkS_ptS : ∀ (m : List (Str × Str)) (x y s : Str), lkS (ptS m x y) s = if s == x then some y else lkS m s
  | [], x, y, s => by
    simp only [ptS, lkS]
  | p :: ps, x, y, s => by
    simp only [ptS]
    by_cases h : x = p.1
    · subst h
      rw [if_pos (by simp)]
      simp only [lkS]
      cases hs : s == p.1 <;> simp
    · rw [if_neg (by simpa using h)]
      simp only [lkS]
      rw [lkS_ptS ps x y s]
      cases hs : s == p.1 with
      | false => simp
      | true =>
        have e : s = p.1 := by simpa using hs
        have : (s == x) = false := by rw [e]; simp; exact fun h' => h h'.symm
        rw [this]; simp
theorem fnd_take (E : List Ev) (s : Str) : ∀ k, k ≤ E.length → (∀ i, fnd E s k = some i → i < k ∧ ∃ e, E[i]? = some e ∧ lkS (mOf (E.take k)) s = some e.nw) ∧ (fnd E s k = none → lkS (mOf (E.take k)) s = none)
  | 0, _ => by simp [fnd, mOf, lkS]
  | k + 1, hk => by
    obtain ⟨e, he⟩ : ∃ e, E[k]? = some e := ⟨E[k], List.getElem?_eq_getElem (by omega)⟩
    obtain ⟨h1, h2⟩ := fnd_take E s k (by omega)
    have ht : E.take (k + 1) = E.take k ++ [e] := by rw [List.take_add_one, he]; rfl
    simp only [fnd, he]
    rw [ht, mOf_snoc, lkS_ptS]
    cases hs : e.fm == s with
    | true =>
      have e1 : e.fm = s := by simpa using hs
      have : (s == e.fm) = true := by simp [e1]
      rw [this]
      simp only [if_true]
      exact ⟨fun i hi => by cases hi; exact ⟨by omega, e, he, rfl⟩, fun h => by cases h⟩
    | false =>
      have e1 : ¬ e.fm = s := by simpa using hs
      have : (s == e.fm) = false := by simp; exact fun h => e1 h.symm
      rw [this]
      simp only [Bool.false_eq_true, if_false]
      exact ⟨fun i hi => by obtain ⟨a, b⟩ := h1 i hi; exact ⟨by omega, b⟩, h2⟩
theorem fnd_ren {E : List Ev} {s : Str} : (∀ i, fnd E s E.length = some i → i < E.length ∧ ∃ e, E[i]? = some e ∧ ren (mOf E) s = e.nw) ∧ (fnd E s E.length = none → ren (mOf E) s = s) := by
  have h := fnd_take E s E.length (Nat.le_refl _)
  rw [List.take_length] at h
  refine ⟨fun i hi => ?_, fun hn => ?_⟩
  · obtain ⟨a, e, b, c⟩ := h.1 i hi
    exact ⟨a, e, b, by unfold ren; rw [c]; rfl⟩
  · unfold ren; rw [h.2 hn]; rfl
def fndI (E : List Ev) (s : Str) : Int := match fnd E s E.length with
  | some i => i
  | none => -1
section
variable {G : Nat → Option AV} {cl : Caller} {yl : Nat → List AV → Mem → Option (AV × Mem)} {N N0 : Nat}
@[simp] theorem evF_len (E : List Ev) : (evF E).length = E.length := by simp [evF]
@[simp] theorem evT_len (E : List Ev) : (evT E).length = E.length := by simp [evT]
@[simp] theorem evS_len (E : List Ev) : (evS E).length = E.length := by simp [evS]
theorem evF_get {E : List Ev} {i : Nat} {e : Ev} (h : E[i]? = some e) : (evF E)[i]? = some (.str e.fm) := by simp [evF, h]
theorem evT_get {E : List Ev} {i : Nat} {e : Ev} (h : E[i]? = some e) : (evT E)[i]? = some (.str e.nw) := by simp [evT, h]
def enc3 (E : List Ev) : List AV := [.slc .shared (evF E), .slc .shared (evT E), .slc .shared (evS E)]
theorem ev129_loop (E : List Ev) (s : Str) (hE : E.length < big) : ∀ (k n : Nat), k ≤ E.length → k < n →
    ∃ e s', iter false (evalC G false cl yl N0 c129b0) ⟨[1, 2, 5], [(5, none)]⟩ 1 0 n ⟨[(1, .str s), (2, .ptr 0 0), (5, .int .i64 ((k : Int) - 1))], ⟨[.cells (enc3 E)], []⟩, []⟩ = some (e, s') ∧ s'.mks = [] ∧ (match fnd E s k with
      | some i => e = .ret ∧ look 4 s'.ts = .int .i64 (i : Int)
      | none => e = .exit 0)
  | 0, n, _, hn => by
    obtain ⟨n, rfl⟩ : ∃ m, n = m + 1 := ⟨n - 1, by omega⟩
    refine ⟨.exit 0, ⟨[(11, .bool false), (10, .int .i64 (-1)), (1, .str s), (2, .ptr 0 0), (5, .int .i64 (-1))], ⟨[.cells (enc3 E)], []⟩, []⟩, ?_, rfl, rfl⟩
    have h : evalC G false cl yl N0 c129b0 ⟨[(1, .str s), (2, .ptr 0 0), (5, .int .i64 (-1))], ⟨[.cells (enc3 E)], []⟩, []⟩ = some (.exit 0, ⟨[(11, .bool false), (10, .int .i64 (-1)), (1, .str s), (2, .ptr 0 0), (5, .int .i64 (-1))], ⟨[.cells (enc3 E)], []⟩, []⟩) := by
      simp -implicitDefEqProofs [c129b0]
    simp only [iter]
    rw [show ((0 : Nat) : Int) - 1 = -1 from rfl, h]
  | k + 1, n, hk, hn => by
    obtain ⟨n, rfl⟩ : ∃ m, n = m + 1 := ⟨n - 1, by omega⟩
    unfold big at hE
    obtain ⟨e, he⟩ : ∃ e, E[k]? = some e := ⟨E[k], List.getElem?_eq_getElem (by omega)⟩
    have hkl : k < E.length := by omega
    have hg := (List.getElem?_eq_some_iff.1 (evF_get he)).2
    have hp : (0 : Int) ≤ (k : Int) := by omega
    have w1 : wrapF .i64 ((k : Int) - 1) = (k : Int) - 1 := wrap_id (by omega) (by omega)
    have e0 : ((k + 1 : Nat) : Int) - 1 = (k : Int) := by omega
    rw [e0]
    simp only [fnd, he]
    cases hs : e.fm == s with
    | true =>
      have step : Post (fun e s' => e = .ret ∧ look 4 s'.ts = .int .i64 (k : Int) ∧ s'.mks = []) (evalC G false cl yl N0 c129b0 ⟨[(1, .str s), (2, .ptr 0 0), (5, .int .i64 (k : Int))], ⟨[.cells (enc3 E)], []⟩, []⟩) := by
        simp -implicitDefEqProofs [c129b0, enc3, hp, hkl, hg, strA, hs]
      obtain ⟨e, s', h1, rfl, h2, h3⟩ := step.out
      exact ⟨.ret, s', by simp only [iter, h1], h3, rfl, h2⟩
    | false =>
      have step : Post (fun e s' => e = .normal ∧ tidy false ⟨[1, 2, 5], [(5, none)]⟩ 1 0 s' = ⟨[(1, .str s), (2, .ptr 0 0), (5, .int .i64 ((k : Int) - 1))], ⟨[.cells (enc3 E)], []⟩, []⟩) (evalC G false cl yl N0 c129b0 ⟨[(1, .str s), (2, .ptr 0 0), (5, .int .i64 (k : Int))], ⟨[.cells (enc3 E)], []⟩, []⟩) := by
        simp -implicitDefEqProofs [c129b0, enc3, hp, hkl, hg, strA, hs, w1]
      obtain ⟨e1, s1, h1, rfl, h2⟩ := step.out
      obtain ⟨e2, s2, h3, h4, h5⟩ := ev129_loop E s (by unfold big; omega) k n (by omega) (by omega)
      exact ⟨e2, s2, by simp only [iter, h1, h2, h3], h4, h5⟩
theorem ev129 (E : List Ev) (s : Str) (hE : E.length < big) (hN : E.length < N) : pureA G false cl yl N c129 [enV E, .str s] = some (.int .i64 (fndI E s), none) := by
  obtain ⟨e, ⟨ts, M, mks⟩, h1, h2, h3⟩ := ev129_loop (G := G) (cl := cl) (yl := yl) (N0 := N) E s hE E.length N (Nat.le_refl _) hN
  simp only [] at h2 h3
  subst h2
  unfold big at hE
  have w0 : wrapF .i64 ((E.length : Int) - 1) = (E.length : Int) - 1 := wrap_id (by omega) (by omega)
  simp [enc3] at h1
  unfold fndI
  cases hf : fnd E s E.length with
  | none =>
    rw [hf] at h3
    subst h3
    simp -implicitDefEqProofs [c129, enV, w0, h1]
  | some i =>
    rw [hf] at h3
    obtain ⟨rfl, h4⟩ := h3
    simp -implicitDefEqProofs [c129, enV, w0, h1, h4]
theorem ev130 (n : Nd) (b1 b2 : Bool) (ns : List Str) (l : List Nd) : pureA G false cl yl N c130 [av n, .slc (nfl b1) (ns.map .str), .slc (nfl b2) (avL l)] = some (av (.mk n.op ns n.so n.nn n.mm l), none) := by
  cases n with
  | mk op ns0 so nn mm l0 =>
    cases b1 <;> cases b2 <;> (simp -implicitDefEqProofs [c130, nfl, ndc]; rfl)
end
def FF : Str → List Str → Str := frs DD 100002
def rnm (m : List (Str × Str)) (c : Bool) (l : List Str) : List Str := if c then (match l with
  | [] => []
  | x :: xs => x :: xs.map (ren m)) else l.map (ren m)
theorem rnm_snoc (m : List (Str × Str)) (c : Bool) (l : List Str) (s : Str) : rnm m c (l ++ [s]) = rnm m c l ++ [if c = true ∧ l.length = 0 then s else ren m s] := by
  unfold rnm
  cases c with
  | false => simp
  | true => cases l <;> simp
theorem rnm_len (m : List (Str × Str)) (c : Bool) (l : List Str) : (rnm m c l).length = l.length := by
  unfold rnm
  cases c <;> cases l <;> simp
theorem rnm_take (m : List (Str × Str)) (c : Bool) {l : List Str} {i : Nat} {s : Str} (h : l[i]? = some s) : rnm m c (l.take (i + 1)) = rnm m c (l.take i) ++ [if c = true ∧ i = 0 then s else ren m s] := by
  have hi := (List.getElem?_eq_some_iff.1 h).1
  rw [List.take_add_one, h]
  show rnm m c (l.take i ++ [s]) = _
  rw [rnm_snoc, List.length_take]
  have : min i l.length = i := by omega
  rw [this]
structure Cs88 (cl : Caller) : Prop where
  h125 : ∀ n M, cl 125 [av n] M = some (.bool (n.op == 16 || n.op == 17), M)
  h127 : ∀ x tk M, isId x = true → tk.length < 90000 → cl 127 [.str x, .slc .shared (tk.map .str)] M = some (.str (FF x tk), M)
  h87 : C87 cl
  h128 : ∀ E x s so M, E.length < 65536 → cl 128 [enV E, .str x, .str s, .int .i64 so] M = some (enV (E ++ [⟨x, s, so⟩]), M)
  h129 : ∀ E s M, E.length < 65536 → cl 129 [enV E, .str s] M = some (.int .i64 (fndI E s), M)
  h130 : ∀ n s1 s2 ns l M, cl 130 [av n, .slc s1 (ns.map .str), .slc s2 (avL l)] M = some (av (.mk n.op ns n.so n.nn n.mm l), M)
section
variable {G : Nat → Option AV} {cl : Caller} {yl : Nat → List AV → Mem → Option (AV × Mem)} {N N0 : Nat}
theorem ev88_names (n : Nd) (E : List Ev) (tk : List Str) (hE : E.length < 65536) (hb : n.ns.length < 65536) (hN : n.ns.length < N) (h : Cs88 cl) :
    iter false (evalC G false cl yl N0 c88b0) ⟨[2, 3, 4, 6, 8, 10], [(8, none), (10, none)]⟩ 3 1 N
      ⟨[(2, .slc .shared (tk.map .str)), (3, .ptr 0 0), (4, .ptr 1 0), (6, .ptr 2 0), (8, .slc (.own 0) ((rnm (mOf E) (n.op == 10) (n.ns.take 0)).map .str)), (10, .int .i64 ((0 : Nat) : Int))], ⟨[.cells (ndc n), .cells (enc3 E), .cells z6], [rowB 0]⟩, []⟩ =
    some (.exit 0, ⟨[(43, .bool false), (42, .int .i64 n.ns.length), (41, .slc .shared (n.ns.map .str)), (40, .ptr 0 1), (39, .int .i64 n.ns.length), (2, .slc .shared (tk.map .str)), (3, .ptr 0 0), (4, .ptr 1 0), (6, .ptr 2 0), (8, .slc (.own 0) ((rnm (mOf E) (n.op == 10) n.ns).map .str)), (10, .int .i64 n.ns.length)],
      ⟨[.cells (ndc n), .cells (enc3 E), .cells z6], [rowB n.ns.length]⟩, []⟩) := by
  refine iter_all n.ns
    (fun i => ⟨[(2, .slc .shared (tk.map .str)), (3, .ptr 0 0), (4, .ptr 1 0), (6, .ptr 2 0), (8, .slc (.own 0) ((rnm (mOf E) (n.op == 10) (n.ns.take i)).map .str)), (10, .int .i64 (i : Int))], ⟨[.cells (ndc n), .cells (enc3 E), .cells z6], [rowB i]⟩, []⟩) (.exit 0) _ hN (by simp) ?_ ?_
  · intro i x hx hi
    have w1 := wrap_succ (i := i) (by omega)
    have hx' := (List.getElem?_eq_some_iff.1 hx).2
    have hf := fnd_ren (E := E) (s := x)
    have h129 := fun M => h.h129 E x M hE
    have hm : (rnm (mOf E) (n.op == 10) (n.ns.take i)).length = i := by rw [rnm_len]; simp; omega
    have hq : (i + 1) * 16 ≤ 140737488355328 := by omega
    have hq2 : i + 1 ≤ 140737488355328 := by omega
    have hr : i = 0 ∨ ¬ i = 0 := Decidable.em _
    rw [rnm_take _ _ hx]
    unfold fndI at h129
    unfold rowB
    simp only [enV] at h129
    cases hk : fnd E x E.length with
    | none =>
      rw [hk] at h129
      have hren := hf.2 hk
      rw [hren]
      have e0 : (if (n.op == 10) = true ∧ i = 0 then x else x) = x := by split <;> rfl
      rw [e0]
      simp -implicitDefEqProofs [c88b0, enc3, z6, rowA, hi, hx', h129, w1, hm, hq, hq2, hr]
    | some j =>
      rw [hk] at h129
      obtain ⟨hj, e, he, hren⟩ := hf.1 j hk
      rw [hren]
      have hj2 := (List.getElem?_eq_some_iff.1 (evT_get he)).2
      have hp : (0 : Int) ≤ (j : Int) := by omega
      cases h10 : n.op == 10 with
      | false =>
        rw [h10] at hm
        have hne : (n.op != 10) = true := by simpa using h10
        simp -implicitDefEqProofs [c88b0, enc3, z6, rowA, hi, hx', h129, w1, hm, hq, hq2, hr, h10, hne, hj, hj2, hp]
      | true =>
        rw [h10] at hm
        have hne : (n.op != 10) = false := by simpa using h10
        by_cases hi0 : i = 0
        · subst hi0
          have hz : rnm (mOf E) true [] = [] := rfl
          have w10 : wrapF .i64 1 = 1 := wrap_id (by omega) (by omega)
          simp -implicitDefEqProofs [hz, w10, c88b0, enc3, z6, rowA, hi, hx', h129, w1, hm, hq, hq2, hr, h10, hne, hj, hj2, hp]
        · have hi1 : 0 < i := by omega
          simp -implicitDefEqProofs [c88b0, enc3, z6, rowA, hi, hx', h129, w1, hm, hq, hq2, hr, h10, hne, hj, hj2, hp, hi0, hi1]
  · unfold rowB
    simp -implicitDefEqProofs [c88b0, enc3, z6]
def kv2 (c : Nat) (tk : List Str) : AV := match c with
  | 0 => .slc .shared (tk.map .str)
  | 1 => .slc (.own 0) (tk.map .str)
  | _ => .slc .shared (tk.map .str)
def kv8 (c : Nat) (ns : List Str) : AV := match c with
  | 0 => .slc (.own 0) (ns.map .str)
  | _ => .slc .full (ns.map .str)
def kT (c : Nat) (E : List Ev) (tk ns : List Str) (L : List Nd) (i : Nat) : Slots := [(2, kv2 c tk), (3, .ptr 0 0), (4, .ptr 1 0), (6, .ptr 2 0), (8, kv8 c ns), (13, .slc (.own 1) (avL L)), (14, .int .i64 (i : Int))]
def kM (n : Nd) (E : List Ev) (k i : Nat) : Mem := ⟨[.cells (ndc n), .cells (enc3 E), .cells z6], [rowB k, rowA i 25 6]⟩
theorem ev88_kid (n : Nd) (E : List Ev) (c : Nat) (tk tk' ns : List Str) (k : Nat) (L : List Nd) (x y : Nd) (hc : c = 0 ∨ c = 1 ∨ c = 2) (hL : L.length < 4) (hx : n.l[L.length]? = some x) (hn : n.l.length < 4)
    (h88 : ∀ s M, s ≠ .full → cl 88 [av x, enV E, .slc s (tk.map .str)] M = some (.tup [av y, .slc .shared (tk'.map .str)], M)) :
    Post (fun e s' => e = .normal ∧ tidy false ⟨[2, 3, 4, 6, 8, 13, 14], [(13, none), (2, none), (14, none)]⟩ 3 2 s' = ⟨kT (if c = 0 then 0 else 2) E tk' ns (L ++ [y]) (L.length + 1), kM n E k (L.length + 1), []⟩) (evalC G false cl yl N c88b1 ⟨kT c E tk ns L L.length, kM n E k L.length, []⟩) := by
  have w1 := wrap_succ (i := L.length) (by omega)
  obtain ⟨hi, hx'⟩ := List.getElem?_eq_some_iff.1 hx
  have hq : (L.length + 1) * 80 ≤ 140737488355328 := by omega
  have hq2 : L.length + 1 ≤ 140737488355328 := by omega
  have hr : L = [] ∨ ¬ L = [] := Decidable.em _
  have a1 := fun M => h88 .shared M (by simp)
  have a2 := fun M => h88 (.own 0) M (by simp)
  simp only [enV] at a1 a2
  rcases hc with rfl | rfl | rfl
  · simp -implicitDefEqProofs [c88b1, kT, kM, kv2, kv8, enc3, z6, rowA, rowB, hi, hx', a1, w1, hq, hq2, hr, avL_append, avL]
  · simp -implicitDefEqProofs [c88b1, kT, kM, kv2, kv8, enc3, z6, rowA, rowB, hi, hx', a2, w1, hq, hq2, hr, avL_append, avL]
  · simp -implicitDefEqProofs [c88b1, kT, kM, kv2, kv8, enc3, z6, rowA, rowB, hi, hx', a1, w1, hq, hq2, hr, avL_append, avL]
theorem ev88_end (n : Nd) (E : List Ev) (c : Nat) (tk ns : List Str) (k : Nat) (L : List Nd) (hL : n.l.length = L.length) (hc : c = 0 ∨ c = 1 ∨ c = 2) :
    evalC G false cl yl N c88b1 ⟨kT c E tk ns L L.length, kM n E k L.length, []⟩ = some (.exit 2, ⟨(78, .bool false) :: (77, .int .i64 L.length) :: (76, .slc .shared (avL n.l)) :: (75, .ptr 0 5) :: (74, .int .i64 L.length) :: kT c E tk ns L L.length, kM n E k L.length, []⟩) := by
  rcases hc with rfl | rfl | rfl <;> simp -implicitDefEqProofs [c88b1, kT, kM, kv2, kv8, enc3, z6, rowA, rowB, hL]
def C88 (cl : Caller) (E : List Ev) (x : Nd) : Prop := ∀ tk s M, s ≠ Sp.full → tk.length + sz x ≤ 89999 → cl 88 [av x, enV E, .slc s (tk.map .str)] M = some (.tup [av (apF FF (mOf E) tk x).1, .slc .shared ((apF FF (mOf E) tk x).2.map .str)], M)
theorem ev88_kids (n : Nd) (E : List Ev) (ns : List Str) (k : Nat) (hn : n.l.length < 4) (h88 : ∀ x ∈ n.l, C88 cl E x) :
    ∀ (r : List Nd) (d L : List Nd) (c : Nat) (tk : List Str) (N : Nat), n.l = d ++ r → d.length = L.length → (c = 0 ∨ c = 1 ∨ c = 2) → tk.length + szL r ≤ 89999 → r.length < N →
    ∃ c', iter false (evalC G false cl yl N0 c88b1) ⟨[2, 3, 4, 6, 8, 13, 14], [(13, none), (2, none), (14, none)]⟩ 3 2 N ⟨kT c E tk ns L L.length, kM n E k L.length, []⟩ =
      some (.exit 2, ⟨(78, .bool false) :: (77, .int .i64 n.l.length) :: (76, .slc .shared (avL n.l)) :: (75, .ptr 0 5) :: (74, .int .i64 n.l.length) :: kT c' E (apL FF (mOf E) tk r).2 ns (L ++ (apL FF (mOf E) tk r).1) n.l.length, kM n E k n.l.length, []⟩) ∧
      (c' = 0 ∨ c' = 1 ∨ c' = 2) ∧ (c = 0 → c' = 0) ∧ (c ≠ 0 → c' ≠ 0)
  | [], d, L, c, tk, N, hl, hd, hc, _, hN => by
    obtain ⟨N, rfl⟩ : ∃ m, N = m + 1 := ⟨N - 1, by simp at hN; omega⟩
    have hL : n.l.length = L.length := by rw [hl, List.append_nil]; exact hd
    refine ⟨c, ?_, hc, fun h => h, fun h => h⟩
    simp only [iter]
    rw [ev88_end n E c tk ns k L hL hc]
    simp only [apL, List.append_nil]
    rw [hL]
  | x :: r, d, L, c, tk, 0, _, _, _, _, hN => by omega
  | x :: r, d, L, c, tk, N + 1, hl, hd, hc, hs, hN => by
    have hx : n.l[L.length]? = some x := by rw [hl, ← hd]; simp
    have hmem : x ∈ n.l := by rw [hl]; simp
    simp only [szL] at hs
    have hkid := fun s M (h : s ≠ Sp.full) => h88 x hmem tk s M h (by omega)
    have hlt : L.length < 4 := by have := (List.getElem?_eq_some_iff.1 hx).1; omega
    obtain ⟨e, s1, h1, rfl, h2⟩ := (ev88_kid (G := G) (yl := yl) (N := N0) n E c tk _ ns k L x _ hc hlt hx hn hkid).out
    have ht := apF_tk FF x (mOf E) tk
    obtain ⟨c', k1, k2, k3, k4⟩ := ev88_kids n E ns k hn h88 r (d ++ [x]) (L ++ [(apF FF (mOf E) tk x).1]) (if c = 0 then 0 else 2) (apF FF (mOf E) tk x).2 N (by rw [hl]; simp) (by simp [hd]) (by split <;> simp) (by omega) (by simp at hN; omega)
    refine ⟨c', ?_, k2, fun h => k3 (by simp [h]), fun h => k4 (by simp [h])⟩
    simp only [iter, h1, h2]
    have e1 : (L ++ [(apF FF (mOf E) tk x).1]).length = L.length + 1 := by simp
    rw [e1] at k1
    rw [k1]
    simp only [apL, List.append_assoc, List.cons_append, List.nil_append]
theorem ev88_nb (op : Int) (ns : List Str) (so nn mm : Int) (l : List Nd) (E : List Ev) (tk : List Str) (h1 : ¬ op = 16) (h2 : ¬ op = 17) (hE : E.length < 65536) (hb : ns.length < 65536) (hl : l.length < 4) (htk : tk.length + szL l ≤ 89999) (hN : ns.length + 5 < N) (h : Cs88 cl) (h88 : ∀ x ∈ l, C88 cl E x) :
    pureA G false cl yl N c88 [av (.mk op ns so nn mm l), enV E, .slc .shared (tk.map .str)] = some (.tup [av (.mk op (rnm (mOf E) (op == 10) ns) so nn mm (apL FF (mOf E) tk l).1), .slc .shared ((apL FF (mOf E) tk l).2.map .str)], none) := by
  have l1 := ev88_names (G := G) (yl := yl) (N := N) (N0 := N) (.mk op ns so nn mm l) E tk hE hb (by show ns.length < N; omega) h
  obtain ⟨c', l2, hc, hc0, -⟩ := ev88_kids (G := G) (yl := yl) (N0 := N) (.mk op ns so nn mm l) E (rnm (mOf E) (op == 10) ns) ns.length hl h88 l [] [] 0 tk N rfl rfl (.inl rfl) htk (by omega)
  obtain rfl := hc0 rfl
  have k125 := h.h125 (.mk op ns so nn mm l)
  have k1 : (op == 16) = false := by simp [h1]
  have k2 : (op == 17) = false := by simp [h2]
  have k130 := fun s1 s2 => h.h130 (.mk op ns so nn mm l) s1 s2 (rnm (mOf E) (op == 10) ns) (apL FF (mOf E) tk l).1
  simp only [Nd.op, k1, k2, Bool.or_self] at k125
  have hz : rnm (mOf E) (op == 10) [] = [] := by cases op == 10 <;> rfl
  simp [Nd.op, Nd.ns, enc3, z6, rowB, rowA, hz] at l1
  simp [Nd.l, kT, kM, kv2, kv8, enc3, z6, rowB, rowA, avL] at l2
  simp [Nd.op, Nd.so, Nd.nn, Nd.mm] at k130
  generalize rnm (mOf E) (op == 10) ns = ns' at *
  generalize apL FF (mOf E) tk l = R at *
  obtain ⟨R1, R2⟩ := R
  simp only [] at *
  simp -implicitDefEqProofs [c88, enV, k125, l1, l2, k130]
theorem ev88_q {op : Int} (ho : op = 16 ∨ op = 17) (x : Str) (so : Int) (a : Nd) (E : List Ev) (tk : List Str) (hx : isId x = true) (hE : E.length + 1 < 65536) (htk : tk.length + 1 + sz a ≤ 89999) (hN : 5 < N) (h : Cs88 cl) (h88 : C88 cl (E ++ [⟨x, FF x tk, so⟩]) a) :
    pureA G false cl yl N c88 [av (qn op x so a), enV E, .slc .shared (tk.map .str)] = some (.tup [av (apF FF (mOf E) tk (qn op x so a)).1, .slc .shared ((apF FF (mOf E) tk (qn op x so a)).2.map .str)], none) := by
  have hnew : FF x tk ∉ tk := (frs_ok dd_ok x tk hx (by omega)).1
  have e : apF FF (mOf E) tk (qn op x so a) = (qn op (FF x tk) so (apF FF (mOf (E ++ [⟨x, FF x tk, so⟩])) (tk ++ [FF x tk]) a).1, (apF FF (mOf (E ++ [⟨x, FF x tk, so⟩])) (tk ++ [FF x tk]) a).2) := by
    rw [mOf_snoc]
    simp only [qn, apF]
    rw [if_pos ho]
    rfl
  obtain ⟨c', l2, hc, -, hc0⟩ := ev88_kids (G := G) (yl := yl) (N0 := N) (qn op x so a) (E ++ [⟨x, FF x tk, so⟩]) [FF x tk] (tk.length + 1) (by simp) (fun y hy => by simp at hy; rw [hy]; exact h88) [a] [] [] 1 (tk ++ [FF x tk]) N rfl rfl (.inr (.inl rfl)) (by simp [szL]; omega) (by simp; omega)
  rw [e]
  have k125 := h.h125 (qn op x so a)
  have k1 : (op == 16 || op == 17) = true := by rcases ho with rfl | rfl <;> rfl
  have k127 := fun M => h.h127 x tk M hx (by omega)
  have k128 := fun M => h.h128 E x (FF x tk) so M (by omega)
  have k87 := fun M => h.h87 .shared tk (FF x tk) M (by unfold big; omega) (by simp)
  have hcn : tk.contains (FF x tk) = false := by simpa using hnew
  simp only [plR, hcn, Bool.false_eq_true, if_false, takeV] at k87
  simp only [qn_op, k1] at k125
  simp only [apL] at l2
  have k130 := fun s1 s2 => h.h130 (qn op x so a) s1 s2 [FF x tk] [(apF FF (mOf (E ++ [⟨x, FF x tk, so⟩])) (tk ++ [FF x tk]) a).1]
  generalize apF FF (mOf (E ++ [⟨x, FF x tk, so⟩])) (tk ++ [FF x tk]) a = R at *
  obtain ⟨R1, R2⟩ := R
  simp only [] at *
  generalize FF x tk = s at *
  generalize hE' : E ++ [⟨x, s, so⟩] = E' at *
  have k130' : ∀ s1 s2 M, cl 130 [av (qn op x so a), .slc s1 [.str s], .slc s2 [av R1]] M = some (av (qn op s so R1), M) := k130
  simp [enV] at k128
  rcases hc with rfl | rfl | rfl
  · exact absurd rfl (hc0 (by simp))
  · simp [kT, kM, kv2, kv8, enc3, z6, rowB, rowA, avL] at l2
    simp -implicitDefEqProofs [c88, enV, k125, k127, k87, k128, l2, k130']
  · simp [kT, kM, kv2, kv8, enc3, z6, rowB, rowA, avL] at l2
    simp -implicitDefEqProofs [c88, enV, k125, k127, k87, k128, l2, k130']
end
theorem frB_congr {tk tk' : List Str} (h : ∀ x, x ∈ tk ↔ x ∈ tk') (s : Str) : frB tk s = frB tk' s := by
  unfold frB
  have : tk.contains s = tk'.contains s := by
    rw [Bool.eq_iff_iff]; simp only [List.contains_iff_mem]; exact h s
  rw [this]
theorem frF_congr (D : Nat → Str) (x : Str) {tk tk' : List Str} (h : ∀ x, x ∈ tk ↔ x ∈ tk') : ∀ (k i : Nat) (s : Str), frF D x tk k i s = frF D x tk' k i s
  | 0, _, _ => rfl
  | k + 1, i, s => by simp only [frF]; rw [frB_congr h, frF_congr D x h k]
theorem FF_congr (x : Str) {tk tk' : List Str} (h : ∀ x, x ∈ tk ↔ x ∈ tk') : FF x tk = FF x tk' := by unfold FF frs; rw [frF_congr DD x h]
mutual
theorem apF_tkeq : ∀ (n : Nd) (m : List (Str × Str)) (tk tk' : List Str), (∀ x, x ∈ tk ↔ x ∈ tk') → (apF FF m tk n).1 = (apF FF m tk' n).1 ∧ ∀ x, x ∈ (apF FF m tk n).2 ↔ x ∈ (apF FF m tk' n).2
  | .mk op ns so nn mm l, m, tk, tk', h => by
    simp only [apF]
    split
    · cases ns with
      | nil =>
        obtain ⟨h1, h2⟩ := apL_tkeq l m tk tk' h
        exact ⟨by simp only; rw [h1], h2⟩
      | cons x xs =>
        simp only
        rw [FF_congr x h]
        obtain ⟨h1, h2⟩ := apL_tkeq l (ptS m x (FF x tk')) (tk ++ [FF x tk']) (tk' ++ [FF x tk']) (fun y => by simp [h y])
        exact ⟨by rw [h1], h2⟩
    · obtain ⟨h1, h2⟩ := apL_tkeq l m tk tk' h
      exact ⟨by simp only; rw [h1], h2⟩
theorem apL_tkeq : ∀ (l : List Nd) (m : List (Str × Str)) (tk tk' : List Str), (∀ x, x ∈ tk ↔ x ∈ tk') → (apL FF m tk l).1 = (apL FF m tk' l).1 ∧ ∀ x, x ∈ (apL FF m tk l).2 ↔ x ∈ (apL FF m tk' l).2
  | [], m, tk, tk', h => ⟨rfl, h⟩
  | x :: xs, m, tk, tk', h => by
    obtain ⟨h1, h2⟩ := apF_tkeq x m tk tk' h
    obtain ⟨h3, h4⟩ := apL_tkeq xs m _ _ h2
    simp only [apL]
    exact ⟨by rw [h1, h3], h4⟩
end
theorem uq_f12 (n : Nd) : (apF FF [] (f12 n) n).1 = uqF DD n := by
  refine (apF_tkeq n [] (f12 n) (freeF n [] []) fun x => ?_).1
  rw [f12_mem, freeF_mem]
  simp
theorem plusF_le (l : List Str) (s : Str) : (plusF l s).length ≤ l.length + 1 := by unfold plusF; split <;> simp
theorem plusU_le : ∀ (us out : List Str), (plusU out us).length ≤ out.length + us.length
  | [], out => by simp [plusU]
  | s :: us, out => by
    have h := plusU_le us (plusF out s)
    have h2 := plusF_le out s
    simp only [plusU, List.foldl_cons] at h ⊢
    simp only [List.length_cons]; omega
theorem plusK_le (n : Nd) : ∀ (l out : List Str), (plusK n out l).length ≤ out.length + l.length
  | [], out => by simp [plusK]
  | s :: l, out => by
    have h := plusK_le n l (if bndr n == some s then out else plusF out s)
    have h2 := plusF_le out s
    simp only [plusK, List.foldl_cons] at h ⊢
    simp only [List.length_cons]
    split at h <;> split <;> first | omega | simp_all
theorem f12L_17 {s : Nat} (m : Nd) (ih : ∀ n : Nd, sz n ≤ s → ndE n = 0 → (f12 n).length ≤ 17 * sz n) : ∀ (l : List Nd) (out : List Str), szL l ≤ s → (∀ x ∈ l, ndE x = 0) → (f12L m l out).length ≤ out.length + 17 * szL l
  | [], out, _, _ => by simp [f12L]
  | x :: xs, out, hs, hv => by
    simp only [szL] at hs ⊢
    have h1 := ih x (by omega) (hv x (by simp))
    have h2 := plusK_le m (f12 x) out
    have h3 := f12L_17 m ih xs (plusK m out (f12 x)) (by omega) (fun y hy => hv y (by simp [hy]))
    simp only [f12L]
    omega
theorem f12_17 : ∀ (s : Nat) (n : Nd), sz n ≤ s → ndE n = 0 → (f12 n).length ≤ 17 * sz n
  | 0, n, hs, _ => by have := sz_pos n; omega
  | s + 1, n, hs, hv => by
    rw [f12_eq]
    have hz := sz_eq n
    have h1 := plusU_le (uses n) []
    have h2 := uses_le n
    have h3 := ns_len hv
    have h4 := f12L_17 n (f12_17 s) n.l (plusU [] (uses n)) (by omega) (fun x hx => ndE_kid hv hx)
    simp at h1
    omega
section
variable {G : Nat → Option AV} {cl : Caller} {yl : Nat → List AV → Mem → Option (AV × Mem)} {N N0 : Nat}
theorem ev48 (n : Nd) (hN : 0 < N) (h86 : ∀ M, cl 86 [av n] M = takeV false (f12R n) M) (tk' : List Str)
    (h88 : ∀ s M, s ≠ Sp.full → cl 88 [av n, .agg [.slc .full [], .slc .full [], .slc .full []], .slc s ((f12 n).map .str)] M = some (.tup [av (uqF DD n), .slc .shared (tk'.map .str)], M)) :
    pureA G false cl yl N c48 [qyv n] = some (qyv (uqF DD n), none) := by
  obtain ⟨N, rfl⟩ : ∃ m, N = m + 1 := ⟨N - 1, by omega⟩
  have ha := argL_qyv n
  have e : (AV.slc .shared [] :: ndc n).drop 1 = ndc n := rfl
  have k1 := fun M => h88 .shared M (by simp)
  have k2 := fun M => h88 (.own 0) M (by simp)
  unfold f12R at h86
  generalize uqF DD n = u at *
  have hp : pureL (ndc u) = some (ndc u) := by
    cases u with
    | mk op ns so nn mm l => simp [ndc, pureL, pureV]
  have hd : ∀ M, deepL M 3998 (ndc u) = some (ndc u) := by
    intro M
    cases u with
    | mk op ns so nn mm l => simp [ndc, deepL, deep]
  have e2 : (ndc u).take 6 = ndc u := by cases u; rfl
  have e3 : (ndc n).drop 6 = [] := by cases n; rfl
  have e4 : (AV.slc .shared [] :: ndc u).length = 7 := by cases u; rfl
  have e5 : (ndc n).length = 6 := by cases n; rfl
  have e6 : (ndc u).length = 6 := by cases u; rfl
  unfold qyv at ha ⊢
  unfold pureA
  rw [ha]
  cases hf : f12 n with
  | nil =>
    rw [hf] at h86 k2
    simp [takeV] at h86 k2
    simp -implicitDefEqProofs [c48, c48b0, iter, h86, k2, e, e2, e3, e5, e6, hp, hd, pureV, pureL]
  | cons s ss =>
    rw [hf] at h86 k1
    simp [takeV] at h86 k1
    simp -implicitDefEqProofs [c48, c48b0, iter, h86, k1, e, e2, e3, e5, e6, hp, hd, pureV, pureL]
theorem ev49_ccc (op : Int) (hop : op = 12 ∨ op = 13) (a b : Nd) (la lb : List Qf) (fa fb : Nd) (hb : la.length + lb.length + 3 < big)
    (ka : ∀ M, cl 49 [av a] M = some (.tup [.slc .shared (la.map qv), av fa], M)) (kb : ∀ M, cl 49 [av b] M = some (.tup [.slc .shared (lb.map qv), av fb], M)) (h79 : C79 cl) :
    pureA G false cl yl N c49 [av (nd op [a, b])] = some (.tup [.slc .shared ((la ++ lb).map qv), av (nd op [fa, fb])], none) := by
  unfold big at hb
  have k79 := h79 op fa fb
  have k1 : ¬ 16 ≤ op := by omega
  obtain ⟨b1, b2⟩ := b32 (x := la.length) (by omega)
  obtain ⟨b3, b4⟩ := b32 (x := lb.length) (by omega)
  obtain ⟨b5, b6⟩ := b32 (x := la.length + lb.length) (by omega)
  rcases la with _ | ⟨q, la⟩ <;> rcases lb with _ | ⟨r, lb⟩
  · rcases hop with rfl | rfl <;> simp -implicitDefEqProofs [c49, avL, ka, kb, k79]
  · simp at b3 b4
    rcases hop with rfl | rfl <;> simp -implicitDefEqProofs [c49, avL, ka, kb, k79, b3, b4]
  · simp at b1 b2
    rcases hop with rfl | rfl <;> simp -implicitDefEqProofs [c49, avL, ka, kb, k79, b1, b2]
  · simp at b1 b2 b3 b4 b5 b6
    rcases hop with rfl | rfl <;> simp -implicitDefEqProofs [c49, avL, ka, kb, k79, b1, b2, b3, b4, b5, b6]
theorem ev49_q (op : Int) (hop : op = 16 ∨ op = 17) (x : Str) (so : Int) (a : Nd) (la : List Qf) (fa : Nd) (hb : la.length + 3 < big)
    (ka : ∀ M, cl 49 [av a] M = some (.tup [.slc .shared (la.map qv), av fa], M)) :
    pureA G false cl yl N c49 [av (qn op x so a)] = some (.tup [.slc .shared ((⟨op, x, so⟩ :: la).map qv), av fa], none) := by
  unfold big at hb
  obtain ⟨b1, b2⟩ := b32 (x := la.length + 1) (by omega)
  obtain ⟨b3, b4⟩ := b32 (x := 1 + la.length) (by omega)
  rcases la with _ | ⟨q, la⟩
  · rcases hop with rfl | rfl <;> simp -implicitDefEqProofs [c49, avL, ka, qv]
  · simp at b1 b2 b3 b4
    rcases hop with rfl | rfl <;> simp -implicitDefEqProofs [c49, avL, ka, qv, b1, b2, b3, b4]
theorem ev49_else (n : Nd) (h1 : ¬ 16 ≤ n.op) (h2 : ¬ (n.op = 12 ∨ n.op = 13)) : pureA G false cl yl N c49 [av n] = some (.tup [.slc .shared [], av n], none) := by
  have k2 : (n.op == 12) = false := by simp; omega
  have k3 : (n.op == 13) = false := by simp; omega
  simp -implicitDefEqProofs [c49, h1, k2, k3]
theorem ev49 (n : Nd) (hv : ndE n = 0) (hb : sz n + 8 < big) (h79 : C79 cl) (h49 : ∀ x ∈ n.l, ∀ M, cl 49 [av x] M = some (.tup [.slc .shared ((drF x).1.map qv), av (drF x).2], M)) :
    pureA G false cl yl N c49 [av n] = some (.tup [.slc .shared ((drF n).1.map qv), av (drF n).2], none) := by
  have other : ¬ (n.op = 16 ∨ n.op = 17) → ¬ (n.op = 12 ∨ n.op = 13) → n.op < 18 → pureA G false cl yl N c49 [av n] = some (.tup [.slc .shared ((drF n).1.map qv), av (drF n).2], none) := fun h1 h2 h3 => by
    rw [drF_else h1 h2]
    exact ev49_else n (by omega) h2
  cases vk_of hv with
  | cst op h => exact other (by simp; omega) (by simp; omega) (by simp; omega)
  | two op x y h => exact other (by simp only [Nd.op]; omega) (by simp only [Nd.op]; omega) (by simp only [Nd.op]; omega)
  | lab => exact other (by simp [Nd.op]) (by simp [Nd.op]) (by simp [Nd.op])
  | smd => exact other (by simp [Nd.op]) (by simp [Nd.op]) (by simp [Nd.op])
  | sng => exact other (by simp [Nd.op]) (by simp [Nd.op]) (by simp [Nd.op])
  | cal => exact other (by simp [Nd.op]) (by simp [Nd.op]) (by simp [Nd.op])
  | not a ha => exact other (by simp) (by simp) (by simp)
  | bin op a b h va vb =>
    by_cases ho : op = 12 ∨ op = 13
    · have hz := sz_nd2 op a b
      have z1 := drF_len _ a (Nat.le_refl _) va
      have z2 := drF_len _ b (Nat.le_refl _) vb
      rw [drF_bin ho]
      exact ev49_ccc op ho a b _ _ _ _ (by omega) (h49 a (by simp)) (h49 b (by simp)) h79
    · exact other (by simp; omega) (by simpa using ho) (by simp; omega)
  | qnt op x so a h hx hso va =>
    have hz : sz (qn op x so a) = sz a + 1 := by simp [qn, sz, szL]
    have z1 := drF_len _ a (Nat.le_refl _) va
    rw [drF_qn h]
    exact ev49_q op h x so a _ _ (by omega) (h49 a (by simp))
theorem ev15 (n : Nd) (h13 : ∀ M, cl 13 [av n] M = some (.tup [av (setE n).1, .int .i64 (setE n).2], M))
    (h47 : (setE n).2 = 0 → ∀ M, cl 47 [av (setE n).1] M = some (.tup [av (nnfE (setE n).1).1, .int .i64 (nnfE (setE n).1).2], M))
    (h48 : (setE n).2 = 0 → (nnfE (setE n).1).2 = 0 → ∀ M, cl 48 [.agg (.slc .full [] :: ndc (nnfE (setE n).1).1)] M = some (qyv (uqF DD (nnfE (setE n).1).1), M))
    (h49 : (setE n).2 = 0 → (nnfE (setE n).1).2 = 0 → ∀ M, cl 49 [av (uqF DD (nnfE (setE n).1).1)] M = some (.tup [.slc .shared ((pnN (nnfE (setE n).1).1).1.map qv), av (pnN (nnfE (setE n).1).1).2], M))
    (h22 : (setE n).2 = 0 → (nnfE (setE n).1).2 = 0 → ∀ M, cl 22 [.slc .shared ((pnN (nnfE (setE n).1).1).1.map qv), av (pnN (nnfE (setE n).1).1).2] M = some (av (wth (pnN (nnfE (setE n).1).1).1 (pnN (nnfE (setE n).1).1).2), M))
    (h43 : (setE n).2 = 0 → (nnfE (setE n).1).2 = 0 → ∀ M, cl 43 [av (wth (pnN (nnfE (setE n).1).1).1 (pnN (nnfE (setE n).1).1).2)] M = some (.tup [av (ckd (wth (pnN (nnfE (setE n).1).1).1 (pnN (nnfE (setE n).1).1).2)).1, .int .i64 (ckd (wth (pnN (nnfE (setE n).1).1).1 (pnN (nnfE (setE n).1).1).2)).2], M)) :
    pureA G false cl yl N c15 [av n] = some (.tup [av (pnE n).1, .int .i64 (pnE n).2], none) := by
  unfold pnE
  generalize setE n = s at *
  obtain ⟨s, e⟩ := s
  by_cases he : e = 0
  · subst he
    replace h47 := h47 rfl
    replace h48 := h48 rfl
    replace h49 := h49 rfl
    replace h22 := h22 rfl
    replace h43 := h43 rfl
    generalize nnfE s = p at *
    obtain ⟨p, e⟩ := p
    by_cases he : e = 0
    · subst he
      replace h48 := h48 rfl
      replace h49 := h49 rfl
      replace h22 := h22 rfl
      replace h43 := h43 rfl
      simp only [] at *
      rw [if_pos trivial, if_pos trivial]
      generalize uqF DD p = u at *
      generalize pnN p = q at *
      generalize wth q.1 q.2 = r at *
      generalize ckd r = c at *
      simp only [qyv] at h48
      have e1 : (ndc u).length = 6 := by cases u; rfl
      refine pureA_avI (by simp) ?_
      simp -implicitDefEqProofs [c15, h13, h47, h48, h49, h22, h43, e1]
    · have he' : (e != 0) = true := by simp [he]
      simp only [] at *
      rw [if_pos trivial, if_neg he]
      simp -implicitDefEqProofs [c15, h13, h47, he, he', av_nd0]
  · have he' : (e != 0) = true := by simp [he]
    simp only [] at *
    rw [if_neg he]
    simp -implicitDefEqProofs [c15, h13, he, he', av_nd0]
end
section
variable {G : Nat → Option AV} {cl : Caller} {yl : Nat → List AV → Mem → Option (AV × Mem)} {N N0 : Nat}
theorem szOk_i1 (k : IntKind) (n : Int) (l : List AV) : szOk 1 (.int k n :: l) = true := rfl
theorem ev128 (E : List Ev) (e : Ev) (hE : E.length < 65536) : pureA G false cl yl N c128 [enV E, .str e.fm, .str e.nw, .int .i64 e.so] = some (enV (E ++ [e]), none) := by
  have b1 : (E.length + 1) * 16 ≤ 140737488355328 := by omega
  have b2 : E.length + 1 ≤ 140737488355328 := by omega
  have b3 : E.length * 16 ≤ 140737488355328 := by omega
  have b4 : E.length ≤ 140737488355328 := by omega
  have b5 : (E.length + 1) * 8 ≤ 140737488355328 := by omega
  have b6 : E.length * 8 ≤ 140737488355328 := by omega
  cases E with
  | nil => simp -implicitDefEqProofs [c128, enV, evF, evT, evS, szOk_i1]
  | cons c E =>
    simp at b1 b2 b3 b4 b5 b6
    simp -implicitDefEqProofs [c128, enV, evF, evT, evS, szOk_i1, b1, b2, b3, b4, b5, b6]
end
theorem evs_inj : ∀ {a b : List Ev}, evF a = evF b → evT a = evT b → evS a = evS b → a = b
  | [], [], _, _, _ => rfl
  | [], _ :: _, h, _, _ => by simp [evF] at h
  | _ :: _, [], h, _, _ => by simp [evF] at h
  | x :: a, y :: b, h1, h2, h3 => by
    simp only [evF, evT, evS, List.map_cons, List.cons.injEq, AV.str.injEq, AV.int.injEq, true_and] at h1 h2 h3
    rw [evs_inj h1.2 h2.2 h3.2]
    cases x
    cases y
    simp only at h1 h2 h3
    rw [h1.1, h2.1, h3.1]
theorem enV_inj {a b : List Ev} (h : enV a = enV b) : a = b := by
  simp only [enV, AV.agg.injEq, List.cons.injEq, AV.slc.injEq, true_and, and_true] at h
  exact evs_inj h.1 h.2.1 h.2.2
def xsE (p : Str × List Str) : List AV := [.str p.1, .slc .shared (p.2.map .str)]
theorem xsE_inj (a b : Str × List Str) (h : xsE a = xsE b) : a = b := by
  simp only [xsE, List.cons.injEq, and_true, AV.slc.injEq, AV.str.injEq, true_and] at h
  exact Prod.ext h.1 (strs_inj h.2)
def bdE (p : List Ev × Ev) : List AV := [enV p.1, .str p.2.fm, .str p.2.nw, .int .i64 p.2.so]
theorem bdE_inj (a b : List Ev × Ev) (h : bdE a = bdE b) : a = b := by
  simp only [bdE, List.cons.injEq, and_true, AV.str.injEq, AV.int.injEq, true_and] at h
  obtain ⟨h1, h2, h3, h4⟩ := h
  refine Prod.ext (enV_inj h1) ?_
  obtain ⟨a1, a2⟩ := a
  obtain ⟨b1, b2⟩ := b
  cases a2
  cases b2
  simp only at h2 h3 h4
  rw [h2, h3, h4]
def fiE (p : List Ev × Str) : List AV := [enV p.1, .str p.2]
theorem fiE_inj (a b : List Ev × Str) (h : fiE a = fiE b) : a = b := by
  simp only [fiE, List.cons.injEq, and_true, AV.str.injEq] at h
  exact Prod.ext (enV_inj h.1) h.2
def wiE (p : Nd × (Bool × List Str) × (Bool × List Nd)) : List AV := [av p.1, .slc (nfl p.2.1.1) (p.2.1.2.map .str), .slc (nfl p.2.2.1) (avL p.2.2.2)]
theorem wiE_inj (a b : Nd × (Bool × List Str) × (Bool × List Nd)) (h : wiE a = wiE b) : a = b := by
  simp only [wiE, List.cons.injEq, and_true, AV.slc.injEq] at h
  obtain ⟨h1, ⟨h2, h3⟩, h4, h5⟩ := h
  exact Prod.ext (av_inj h1) (Prod.ext (Prod.ext (nfl_inj h2) (strs_inj h3)) (Prod.ext (nfl_inj h4) (avL_inj h5)))
def apE (p : Nd × List Ev × List Str) : List AV := [av p.1, enV p.2.1, .slc .shared (p.2.2.map .str)]
theorem apE_inj (a b : Nd × List Ev × List Str) (h : apE a = apE b) : a = b := by
  simp only [apE, List.cons.injEq, and_true, AV.slc.injEq, true_and] at h
  exact Prod.ext (av_inj h.1) (Prod.ext (enV_inj h.2.1) (strs_inj h.2.2))
theorem argV_sl (s : Sp) (es : List AV) : argV (.slc s es) = some (.slc (nfl (match s with | .full => true | _ => false)) es) := by
  cases s <;> simp [argV, pureV, nfl]
theorem argV_enV (E : List Ev) : argV (enV E) = some (enV E) := by simp [enV, argV, pureV, pureL]
section
variable {t : Nat}
theorem has_at {P : Program} {G : Nat → Option AV} {L : List (Nat × (List AV → Ores))} {f : Nat} {s : List AV → Ores} (h : OrcOK P G (orcOf L)) (hh : Has L f s) (ags : List AV) (r : AV × Option Arr) (hr : s ags = some r) : OrcAt P G f ags r := h f ags r (by rw [hh.eq]; exact hr)
noncomputable abbrev s43 : List AV → Ores := spR e1 (fun n => (.tup [av (ckd n).1, .int .i64 (ckd n).2], none)) (fun n => bk n ≤ big)
noncomputable abbrev s42 : List AV → Ores := sNd (fun n => .int .i64 (chk n)) fun n => bk n ≤ big
noncomputable abbrev s79 : List AV → Ores := spR e3 (fun p => (av (nd p.1 [p.2.1, p.2.2]), none)) (fun _ => True)
noncomputable abbrev s122 : List AV → Ores := sNd (fun n => av (nd 11 [n])) fun _ => True
noncomputable abbrev s117 : List AV → Ores := spR (fun s : Str => [.str s]) (fun s => (.bool (isId s), none)) (fun s => s.length < big)
noncomputable abbrev s125 : List AV → Ores := sNd (fun n => .bool (n.op == 16 || n.op == 17)) fun _ => True
noncomputable abbrev s87 : List AV → Ores := spR lsE (fun p => plR p.1 p.2) (fun p => p.1.length < big)
noncomputable abbrev s16 : List AV → Ores := spR isE (fun _ => (.bool true, none)) (fun p => bk p.1 ≤ big)
noncomputable abbrev Z1 : List (Nat × (List AV → Ores)) := (42, s42) :: (43, s43) :: (79, s79) :: (122, s122) :: (117, s117) :: (125, s125) :: (126, s105) :: (87, s87) :: (86, s86) :: (16, s16) :: V3
theorem z1_ : OrcOK Tryz.prog (GG t) (orcOf Z1) := by
  refine orc_cons ?_ (has_at r10 (show Has R10 42 s42 from (by repeat first | exact .here | refine .there ?_ rfl)))
  refine orc_cons ?_ (has_at r10 (show Has R10 43 s43 from (by repeat first | exact .here | refine .there ?_ rfl)))
  refine orc_cons ?_ (has_at r10 (show Has R10 79 s79 from (by repeat first | exact .here | refine .there ?_ rfl)))
  refine orc_cons ?_ (has_at r10 (show Has R10 122 s122 from (by repeat first | exact .here | refine .there ?_ rfl)))
  refine orc_cons ?_ (has_at r10 (show Has R10 117 s117 from (by repeat first | exact .here | refine .there ?_ rfl)))
  refine orc_cons ?_ (has_at r10 (show Has R10 125 s125 from (by repeat first | exact .here | refine .there ?_ rfl)))
  refine orc_cons ?_ (has_at r10 (show Has R10 126 s105 from (by repeat first | exact .here | refine .there ?_ rfl)))
  refine orc_cons ?_ (has_at r10 (show Has R10 87 s87 from (by repeat first | exact .here | refine .there ?_ rfl)))
  refine orc_cons ?_ (has_at r10 (show Has R10 86 s86 from (by repeat first | exact .here | refine .there ?_ rfl)))
  exact orc_cons v3_ (has_at r10 (show Has R10 16 s16 from (by repeat first | exact .here | refine .there ?_ rfl)))
noncomputable abbrev Z2 : List (Nat × (List AV → Ores)) := (80, spR (fun s : Str => [.str s]) (fun s => (av (sg s), none)) (fun _ => True)) :: (78, spR wsE (fun p => (.bool (wasE p.1.2 p.2), none)) (fun p => p.1.2.length < big)) :: Z1
theorem z2_ : OrcOK Tryz.prog (GG t) (orcOf Z2) :=
  orc_con _ _ _ ok80 (fun s _ => ⟨1, ev80 s⟩) (orc_con _ _ _ ok78 (fun p h => ⟨p.1.2.length + 1, ev78 p.1.1 p.1.2 p.2 h (Nat.lt_succ_self _)⟩) z1_)
theorem c79_ {l : List (Nat × (List AV → Ores))} (h : Has l 79 s79) : C79 (spC (orcOf l)) := fun op a b M => spC_v e3_inj (op, a, b) h (by exact trivial) (by exact a3 op a b) (by rfl) M
noncomputable abbrev Z3 : List (Nat × (List AV → Ores)) := (44, spR ndEn (fun p => (av (seF p.1.2 p.2), none)) (fun p => ndE p.2 = 0 ∧ p.1.2.length + sz p.2 < 65536)) :: Z2
theorem z3_ : OrcOK Tryz.prog (GG t) (orcOf Z3) := by
  refine orc_self _ _ _ (fun p => sz p.2) ndEn_inj ok44 ?_ z2_
  intro p hp orc hself hother
  obtain ⟨hn, hl⟩ := hp
  have hz := sz_pos p.2
  refine ⟨4, ev44 p.2 p.1.1 p.1.2 hn (by omega) ⟨fun s M => ?_, fun s M => ?_, fun op a b M => ?_, fun a x y M => ?_, fun x hx ho M => ?_, fun x hx ho b k M => ?_⟩ (by omega)⟩
  · rw [spC_ext (hother 78 (by decide))]
    exact spC_v wsE_inj (p.1, s) (by repeat first | exact .here | refine .there ?_ rfl) (by show p.1.2.length < big; unfold big; omega) (by exact wsE_arg (p.1, s)) (by rfl) M
  · rw [spC_ext (hother 80 (by decide))]
    exact spC_v str1_inj s (by repeat first | exact .here | refine .there ?_ rfl) (by exact trivial) (by rfl) (by rfl) M
  · rw [spC_ext (hother 79 (by decide))]
    exact c79_ (l := Z2) (by repeat first | exact .here | refine .there ?_ rfl) op a b M
  · rw [spC_ext (hother 79 (by decide))]
    exact spC_v e3_inj (12, a, .mk 3 [x, y] 0 0 0 []) (by repeat first | exact .here | refine .there ?_ rfl) (by exact trivial) (by simp [argL, pureV, pureL, e3, av, avL]) (by rfl) M
  · exact spC_selfA (hself (p.1, x) ⟨ndE_kid hn hx, by have := sz_child hx; show p.1.2.length + sz x < 65536; omega⟩ (sz_child hx)) (ndEn_arg (p.1, x)) M
  · exact spC_selfA (hself ((false, p.1.2 ++ [b]), x) ⟨ndE_kid hn hx, by have := sz_child hx; show (p.1.2 ++ [b]).length + sz x < 65536; simp; omega⟩ (sz_child hx)) (by simp [argL, ndEn, enE, nfl]) M
noncomputable abbrev Z4 : List (Nat × (List AV → Ores)) := (13, spR e1 (fun n => (.tup [av (setE n).1, .int .i64 (setE n).2], none)) (fun n => bk n ≤ big)) :: Z3
theorem z4_ : OrcOK Tryz.prog (GG t) (orcOf Z4) :=
  orc_con _ _ _ ok13 (fun n hb => ⟨1, ev13 n (fun M => spC_v av1_inj n (by repeat first | exact .here | refine .there ?_ rfl) (by exact hb) (by exact a1 n) (by rfl) M)
    (fun hc M => spC_v ndEn_inj ((true, []), n) (by repeat first | exact .here | refine .there ?_ rfl) (by have := (okV_chk hc).2; exact ⟨chk_vd hc, by show 0 + sz n < 65536; omega⟩) (by simp [argL, ndEn, enE, nfl]) (by rfl) M)
    (fun hc M => spC_v av1_inj (seF [] n) (by repeat first | exact .here | refine .there ?_ rfl) (by
      have h1 := (okV_chk hc).2
      have h2 := chk_vd hc
      have h3 := seF_sz _ [] n (Nat.le_refl _) h2
      have h4 := bk_vd _ (seF [] n) (Nat.le_refl _) (seF_valid _ [] n (Nat.le_refl _) h2)
      show bk (seF [] n) ≤ big
      unfold big; omega) (by exact a1 _) (by rfl) M)⟩) z3_
noncomputable abbrev Z5 : List (Nat × (List AV → Ores)) := (123, spR e1 (fun n => (av (asF n), none)) (fun n => ∃ a b, n = nd 14 [a, b] ∨ n = nd 15 [a, b])) :: Z4
theorem c122_ {l : List (Nat × (List AV → Ores))} (h : Has l 122 s122) : C122 (spC (orcOf l)) := fun a M => spC_v av1_inj a h (by exact trivial) (by exact a1 a) (by rfl) M
theorem z5_ : OrcOK Tryz.prog (GG t) (orcOf Z5) :=
  orc_con _ _ _ ok123 (fun n h => by
    obtain ⟨a, b, h⟩ := h
    exact ⟨1, ev123 n a b h (c122_ (by repeat first | exact .here | refine .there ?_ rfl)) (c79_ (by repeat first | exact .here | refine .there ?_ rfl))⟩) z4_
def mxL (l : List Nd) : Nat := l.foldr (fun x m => max (wt x) m) 0
theorem mxL_mem {x : Nd} : ∀ {l : List Nd}, x ∈ l → wt x ≤ mxL l
  | y :: l, h => by
    simp only [mxL, List.foldr_cons]
    rcases List.mem_cons.1 h with rfl | h
    · omega
    · have := mxL_mem h
      unfold mxL at this
      omega
theorem mxL_lt {k : Nat} : ∀ {l : List Nd}, 0 < k → (∀ x ∈ l, wt x < k) → mxL l < k
  | [], hk, _ => by simpa [mxL] using hk
  | y :: l, hk, h => by
    simp only [mxL, List.foldr_cons]
    have h1 := h y (by simp)
    have h2 := mxL_lt (l := l) hk (fun x hx => h x (by simp [hx]))
    unfold mxL at h2
    omega
def mu85 (n : Nd) : Nat := if n.op = 14 ∨ n.op = 15 then 2 * wt n else 2 * mxL n.l + 1
theorem mu85_le (n : Nd) : mu85 n ≤ 2 * wt n := by
  unfold mu85
  split
  · omega
  · have := mxL_lt (k := wt n) (l := n.l) (wt_pos n) (fun x hx => by
      have := wt_mem hx
      rw [wt_eq n]; split <;> omega)
    omega
theorem mu85_kid {n x : Nd} (h14 : ¬ n.op = 14) (h15 : ¬ n.op = 15) (hx : x ∈ n.l) : mu85 x < mu85 n := by
  have h1 := mu85_le x
  have h2 := mxL_mem hx
  have h3 : mu85 n = 2 * mxL n.l + 1 := by unfold mu85; rw [if_neg (by omega)]
  omega
theorem mu85_as {n : Nd} (hv : ndE n = 0) (h : n.op = 14 ∨ n.op = 15) : mu85 (asF n) < mu85 n := by
  obtain ⟨h14, h15⟩ := asF_op hv
  have h1 : mu85 (asF n) = 2 * mxL (asF n).l + 1 := by unfold mu85; rw [if_neg (by omega)]
  have h2 : mu85 n = 2 * wt n := by unfold mu85; rw [if_pos h]
  have h3 := mxL_lt (k := wt n) (l := (asF n).l) (wt_pos n) (fun x hx => wt_as hx)
  omega
theorem two_kids {n : Nd} (hv : ndE n = 0) (h : n.op = 14 ∨ n.op = 15) : ∃ a b, n = nd 14 [a, b] ∨ n = nd 15 [a, b] := by
  cases vk_of hv with
  | cst op h' => simp at h; omega
  | two op x y h' => simp [Nd.op] at h; omega
  | lab => simp [Nd.op] at h
  | smd => simp [Nd.op] at h
  | sng => simp [Nd.op] at h
  | cal => simp [Nd.op] at h
  | not => simp at h
  | bin op a b h' =>
    simp at h
    rcases h with rfl | rfl
    · exact ⟨a, b, .inl rfl⟩
    · exact ⟨a, b, .inr rfl⟩
  | qnt op x so a h' => simp at h; omega
noncomputable abbrev Z6 : List (Nat × (List AV → Ores)) := (85, spR nbE (fun p => (av (pk p.2 (psh p.1)), none)) (fun p => ndE p.1 = 0)) :: Z5
theorem z6_ : OrcOK Tryz.prog (GG t) (orcOf Z6) := by
  refine orc_self _ _ _ (fun p => mu85 p.1) nbE_inj ok85 ?_ z5_
  intro p hn orc hself hother
  obtain ⟨n, b⟩ := p
  simp only at hn
  refine ⟨1, ev85 n b hn (fun a M => ?_) (fun op a b M => ?_) (fun h M => ?_) (fun h b M => ?_) (fun h14 h15 x hx b M => ?_)⟩
  · rw [spC_ext (hother 122 (by decide))]
    exact c122_ (l := Z5) (by repeat first | exact .here | refine .there ?_ rfl) a M
  · rw [spC_ext (hother 79 (by decide))]
    exact c79_ (l := Z5) (by repeat first | exact .here | refine .there ?_ rfl) op a b M
  · rw [spC_ext (hother 123 (by decide))]
    exact spC_v av1_inj n (by repeat first | exact .here | refine .there ?_ rfl) (by exact two_kids hn h) (by exact a1 n) (by rfl) M
  · exact spC_self (hself (asF n, b) (as_valid hn) (mu85_as hn h)) (aNb (asF n) b) M
  · exact spC_self (hself (x, b) (ndE_kid hn hx) (mu85_kid h14 h15 hx)) (aNb x b) M
noncomputable abbrev Z7 : List (Nat × (List AV → Ores)) := (84, spR e1 (fun n => (rzI n, none)) (fun n => ndE n = 0)) :: Z6
theorem z7_ : OrcOK Tryz.prog (GG t) (orcOf Z7) := by
  refine orc_self _ _ _ sz av1_inj ok84 ?_ z6_
  intro n hn orc hself hother
  exact ⟨1, ev84 n hn (fun x hx M => spC_self (hself x (ndE_kid hn hx) (sz_child hx)) (a1 x) M)⟩
noncomputable abbrev Z8 : List (Nat × (List AV → Ores)) := (47, spR e1 (fun n => (.tup [av (nnfE n).1, .int .i64 (nnfE n).2], none)) (fun n => bk n ≤ big)) :: Z7
theorem z8_ : OrcOK Tryz.prog (GG t) (orcOf Z8) :=
  orc_con _ _ _ ok47 (fun n hb => ⟨1, ev47 n (fun M => spC_v av1_inj n (by repeat first | exact .here | refine .there ?_ rfl) (by exact hb) (by exact a1 n) (by rfl) M)
    (fun hc M => spC_v av1_inj n (by repeat first | exact .here | refine .there ?_ rfl) (by exact chk_vd hc) (by exact a1 n) (by rfl) M)
    (fun hc M => spC_v nbE_inj (n, false) (by repeat first | exact .here | refine .there ?_ rfl) (by exact chk_vd hc) (by exact aNb n false) (by rfl) M)
    (fun hc hs M => spC_v av1_inj (psh n).1 (by repeat first | exact .here | refine .there ?_ rfl) (by exact okV_big (okV_psh hc hs)) (by exact a1 _) (by rfl) M)⟩) z7_
end
theorem rnm_uR (m : List (Str × Str)) {n : Nd} (hv : ndE n = 0) (h16 : ¬ n.op = 16) (h17 : ¬ n.op = 17) : rnm m (n.op == 10) n.ns = uR m n.op n.ns := by
  have hz : n.op < 2 ∨ 10 < n.op → n.ns = [] := by
    intro h
    cases vk_of hv with
    | cst => rfl
    | two op x y h' => simp only [Nd.op] at h; omega
    | lab => simp [Nd.op] at h
    | smd => simp [Nd.op] at h
    | sng => simp [Nd.op] at h
    | cal => simp [Nd.op] at h
    | not => rfl
    | bin => rfl
    | qnt op x so a h' => simp at h16 h17; omega
  unfold rnm uR
  by_cases h10 : n.op = 10
  · rw [if_pos (by simp [h10]), if_pos h10]
    cases n.ns <;> rfl
  · rw [if_neg (by simp [h10]), if_neg h10]
    by_cases h : 2 ≤ n.op ∧ n.op < 10
    · rw [if_pos h]
    · rw [if_neg h, hz (by omega)]; rfl
section
variable {t : Nat}
noncomputable abbrev Z9 : List (Nat × (List AV → Ores)) := (154, spR (fun i : Nat => [.int .i64 (i : Int)]) (fun i => (.str (DD i), none)) (fun i => i < big)) :: Z8
theorem z9_ : OrcOK Tryz.prog (GG t) (orcOf Z9) :=
  orc_con _ _ _ ok154 (fun i hi => ⟨13, by
    have h := ev154 (G := GG t) (cl := spC (orcOf Z8)) (yl := noYl) (N := 13) i hi (by omega)
    rw [h]
    have : DD i = Lib.decDigits i := by unfold DD; rw [if_pos hi]
    rw [this]⟩) z8_
noncomputable abbrev Z10 : List (Nat × (List AV → Ores)) := (127, spR xsE (fun p => (.str (FF p.1 p.2), none)) (fun p => isId p.1 = true ∧ p.2.length < 90000)) :: Z9
theorem z10_ : OrcOK Tryz.prog (GG t) (orcOf Z10) :=
  orc_con _ _ _ ok127 (fun p hp => ⟨100006, ev127 p.1 false p.2 hp.1 hp.2 (by omega)
    (fun i hi M => spC_v nat1_inj i (by repeat first | exact .here | refine .there ?_ rfl) (by exact hi) (by rfl) (by rfl) M)
    (fun s M hs => spC_v str1_inj s (by repeat first | exact .here | refine .there ?_ rfl) (by exact hs) (by rfl) (by rfl) M)
    (fun s M => spC_v bsE_inj (false, p.2, s) (by repeat first | exact .here | refine .there ?_ rfl) (by show p.2.length < big; have := hp.2; unfold big; omega) (by rfl) (by rfl) M)⟩) z9_
noncomputable abbrev Z11 : List (Nat × (List AV → Ores)) := (130, spR wiE (fun p => (av (.mk p.1.op p.2.1.2 p.1.so p.1.nn p.1.mm p.2.2.2), none)) (fun _ => True)) ::
  (129, spR fiE (fun p => (.int .i64 (fndI p.1 p.2), none)) (fun p => p.1.length < 65536)) :: (128, spR bdE (fun p => (enV (p.1 ++ [p.2]), none)) (fun p => p.1.length < 65536)) :: Z10
theorem z11_ : OrcOK Tryz.prog (GG t) (orcOf Z11) := by
  refine orc_con _ _ _ ok130 (fun p _ => ⟨1, ev130 p.1 p.2.1.1 p.2.2.1 p.2.1.2 p.2.2.2⟩) ?_
  refine orc_con _ _ _ ok129 (fun p hp => ⟨p.1.length + 1, ev129 p.1 p.2 (by unfold big; omega) (Nat.lt_succ_self _)⟩) ?_
  exact orc_con _ _ _ ok128 (fun p hp => ⟨1, ev128 p.1 p.2 hp⟩) z10_
theorem cs88 {L : List (Nat × (List AV → Ores))} (h125 : Has L 125 s125) (h127 : Has L 127 (spR xsE (fun p => (.str (FF p.1 p.2), none)) (fun p => isId p.1 = true ∧ p.2.length < 90000))) (h87 : Has L 87 s87)
    (h128 : Has L 128 (spR bdE (fun p => (enV (p.1 ++ [p.2]), none)) (fun p => p.1.length < 65536))) (h129 : Has L 129 (spR fiE (fun p => (.int .i64 (fndI p.1 p.2), none)) (fun p => p.1.length < 65536)))
    (h130 : Has L 130 (spR wiE (fun p => (av (.mk p.1.op p.2.1.2 p.1.so p.1.nn p.1.mm p.2.2.2), none)) (fun _ => True))) : Cs88 (spC (orcOf L)) where
  h125 := fun n M => spC_v av1_inj n h125 (by exact trivial) (by exact a1 n) (by rfl) M
  h127 := fun x tk M hx ht => spC_v xsE_inj (x, tk) h127 (by exact ⟨hx, ht⟩) (by rfl) (by rfl) M
  h87 := c87_ h87
  h128 := fun E x s so M hE => spC_v bdE_inj (E, ⟨x, s, so⟩) h128 (by exact hE) (by simp [argL, argV_enV, bdE]) (by rfl) M
  h129 := fun E s M hE => spC_v fiE_inj (E, s) h129 (by exact hE) (by simp [argL, argV_enV, fiE]) (by rfl) M
  h130 := fun n s1 s2 ns l M => spC_v wiE_inj (n, ((match s1 with | .full => true | _ => false), ns), ((match s2 with | .full => true | _ => false), l)) h130 (by exact trivial) (by cases s1 <;> cases s2 <;> simp [argL, argV_sl, wiE, nfl]) (by rfl) M
noncomputable abbrev Z12 : List (Nat × (List AV → Ores)) := (88, spR apE (fun p => (.tup [av (apF FF (mOf p.2.1) p.2.2 p.1).1, .slc .shared ((apF FF (mOf p.2.1) p.2.2 p.1).2.map .str)], none)) (fun p => ndE p.1 = 0 ∧ p.2.1.length + sz p.1 < 65536 ∧ p.2.2.length + sz p.1 ≤ 89999)) :: Z11
theorem argL_ap (x : Nd) (E : List Ev) (tk : List Str) {s : Sp} (hs : s ≠ .full) : argL [av x, enV E, .slc s (tk.map .str)] = some (apE (x, E, tk)) := by
  cases s with
  | full => exact absurd rfl hs
  | shared => simp [argL, argV_enV, argV_sl, apE, nfl]
  | own k => simp [argL, argV_enV, argV_sl, apE, nfl]
theorem z12_ : OrcOK Tryz.prog (GG t) (orcOf Z12) := by
  refine orc_self _ _ _ (fun p => sz p.1) apE_inj ok88 ?_ z11_
  intro p hp orc hself hother
  obtain ⟨n, E, tk⟩ := p
  obtain ⟨hv, hE, htk⟩ := hp
  simp only at hv hE htk
  have cs : Cs88 (spC orc) := by
    have c : Cs88 (spC (orcOf Z11)) := cs88 (by repeat first | exact .here | refine .there ?_ rfl) (by repeat first | exact .here | refine .there ?_ rfl) (by repeat first | exact .here | refine .there ?_ rfl) (by repeat first | exact .here | refine .there ?_ rfl) (by repeat first | exact .here | refine .there ?_ rfl) (by repeat first | exact .here | refine .there ?_ rfl)
    exact {
      h125 := fun n M => by rw [spC_ext (hother 125 (by decide))]; exact c.h125 n M
      h127 := fun x tk M hx ht => by rw [spC_ext (hother 127 (by decide))]; exact c.h127 x tk M hx ht
      h87 := fun sp l s M hl hs => by rw [spC_ext (hother 87 (by decide))]; exact c.h87 sp l s M hl hs
      h128 := fun E x s so M hE => by rw [spC_ext (hother 128 (by decide))]; exact c.h128 E x s so M hE
      h129 := fun E s M hE => by rw [spC_ext (hother 129 (by decide))]; exact c.h129 E s M hE
      h130 := fun n s1 s2 ns l M => by rw [spC_ext (hother 130 (by decide))]; exact c.h130 n s1 s2 ns l M }
  have kid : ∀ (E' : List Ev) (x : Nd), x ∈ n.l → E'.length + sz x < 65536 → C88 (spC orc) E' x := by
    intro E' x hx hE' tk' s M hs hl
    exact spC_selfA (hself (x, E', tk') ⟨ndE_kid hv hx, hE', hl⟩ (sz_child hx)) (argL_ap x E' tk' hs) M
  have hzn := sz_eq n
  have nb : ¬ n.op = 16 → ¬ n.op = 17 → n.l.length < 4 → ∃ N, pureA (GG t) false (spC orc) noYl N c88 (apE (n, E, tk)) = some (.tup [av (apF FF (mOf E) tk n).1, .slc .shared ((apF FF (mOf E) tk n).2.map .str)], none) := by
    intro h16 h17 hl
    have hr := rnm_uR (mOf E) hv h16 h17
    have hns := ns_len hv
    have hk := kid E
    cases n with
    | mk op ns so nn mm l =>
      simp only [Nd.op, Nd.ns, Nd.l] at h16 h17 hl hr hns hk hzn
      have e : apF FF (mOf E) tk (.mk op ns so nn mm l) = (.mk op (uR (mOf E) op ns) so nn mm (apL FF (mOf E) tk l).1, (apL FF (mOf E) tk l).2) := by
        simp only [apF]
        rw [if_neg (by omega)]
      refine ⟨ns.length + 6, ?_⟩
      rw [e, ← hr]
      exact ev88_nb op ns so nn mm l E tk h16 h17 (by omega) (by omega) hl (by omega) (by omega) cs (fun x hx => hk x hx (by have := sz_child (n := .mk op ns so nn mm l) (x := x) hx; omega))
  cases vk_of hv with
  | cst op h => exact nb (by simp; omega) (by simp; omega) (by simp)
  | two op x y h => exact nb (by simp only [Nd.op]; omega) (by simp only [Nd.op]; omega) (by simp [Nd.l])
  | lab => exact nb (by simp [Nd.op]) (by simp [Nd.op]) (by simp [Nd.l])
  | smd => exact nb (by simp [Nd.op]) (by simp [Nd.op]) (by simp [Nd.l])
  | sng => exact nb (by simp [Nd.op]) (by simp [Nd.op]) (by simp [Nd.l])
  | cal => exact nb (by simp [Nd.op]) (by simp [Nd.op]) (by simp [Nd.l])
  | not a ha => exact nb (by simp) (by simp) (by simp)
  | bin op a b h => exact nb (by simp; omega) (by simp; omega) (by simp)
  | qnt op x so a h hx hso ha =>
    have hz : sz (qn op x so a) = sz a + 1 := by simp [qn, sz, szL]
    exact ⟨6, ev88_q h x so a E tk hx (by have := sz_pos a; omega) (by omega) (by omega) cs (kid _ a (by simp) (by simp; omega))⟩
noncomputable abbrev Z13 : List (Nat × (List AV → Ores)) := (48, spR (fun n => [qyv n]) (fun n => (qyv (uqF DD n), none)) (fun n => chk n = 0)) :: Z12
theorem qyv_inj (a b : Nd) (h : [qyv a] = [qyv b]) : a = b := by
  have e : ndc a = ndc b := by
    simp only [qyv, List.cons.injEq, AV.agg.injEq, and_true, true_and] at h
    exact h
  exact av_inj (by rw [← agg_ndc, ← agg_ndc, e])
theorem z13_ : OrcOK Tryz.prog (GG t) (orcOf Z13) :=
  orc_con _ _ _ ok48 (fun n hc => ⟨1, by
    have ov := okV_chk hc
    have h17 := f12_17 _ n (Nat.le_refl _) ov.1
    have hs := ov.2
    refine ev48 n (by omega) (fun M => spC_at av1_inj n (by repeat first | exact .here | refine .there ?_ rfl) (by exact ov) (by exact a1 n) M) (apF FF [] (f12 n) n).2 (fun s M hs' => ?_)
    rw [← uq_f12 n]
    have ha : argL [av n, .agg [.slc .full [], .slc .full [], .slc .full []], .slc s ((f12 n).map .str)] = some (apE (n, [], f12 n)) := by
      have := argL_ap n [] (f12 n) hs'
      cases s with
      | full => exact absurd rfl hs'
      | shared => simp [argL, argV_sl, pureV, pureL, apE, nfl, enV, evF, evT, evS]
      | own k => simp [argL, argV_sl, pureV, pureL, apE, nfl, enV, evF, evT, evS]
    exact spC_v apE_inj (n, [], f12 n) (by repeat first | exact .here | refine .there ?_ rfl) (by exact ⟨ov.1, by show 0 + sz n < 65536; omega, by show (f12 n).length + sz n ≤ 89999; omega⟩) ha (by rfl) M⟩) z12_
noncomputable abbrev Z14 : List (Nat × (List AV → Ores)) := (49, spR e1 (fun n => (.tup [.slc .shared ((drF n).1.map qv), av (drF n).2], none)) (fun n => ndE n = 0 ∧ sz n + 8 < big)) :: Z13
theorem z14_ : OrcOK Tryz.prog (GG t) (orcOf Z14) := by
  refine orc_self _ _ _ sz av1_inj ok49 ?_ z13_
  intro n hp orc hself hother
  refine ⟨1, ev49 n hp.1 hp.2 (fun op a b M => ?_) (fun x hx M => ?_)⟩
  · rw [spC_ext (hother 79 (by decide))]
    exact c79_ (l := Z13) (by repeat first | exact .here | refine .there ?_ rfl) op a b M
  · exact spC_self (hself x ⟨ndE_kid hp.1 hx, by have := hp.2; have := sz_child hx; omega⟩ (sz_child hx)) (a1 x) M
noncomputable abbrev Z15 : List (Nat × (List AV → Ores)) := (15, spR e1 (fun n => (.tup [av (pnE n).1, .int .i64 (pnE n).2], none)) (fun n => bk n ≤ big)) :: Z14
theorem z15_ : OrcOK Tryz.prog (GG t) (orcOf Z15) :=
  orc_con _ _ _ ok15 (fun n hb => ⟨1, ev15 n (fun M => spC_v av1_inj n (by repeat first | exact .here | refine .there ?_ rfl) (by exact hb) (by exact a1 n) (by rfl) M)
    (fun hs M => spC_v av1_inj (setE n).1 (by repeat first | exact .here | refine .there ?_ rfl) (by rw [(setE_ok hs).2.1]; exact okV_big (okV_chk (setE_ok hs).2.2)) (by exact a1 _) (by rfl) M)
    (fun hs hn M => spC_v qyv_inj (nnfE (setE n).1).1 (by repeat first | exact .here | refine .there ?_ rfl) (by obtain ⟨-, -, k3, k4⟩ := nnfE_ok hn; rw [k3]; exact k4) (argL_qyf _) (by rfl) M)
    (fun hs hn M => spC_v av1_inj (uqF DD (nnfE (setE n).1).1) (by repeat first | exact .here | refine .there ?_ rfl) (by
      obtain ⟨k1, k2, k3, k4⟩ := nnfE_ok hn
      have ov := okV_psh k1 k2
      rw [k3]
      exact ⟨uqF_valid dd_ok ov.1 (free_ok k4), by rw [show sz (uqF DD _) = _ from apF_sz _ _ _ _]; have := ov.2; unfold big; omega⟩) (by exact a1 _) (by rfl) M)
    (fun hs hn M => spC_v qn_inj21 (pnN (nnfE (setE n).1).1) (by repeat first | exact .here | refine .there ?_ rfl) (by
      have p := pn_ok hs hn
      have h2 := p.z
      show (pnN (nnfE (setE n).1).1).1.length < big
      unfold big; omega) (by simp [argL]) (by rfl) M)
    (fun hs hn M => spC_v av1_inj (wth (pnN (nnfE (setE n).1).1).1 (pnN (nnfE (setE n).1).1).2) (by repeat first | exact .here | refine .there ?_ rfl) (by
      have p := pn_ok hs hn
      have h1 := bk_vd _ _ (Nat.le_refl _) p.v
      rw [wth_sz] at h1
      have h2 := p.z
      show bk _ ≤ big
      unfold big; omega) (by exact a1 _) (by rfl) M)⟩) z14_
end
section
variable {G : Nat → Option AV} {cl : Caller} {yl : Nat → List AV → Mem → Option (AV × Mem)} {N N0 : Nat}
theorem ev3 (n : Nd) (h9 : ∀ M, cl 9 [] M = some (.bool true, M)) (h10 : ∀ M, cl 10 [av n] M = some (.bool (small n), M)) (h12 : ∀ M, cl 12 [av n] M = some (av n, M))
    (h11 : ∀ M, cl 11 [av n] M = some (.tup [av (setE n).1, .int .i64 (setE n).2], M)) (h13 : ∀ M, cl 13 [av n] M = some (.tup [av (setE n).1, .int .i64 (setE n).2], M))
    (h14 : ∀ M, cl 14 [av n] M = some (.tup [av (pnE n).1, .int .i64 (pnE n).2], M)) (h15 : ∀ M, cl 15 [av n] M = some (.tup [av (pnE n).1, .int .i64 (pnE n).2], M))
    (h16 : ∀ M, cl 16 [av (setE n).1, .int .i64 (setE n).2, av (setE n).1, .int .i64 (setE n).2] M = some (.bool true, M))
    (h16p : ∀ M, cl 16 [av (pnE n).1, .int .i64 (pnE n).2, av (pnE n).1, .int .i64 (pnE n).2] M = some (.bool true, M)) : pureA G false cl yl N c3 [av n] = some (.bool true, none) := by
  cases hs : small n with
  | false =>
    rw [hs] at h10
    simp -implicitDefEqProofs [c3, h9, h10]
  | true =>
    rw [hs] at h10
    generalize pnE n = p at *
    generalize setE n = s at *
    simp -implicitDefEqProofs [c3, h9, h10, h12, h11, h13, h14, h15, h16, h16p]
end
section
variable {t : Nat}
theorem ckd_bk {n : Nd} : bk (ckd n).1 ≤ big := by
  unfold ckd
  by_cases h : chk n = 0
  · rw [if_pos h]; exact okV_big (okV_chk h)
  · rw [if_neg h]; show bk nd0 ≤ big; decide
theorem setE_bk (n : Nd) : bk (setE n).1 ≤ big := by
  unfold setE
  split
  · exact ckd_bk
  · show bk nd0 ≤ big; decide
theorem pnE_bk (n : Nd) : bk (pnE n).1 ≤ big := by
  unfold pnE
  split
  · split
    · exact ckd_bk
    · show bk nd0 ≤ big; decide
  · show bk nd0 ≤ big; decide
theorem orc3 (n : Nd) (hb : bk n < big) : OrcAt Tryz.prog (GG t) 3 [av n] (.bool true, none) :=
  orc_step hmix kis ok3 z15_ ⟨1, ev3 n (fun M => by
      have h : orcOf Z15 9 [] = some (.bool true, none) := by
        have : Has Z15 9 sp9 := (by repeat first | exact .here | refine .there ?_ rfl)
        rw [this.eq]; rfl
      simp [spC, h])
    (fun M => spC_v av1_inj n (by repeat first | exact .here | refine .there ?_ rfl) (by show bk n ≤ big; omega) (by exact a1 n) (by rfl) M)
    (fun M => spC_v av1_inj n (by repeat first | exact .here | refine .there ?_ rfl) (by show bk n ≤ big; omega) (by exact a1 n) (by rfl) M)
    (fun M => spC_v av1_inj n (by repeat first | exact .here | refine .there ?_ rfl) (by show bk n ≤ big; omega) (by exact a1 n) (by rfl) M)
    (fun M => spC_v av1_inj n (by repeat first | exact .here | refine .there ?_ rfl) (by show bk n ≤ big; omega) (by exact a1 n) (by rfl) M)
    (fun M => spC_v av1_inj n (by repeat first | exact .here | refine .there ?_ rfl) (by show bk n ≤ big; omega) (by exact a1 n) (by rfl) M)
    (fun M => spC_v av1_inj n (by repeat first | exact .here | refine .there ?_ rfl) (by show bk n ≤ big; omega) (by exact a1 n) (by rfl) M)
    (fun M => spC_v isE_inj (setE n) (by repeat first | exact .here | refine .there ?_ rfl) (by exact setE_bk n) (by simp [argL, isE]) (by rfl) M)
    (fun M => spC_v isE_inj (pnE n) (by repeat first | exact .here | refine .there ?_ rfl) (by exact pnE_bk n) (by simp [argL, isE]) (by rfl) M)⟩
end
end Go.Proofs.Ae
