/- What single functions answer for every input, by the abstract execution. -/
import Derived.Test.YtlaomcfiadmamaaGreatDoorD
set_option linter.unusedSimpArgs false
set_option linter.unusedVariables false
set_option linter.unusedSectionVars false
namespace Go.Proofs.Ae
open Go
variable {G : Nat → Option AV} {cl : Caller} {N : Nat}
theorem ev32 (n : Nd) (hb : bk n ≤ big) (hN : n.l.length < N) (hc : ∀ x ∈ n.l, ∀ M, cl 32 [av x] M = some (.int .i64 (sz x), M)) :
    pureA G false cl noYl N c32 [av n] = some (.int .i64 (sz n), none) := by
  have hlen := len_bk n
  have hsz := sz_bk n
  have hsl := sz_eq n
  unfold big at hb
  have h1 := iter_all (mu := false) (step := evalC G false cl noYl N c32b0) (an := ⟨[3, 7, 8, 9], [(3, none), (9, none)]⟩) (k := 1) (m := 0) (N := N) n.l
    (fun i => ⟨[(3, .int .i64 (1 + szL (n.l.take i))), (7, .slc .shared (avL n.l)), (8, .int .i64 n.l.length), (9, .int .i64 i)], ⟨[.cells (ndc n)], []⟩, []⟩) (.exit 0)
    ⟨[(10, .bool false), (3, .int .i64 (1 + szL n.l)), (7, .slc .shared (avL n.l)), (8, .int .i64 n.l.length), (9, .int .i64 n.l.length)], ⟨[.cells (ndc n)], []⟩, []⟩ hN (by simp) ?_ ?_
  · simp [szL] at h1
    simp -implicitDefEqProofs [c32, h1]
    omega
  · intro i x hx hi
    have w1 := wrap_succ (i := i) (by omega)
    have hc' := hc x (mem_of_get hx)
    have ht := szL_take_succ hx
    have hle := szL_take_le n.l (i + 1)
    have w2 : wrapF .i64 (1 + (szL (n.l.take i) : Int) + (sz x : Int)) = 1 + (szL (n.l.take (i + 1)) : Int) := by rw [wrap_id (by omega) (by omega)]; omega
    have hx' := (List.getElem?_eq_some_iff.1 hx).2
    simp -implicitDefEqProofs [c32b0, hi, hx', hc', w1, w2]
  · simp -implicitDefEqProofs [c32b0]
theorem ev37 (n : Nd) (hb : bk n ≤ big) (hN : n.l.length < N) (hc : ∀ x ∈ n.l, ∀ M, cl 37 [av x] M = some (.int .i64 (sz x), M)) :
    pureA G false cl noYl N c37 [av n] = some (.int .i64 (sz n), none) := by
  have hlen := len_bk n
  have hsz := sz_bk n
  have hsl := sz_eq n
  unfold big at hb
  have h1 := iter_all (mu := false) (step := evalC G false cl noYl N c37b0) (an := ⟨[1, 3, 4], [(3, none), (4, none)]⟩) (k := 1) (m := 0) (N := N) n.l
    (fun i => ⟨[(1, .ptr 0 0), (3, .int .i64 (1 + szL (n.l.take i))), (4, .int .i64 i)], ⟨[.cells (ndc n)], []⟩, []⟩) (.exit 0)
    ⟨[(9, .bool false), (8, .int .i64 n.l.length), (7, .slc .shared (avL n.l)), (6, .ptr 0 5), (5, .int .i64 n.l.length), (1, .ptr 0 0), (3, .int .i64 (1 + szL n.l)), (4, .int .i64 n.l.length)], ⟨[.cells (ndc n)], []⟩, []⟩ hN (by simp) ?_ ?_
  · simp [szL] at h1
    simp -implicitDefEqProofs [c37, h1]
    omega
  · intro i x hx hi
    have w1 := wrap_succ (i := i) (by omega)
    have hc' := hc x (mem_of_get hx)
    have ht := szL_take_succ hx
    have hle := szL_take_le n.l (i + 1)
    have w2 : wrapF .i64 (1 + (szL (n.l.take i) : Int) + (sz x : Int)) = 1 + (szL (n.l.take (i + 1)) : Int) := by rw [wrap_id (by omega) (by omega)]; omega
    have hx' := (List.getElem?_eq_some_iff.1 hx).2
    simp -implicitDefEqProofs [c37b0, hi, hx', hc', w1, w2]
  · simp -implicitDefEqProofs [c37b0]
theorem max_int (a b : Nat) : (if (b : Int) > (a : Int) then (b : Int) else (a : Int)) = ((max a b : Nat) : Int) := by split <;> omega
theorem ev33 (n : Nd) (hb : bk n ≤ big) (hN : n.l.length < N) (hc : ∀ x ∈ n.l, ∀ M, cl 33 [av x] M = some (.int .i64 (dp x), M)) :
    pureA G false cl noYl N c33 [av n] = some (.int .i64 (dp n), none) := by
  have hlen := len_bk n
  have hsz := sz_bk n
  have hds := dp_sz n
  have hsl := dp_eq n
  unfold big at hb
  have h1 := iter_all (mu := false) (step := evalC G false cl noYl N c33b0) (an := ⟨[3, 7, 8, 9], [(3, none), (9, none)]⟩) (k := 1) (m := 0) (N := N) n.l
    (fun i => ⟨[(3, .int .i64 (dpL (n.l.take i))), (7, .slc .shared (avL n.l)), (8, .int .i64 n.l.length), (9, .int .i64 i)], ⟨[.cells (ndc n)], []⟩, []⟩) (.exit 0)
    ⟨[(10, .bool false), (3, .int .i64 (dpL n.l)), (7, .slc .shared (avL n.l)), (8, .int .i64 n.l.length), (9, .int .i64 n.l.length)], ⟨[.cells (ndc n)], []⟩, []⟩ hN (by simp) ?_ ?_
  · have w : wrapF .i64 ((dpL n.l : Int) + 1) = (dp n : Int) := by rw [wrap_id (by omega) (by omega)]; omega
    simp [dpL] at h1
    simp -implicitDefEqProofs [c33, h1, w]
  · intro i x hx hi
    have w1 := wrap_succ (i := i) (by omega)
    have hc' := hc x (mem_of_get hx)
    have w2 := max_int (dpL (n.l.take i)) (dp x)
    have hx' := (List.getElem?_eq_some_iff.1 hx).2
    rw [← dpL_take_succ hx] at w2
    simp -implicitDefEqProofs [c33b0, hi, hx', hc', w1]
    simpa using w2
  · simp -implicitDefEqProofs [c33b0]
theorem ev38 (n : Nd) (hb : bk n ≤ big) (hN : n.l.length < N) (hc : ∀ x ∈ n.l, ∀ M, cl 38 [av x] M = some (.int .i64 (dp x), M)) :
    pureA G false cl noYl N c38 [av n] = some (.int .i64 (dp n), none) := by
  have hlen := len_bk n
  have hsz := sz_bk n
  have hds := dp_sz n
  have hsl := dp_eq n
  unfold big at hb
  have h1 := iter_all (mu := false) (step := evalC G false cl noYl N c38b0) (an := ⟨[1, 3, 4], [(3, none), (4, none)]⟩) (k := 1) (m := 0) (N := N) n.l
    (fun i => ⟨[(1, .ptr 0 0), (3, .int .i64 (dpL (n.l.take i))), (4, .int .i64 i)], ⟨[.cells (ndc n)], []⟩, []⟩) (.exit 0)
    ⟨[(9, .bool false), (8, .int .i64 n.l.length), (7, .slc .shared (avL n.l)), (6, .ptr 0 5), (5, .int .i64 n.l.length), (1, .ptr 0 0), (3, .int .i64 (dpL n.l)), (4, .int .i64 n.l.length)], ⟨[.cells (ndc n)], []⟩, []⟩ hN (by simp) ?_ ?_
  · have w : wrapF .i64 (1 + (dpL n.l : Int)) = (dp n : Int) := by rw [wrap_id (by omega) (by omega)]; omega
    simp [dpL] at h1
    simp -implicitDefEqProofs [c38, h1, w]
  · intro i x hx hi
    have w1 := wrap_succ (i := i) (by omega)
    have hc' := hc x (mem_of_get hx)
    have w2 := max_int (dpL (n.l.take i)) (dp x)
    have hx' := (List.getElem?_eq_some_iff.1 hx).2
    rw [← dpL_take_succ hx] at w2
    simp -implicitDefEqProofs [c38b0, hi, hx', hc', w1]
    simpa using w2
  · simp -implicitDefEqProofs [c38b0]
mutual
def nmd : Nd → Bool
  | .mk _ ns _ _ _ l => decide (ns.length ≤ 20) && nmdL l
def nmdL : List Nd → Bool
  | [] => true
  | x :: xs => nmd x && nmdL xs
end
theorem nmd_eq (n : Nd) : nmd n = (decide (n.ns.length ≤ 20) && nmdL n.l) := by cases n; rfl
theorem nmdL_find : ∀ l : List Nd, nmdL l = (l.findSome? (fun x => if nmd x then none else some ())).isNone
  | [] => rfl
  | x :: l => by simp only [nmdL, List.findSome?_cons, nmdL_find l]; cases nmd x <;> simp
theorem ev39 (n : Nd) (hb : bk n ≤ big) (hN : n.l.length < N) (hc : ∀ x ∈ n.l, ∀ M, cl 39 [av x] M = some (.bool (nmd x), M)) :
    pureA G false cl noYl N c39 [av n] = some (.bool (nmd n), none) := by
  have hlen := len_bk n
  unfold big at hb
  rw [nmd_eq]
  by_cases hns : n.ns.length ≤ 20
  · have h1 := iter_find (mu := false) (step := evalC G false cl noYl N c39b0) (an := ⟨[1, 3], [(3, none)]⟩) (k := 1) (m := 0) (N := N) n.l (fun x => if nmd x then none else some ())
      (fun i => ⟨[(1, .ptr 0 0), (3, .int .i64 i)], ⟨[.cells (ndc n)], []⟩, []⟩) (fun _ e s' => e = .ret ∧ look 2 s'.ts = .bool false ∧ s'.mks = []) (.exit 0)
      ⟨[(12, .bool false), (11, .int .i64 n.l.length), (10, .slc .shared (avL n.l)), (9, .ptr 0 5), (8, .int .i64 n.l.length), (1, .ptr 0 0), (3, .int .i64 n.l.length)], ⟨[.cells (ndc n)], []⟩, []⟩ hN (by simp) ?_ ?_
    · rw [nmdL_find]
      have hd : ¬ ((20 : Int) < (n.ns.length : Int)) := by omega
      cases hf : n.l.findSome? (fun x => if nmd x then none else some ()) with
      | none =>
        rw [hf] at h1
        simp at h1
        simp -implicitDefEqProofs [c39, hns, hd, h1]
      | some r =>
        rw [hf] at h1
        obtain ⟨e, s', h1, -, rfl, h2, h3⟩ := h1
        simp at h1
        simp -implicitDefEqProofs [c39, hns, hd, h1, h2, h3]
    · intro i x hx hi
      have w1 := wrap_succ (i := i) (by omega)
      have hc' := hc x (mem_of_get hx)
      have hx' := (List.getElem?_eq_some_iff.1 hx).2
      cases hn : nmd x <;> simp -implicitDefEqProofs [c39b0, hi, hx', hc', w1, hn]
    · simp -implicitDefEqProofs [c39b0]
  · have hd : (20 : Int) < (n.ns.length : Int) := by omega
    simp -implicitDefEqProofs [c39, hns, hd]
def small (n : Nd) : Bool := decide (sz n ≤ 200) && decide (dp n ≤ 60) && nmd n
theorem ev10 (n : Nd) (h37 : ∀ M, cl 37 [av n] M = some (.int .i64 (sz n), M)) (h38 : ∀ M, cl 38 [av n] M = some (.int .i64 (dp n), M)) (h39 : ∀ M, cl 39 [av n] M = some (.bool (nmd n), M)) :
    pureA G false cl noYl N c10 [av n] = some (.bool (small n), none) := by
  unfold small
  by_cases h1 : sz n ≤ 200 <;> by_cases h2 : dp n ≤ 60 <;> cases h3 : nmd n
  all_goals
    have k1 : ((sz n : Int) ≤ 200) = (sz n ≤ 200) := by apply propext; omega
    have k2 : ((dp n : Int) ≤ 60) = (dp n ≤ 60) := by apply propext; omega
    simp -implicitDefEqProofs [c10, h37, h38, h39, h1, h2, h3, k1, k2]
end Go.Proofs.Ae
namespace Go.Proofs.Ae
open Go
variable {G : Nat → Option AV} {cl : Caller} {N : Nat}
@[simp] theorem szOk_av (n : Nd) (l : List AV) : szOk 6 (av n :: l) = true := by cases n; rfl
@[simp] theorem szOk_avL (l : List Nd) : szOk 6 (avL l) = true := by
  cases l with
  | nil => rfl
  | cons x l => exact szOk_av x _
@[simp] theorem szOk_nil (k : Nat) : szOk k [] = true := rfl
@[simp] theorem szOk_str (s : Str) (l : List AV) : szOk 1 (.str s :: l) = true := rfl
@[simp] theorem szOk_strs (l : List Str) : szOk 1 (l.map .str) = true := by cases l <;> rfl
def rowA (i ty k : Nat) : Arr := .app i (if i = 0 then 0 else ty) (if i = 0 then 0 else k)
theorem avL_append (a b : List Nd) : avL (a ++ b) = avL a ++ avL b := by rw [avL_map, avL_map, avL_map, List.map_append]
theorem avL_take_succ {l : List Nd} {i : Nat} {x : Nd} (h : l[i]? = some x) : avL (l.take i) ++ [av x] = avL (l.take (i + 1)) := by
  rw [List.take_add_one, h, avL_append]; rfl
def nmv (ns : List Str) : AV := match ns with
  | [] => .slc .full []
  | s :: ns => .slc (.own 0) ((s :: ns).map .str)
def nmr (ns : List Str) : List Arr := match ns with
  | [] => []
  | s :: ns => [.app (ns.length + 1) 9 1]
def z6 : List AV := [.int .i64 0, .slc .full [], .int .i64 0, .int .i64 0, .int .i64 0, .slc .full []]
theorem ev12_loop (n : Nd) (hb : bk n ≤ big) (hN : n.l.length < N) (hc : ∀ x ∈ n.l, ∀ M, cl 12 [av x] M = some (av x, M)) :
    iter false (evalC G false cl noYl N c12b0) ⟨[1, 2, 3, 4], [(3, some 5), (4, none)]⟩ 3 ((nmr n.ns).length + 1) N
      ⟨[(1, .ptr 0 0), (2, .ptr 1 0), (3, .ptr 2 0), (4, .int .i64 ((0 : Nat) : Int))], ⟨[.cells (ndc n), .cells z6, .cells [.int .i64 n.op, nmv n.ns, .int .i64 n.so, .int .i64 n.nn, .int .i64 n.mm, .slc (.own (nmr n.ns).length) (avL (n.l.take 0))]], nmr n.ns ++ [rowA 0 30 6]⟩, []⟩ =
    some (.exit 0, ⟨[(22, .bool false), (21, .int .i64 n.l.length), (20, .slc .shared (avL n.l)), (19, .ptr 0 5), (18, .int .i64 n.l.length), (1, .ptr 0 0), (2, .ptr 1 0), (3, .ptr 2 0), (4, .int .i64 n.l.length)],
      ⟨[.cells (ndc n), .cells z6, .cells [.int .i64 n.op, nmv n.ns, .int .i64 n.so, .int .i64 n.nn, .int .i64 n.mm, .slc (.own (nmr n.ns).length) (avL n.l)]], nmr n.ns ++ [rowA n.l.length 30 6]⟩, []⟩) := by
  have hlen := len_bk n
  unfold big at hb
  refine iter_all n.l
    (fun i => ⟨[(1, .ptr 0 0), (2, .ptr 1 0), (3, .ptr 2 0), (4, .int .i64 (i : Int))], ⟨[.cells (ndc n), .cells z6, .cells [.int .i64 n.op, nmv n.ns, .int .i64 n.so, .int .i64 n.nn, .int .i64 n.mm, .slc (.own (nmr n.ns).length) (avL (n.l.take i))]], nmr n.ns ++ [rowA i 30 6]⟩, []⟩) (.exit 0) _ hN (by simp) ?_ ?_
  · intro i x hx hi
    have w1 := wrap_succ (i := i) (by omega)
    have hc' := hc x (mem_of_get hx)
    have hx' := (List.getElem?_eq_some_iff.1 hx).2
    have ht := avL_take_succ hx
    have hm : min i n.l.length = i := by omega
    have hq : (i + 1) * 80 ≤ 140737488355328 := by omega
    have hq2 : i + 1 ≤ 140737488355328 := by omega
    have hr : i = 0 ∨ ¬ i = 0 := Decidable.em _
    cases hns : n.ns <;> simp -implicitDefEqProofs [c12b0, nmr, nmv, z6, rowA, hi, hx', hc', w1, hm, hq, hq2, ht, hr]
  · cases hns : n.ns <;> simp -implicitDefEqProofs [c12b0, nmr, nmv, z6]
theorem ev12 (n : Nd) (hb : bk n ≤ big) (hN : n.l.length < N) (hc : ∀ x ∈ n.l, ∀ M, cl 12 [av x] M = some (av x, M)) :
    pureA G false cl noYl N c12 [av n] = some (av n, none) := by
  have h1 := ev12_loop (G := G) (cl := cl) n hb hN hc
  have hlen := names_bk n
  unfold big at hb
  have hq : n.ns.length * 16 ≤ 140737488355328 := by omega
  have hq2 : n.ns.length ≤ 140737488355328 := by omega
  cases hns : n.ns with
  | nil =>
    simp [nmr, nmv, hns, z6, avL, rowA] at h1
    simp -implicitDefEqProofs [c12, hns, h1]
    simp [av_ndc, ndc_eq, hns]
  | cons s ns =>
    rw [hns] at hq hq2
    simp at hq hq2
    simp [nmr, nmv, hns, z6, avL, rowA] at h1
    simp -implicitDefEqProofs [c12, hns, h1, hq, hq2]
    simp [av_ndc, ndc_eq, hns]
theorem ev20_loop (n : Nd) (hb : bk n ≤ big) (hN : n.l.length < N) (hc : ∀ x ∈ n.l, ∀ M, cl 20 [av x] M = some (av x, M)) :
    iter false (evalC G false cl noYl N c20b0) ⟨[1, 2, 3, 4], [(3, some 5), (4, none)]⟩ 3 ((nmr n.ns).length + 1) N
      ⟨[(1, .ptr 0 0), (2, .ptr 1 0), (3, .ptr 2 0), (4, .int .i64 ((0 : Nat) : Int))], ⟨[.cells (ndc n), .cells z6, .cells [.int .i64 n.op, nmv n.ns, .int .i64 n.so, .int .i64 n.nn, .int .i64 n.mm, .slc (.own (nmr n.ns).length) (avL (n.l.take 0))]], nmr n.ns ++ [rowA 0 25 6]⟩, []⟩ =
    some (.exit 0, ⟨[(22, .bool false), (21, .int .i64 n.l.length), (20, .slc .shared (avL n.l)), (19, .ptr 0 5), (18, .int .i64 n.l.length), (1, .ptr 0 0), (2, .ptr 1 0), (3, .ptr 2 0), (4, .int .i64 n.l.length)],
      ⟨[.cells (ndc n), .cells z6, .cells [.int .i64 n.op, nmv n.ns, .int .i64 n.so, .int .i64 n.nn, .int .i64 n.mm, .slc (.own (nmr n.ns).length) (avL n.l)]], nmr n.ns ++ [rowA n.l.length 25 6]⟩, []⟩) := by
  have hlen := len_bk n
  unfold big at hb
  refine iter_all n.l
    (fun i => ⟨[(1, .ptr 0 0), (2, .ptr 1 0), (3, .ptr 2 0), (4, .int .i64 (i : Int))], ⟨[.cells (ndc n), .cells z6, .cells [.int .i64 n.op, nmv n.ns, .int .i64 n.so, .int .i64 n.nn, .int .i64 n.mm, .slc (.own (nmr n.ns).length) (avL (n.l.take i))]], nmr n.ns ++ [rowA i 25 6]⟩, []⟩) (.exit 0) _ hN (by simp) ?_ ?_
  · intro i x hx hi
    have w1 := wrap_succ (i := i) (by omega)
    have hc' := hc x (mem_of_get hx)
    have hx' := (List.getElem?_eq_some_iff.1 hx).2
    have ht := avL_take_succ hx
    have hm : min i n.l.length = i := by omega
    have hq : (i + 1) * 80 ≤ 140737488355328 := by omega
    have hq2 : i + 1 ≤ 140737488355328 := by omega
    have hr : i = 0 ∨ ¬ i = 0 := Decidable.em _
    cases hns : n.ns <;> simp -implicitDefEqProofs [c20b0, nmr, nmv, z6, rowA, hi, hx', hc', w1, hm, hq, hq2, ht, hr]
  · cases hns : n.ns <;> simp -implicitDefEqProofs [c20b0, nmr, nmv, z6]
theorem ev20 (n : Nd) (hb : bk n ≤ big) (hN : n.l.length < N) (hc : ∀ x ∈ n.l, ∀ M, cl 20 [av x] M = some (av x, M)) :
    pureA G false cl noYl N c20 [av n] = some (av n, none) := by
  have h1 := ev20_loop (G := G) (cl := cl) n hb hN hc
  have hlen := names_bk n
  unfold big at hb
  have hq : n.ns.length * 16 ≤ 140737488355328 := by omega
  have hq2 : n.ns.length ≤ 140737488355328 := by omega
  cases hns : n.ns with
  | nil =>
    simp [nmr, nmv, hns, z6, avL, rowA] at h1
    simp -implicitDefEqProofs [c20, hns, h1]
    simp [av_ndc, ndc_eq, hns]
  | cons s ns =>
    rw [hns] at hq hq2
    simp at hq hq2
    simp [nmr, nmv, hns, z6, avL, rowA] at h1
    simp -implicitDefEqProofs [c20, hns, h1, hq, hq2]
    simp [av_ndc, ndc_eq, hns]
def cl74 (ns : List Str) (M : Mem) : Option (AV × Mem) := match ns with
  | [] => some (.slc .full [], M)
  | s :: ns => some (.slc (.own M.arrs.length) ((s :: ns).map .str), { M with arrs := M.arrs ++ [.app (ns.length + 1) 9 1] })
theorem ev51_loop (n : Nd) (hb : bk n ≤ big) (hN : n.l.length < N) (hc : ∀ x ∈ n.l, ∀ M, cl 51 [av x] M = some (av x, M)) :
    iter false (evalC G false cl noYl N c51b0) ⟨[1, 2, 13, 14, 15], [(1, some 5), (15, none)]⟩ 2 ((nmr n.ns).length + 1) N
      ⟨[(1, .ptr 0 0), (2, .ptr 1 0), (13, .slc .shared (avL n.l)), (14, .int .i64 n.l.length), (15, .int .i64 ((0 : Nat) : Int))], ⟨[.cells [.int .i64 n.op, nmv n.ns, .int .i64 n.so, .int .i64 n.nn, .int .i64 n.mm, .slc (.own (nmr n.ns).length) (avL (n.l.take 0))], .cells z6], nmr n.ns ++ [rowA 0 30 6]⟩, []⟩ =
    some (.exit 0, ⟨[(16, .bool false), (1, .ptr 0 0), (2, .ptr 1 0), (13, .slc .shared (avL n.l)), (14, .int .i64 n.l.length), (15, .int .i64 n.l.length)],
      ⟨[.cells [.int .i64 n.op, nmv n.ns, .int .i64 n.so, .int .i64 n.nn, .int .i64 n.mm, .slc (.own (nmr n.ns).length) (avL n.l)], .cells z6], nmr n.ns ++ [rowA n.l.length 30 6]⟩, []⟩) := by
  have hlen := len_bk n
  unfold big at hb
  refine iter_all n.l
    (fun i => ⟨[(1, .ptr 0 0), (2, .ptr 1 0), (13, .slc .shared (avL n.l)), (14, .int .i64 n.l.length), (15, .int .i64 (i : Int))], ⟨[.cells [.int .i64 n.op, nmv n.ns, .int .i64 n.so, .int .i64 n.nn, .int .i64 n.mm, .slc (.own (nmr n.ns).length) (avL (n.l.take i))], .cells z6], nmr n.ns ++ [rowA i 30 6]⟩, []⟩) (.exit 0) _ hN (by simp) ?_ ?_
  · intro i x hx hi
    have w1 := wrap_succ (i := i) (by omega)
    have hc' := hc x (mem_of_get hx)
    have hx' := (List.getElem?_eq_some_iff.1 hx).2
    have ht := avL_take_succ hx
    have hm : min i n.l.length = i := by omega
    have hq : (i + 1) * 80 ≤ 140737488355328 := by omega
    have hq2 : i + 1 ≤ 140737488355328 := by omega
    have hr : i = 0 ∨ ¬ i = 0 := Decidable.em _
    cases hns : n.ns <;> simp -implicitDefEqProofs [c51b0, nmr, nmv, z6, rowA, hi, hx', hc', w1, hm, hq, hq2, ht, hr]
  · cases hns : n.ns <;> simp -implicitDefEqProofs [c51b0, nmr, nmv, z6]
theorem ev51 (n : Nd) (hb : bk n ≤ big) (hN : n.l.length < N) (hc : ∀ x ∈ n.l, ∀ M, cl 51 [av x] M = some (av x, M)) (h74 : ∀ M, cl 74 [.slc .shared (n.ns.map .str)] M = cl74 n.ns M) :
    pureA G false cl noYl N c51 [av n] = some (av n, none) := by
  have h1 := ev51_loop (G := G) (cl := cl) n hb hN hc
  cases hns : n.ns with
  | nil =>
    rw [hns] at h74
    simp -implicitDefEqProofs [cl74] at h74
    simp [nmr, nmv, hns, z6, avL, rowA] at h1
    simp -implicitDefEqProofs [c51, hns, h1, h74, ndc_eq]
    simp [av_ndc, ndc_eq, hns]
  | cons s ns =>
    rw [hns] at h74
    simp -implicitDefEqProofs [cl74] at h74
    simp [nmr, nmv, hns, z6, avL, rowA] at h1
    simp -implicitDefEqProofs [c51, hns, h1, h74, ndc_eq]
    simp [av_ndc, ndc_eq, hns]
end Go.Proofs.Ae
namespace Go.Proofs.Ae
open Go
variable {G : Nat → Option AV} {cl : Caller} {N : Nat}
mutual
def sameN : Nd → Nd → Bool
  | .mk o ns s n m l, .mk o' ns' s' n' m' l' => o == o' && s == s' && n == n' && m == m' && ns == ns' && sameL l l'
def sameL : List Nd → List Nd → Bool
  | [], [] => true
  | x :: xs, y :: ys => sameN x y && sameL xs ys
  | _, _ => false
end
mutual
theorem sameN_iff : ∀ a b : Nd, sameN a b = true ↔ a = b
  | .mk o ns s n m l, .mk o' ns' s' n' m' l' => by
    have := sameL_iff l l'
    simp only [sameN, Bool.and_eq_true, beq_iff_eq, this, Nd.mk.injEq]
    constructor <;> (intro h; simp_all)
theorem sameL_iff : ∀ a b : List Nd, sameL a b = true ↔ a = b
  | [], [] => by simp [sameL]
  | [], _ :: _ => by simp [sameL]
  | _ :: _, [] => by simp [sameL]
  | x :: xs, y :: ys => by simp [sameL, sameN_iff x y, sameL_iff xs ys]
end
theorem sameN_eq (a b : Nd) : sameN a b = (a.op == b.op && a.so == b.so && a.nn == b.nn && a.mm == b.mm && a.ns == b.ns && sameL a.l b.l) := by cases a; cases b; rfl
theorem sameL_zip : ∀ (a b : List Nd), a.length = b.length → sameL a b = ((a.zip b).findSome? (fun p => if sameN p.1 p.2 then none else some ())).isNone
  | [], [], _ => rfl
  | x :: xs, y :: ys, h => by
    simp only [sameL, List.zip_cons_cons, List.findSome?_cons]
    cases sameN x y <;> simp
    exact sameL_zip xs ys (by simpa using h)
theorem strs_zip : ∀ (a b : List Str), a.length = b.length → (a == b) = ((a.zip b).findSome? (fun p => if p.1 == p.2 then none else some ())).isNone
  | [], [], _ => rfl
  | x :: xs, y :: ys, h => by
    have := strs_zip xs ys (by simpa using h)
    simp only [List.zip_cons_cons, List.findSome?_cons, List.cons_beq_cons, this]
    cases hxy : x == y <;> simp
theorem zip_get {α β : Type} {a : List α} {b : List β} {i : Nat} {p : α × β} (h : (a.zip b)[i]? = some p) : a[i]? = some p.1 ∧ b[i]? = some p.2 := by
  rw [List.getElem?_zip_eq_some] at h; exact h
theorem ev19 (a b : Nd) (ha : bk a ≤ big) (hb : bk b ≤ big) (hN : bk a < N) (hc : ∀ x ∈ a.l, ∀ y ∈ b.l, ∀ M, cl 19 [av x, av y] M = some (.bool (sameN x y), M)) :
    pureA G false cl noYl N c19 [av a, av b] = some (.bool (sameN a b), none) := by
  have hlen := len_bk a
  have hnl := names_bk a
  unfold big at ha hb
  rw [sameN_eq]
  by_cases h1 : ¬ a.op = b.op
  · have : (a.op == b.op) = false := by simpa using h1
    have hq : (a.op != b.op) = true := by simpa using h1
    simp -implicitDefEqProofs [c19, hq, this]
  have h1 := Decidable.not_not.1 h1
  by_cases h2 : ¬ a.so = b.so
  · have : (a.so == b.so) = false := by simpa using h2
    have hq : (a.so != b.so) = true := by simpa using h2
    simp -implicitDefEqProofs [c19, h1, hq, this]
  have h2 := Decidable.not_not.1 h2
  by_cases h3 : ¬ a.nn = b.nn
  · have : (a.nn == b.nn) = false := by simpa using h3
    have hq : (a.nn != b.nn) = true := by simpa using h3
    simp -implicitDefEqProofs [c19, h1, h2, hq, this]
  have h3 := Decidable.not_not.1 h3
  by_cases h4 : ¬ a.mm = b.mm
  · have : (a.mm == b.mm) = false := by simpa using h4
    have hq : (a.mm != b.mm) = true := by simpa using h4
    simp -implicitDefEqProofs [c19, h1, h2, h3, hq, this]
  have h4 := Decidable.not_not.1 h4
  by_cases h5 : ¬ a.ns.length = b.ns.length
  · have : (a.ns == b.ns) = false := by
      cases h : a.ns == b.ns with
      | false => rfl
      | true => exact absurd (by rw [eq_of_beq h]) h5
    have k : ((a.ns.length : Int) != (b.ns.length : Int)) = true := by simp; omega
    simp -implicitDefEqProofs [c19, h1, h2, h3, h4, k, this]
  have h5 := Decidable.not_not.1 h5
  by_cases h6 : ¬ a.l.length = b.l.length
  · have : sameL a.l b.l = false := by
      cases h : sameL a.l b.l with
      | false => rfl
      | true => exact absurd (by rw [(sameL_iff _ _).1 h]) h6
    have k : ((a.l.length : Int) != (b.l.length : Int)) = true := by simp; omega
    have k5 : ((a.ns.length : Int) = (b.ns.length : Int)) := by omega
    simp -implicitDefEqProofs [c19, h1, h2, h3, h4, k5, k, this]
  have h6 := Decidable.not_not.1 h6
  have k5 : ((a.ns.length : Int) != (b.ns.length : Int)) = false := by simp; omega
  have k6 : ((a.l.length : Int) != (b.l.length : Int)) = false := by simp; omega
  have h1' : (a.op != b.op) = false := by simp [h1]
  have h2' : (a.so != b.so) = false := by simp [h2]
  have h3' : (a.nn != b.nn) = false := by simp [h3]
  have h4' : (a.mm != b.mm) = false := by simp [h4]
  have z5 : (a.ns.zip b.ns).length = a.ns.length := by simp [h5]
  have z6' : (a.l.zip b.l).length = a.l.length := by simp [h6]
  have l1 := iter_find (mu := false) (step := evalC G false cl noYl N c19b0) (an := ⟨[2, 3, 5], [(5, none)]⟩) (k := 2) (m := 0) (N := N) (a.ns.zip b.ns) (fun p => if p.1 == p.2 then none else some ())
    (fun i => ⟨[(2, .ptr 0 0), (3, .ptr 1 0), (5, .int .i64 (i : Int))], ⟨[.cells (ndc a), .cells (ndc b)], []⟩, []⟩) (fun _ e s' => e = .ret ∧ look 4 s'.ts = .bool false ∧ s'.mks = []) (.exit 0)
    ⟨[(55, .bool false), (54, .int .i64 a.ns.length), (53, .slc .shared (a.ns.map .str)), (52, .ptr 0 1), (51, .int .i64 a.ns.length), (2, .ptr 0 0), (3, .ptr 1 0), (5, .int .i64 a.ns.length)], ⟨[.cells (ndc a), .cells (ndc b)], []⟩, []⟩ (by rw [z5]; omega) (by simp) ?_ ?_
  · have l2 := iter_find (mu := false) (step := evalC G false cl noYl N c19b1) (an := ⟨[2, 3, 6], [(6, none)]⟩) (k := 2) (m := 0) (N := N) (a.l.zip b.l) (fun p => if sameN p.1 p.2 then none else some ())
      (fun i => ⟨[(2, .ptr 0 0), (3, .ptr 1 0), (6, .int .i64 (i : Int))], ⟨[.cells (ndc a), .cells (ndc b)], []⟩, []⟩) (fun _ e s' => e = .ret ∧ look 4 s'.ts = .bool false ∧ s'.mks = []) (.exit 2)
      ⟨[(73, .bool false), (72, .int .i64 a.l.length), (71, .slc .shared (avL a.l)), (70, .ptr 0 5), (69, .int .i64 a.l.length), (2, .ptr 0 0), (3, .ptr 1 0), (6, .int .i64 a.l.length)], ⟨[.cells (ndc a), .cells (ndc b)], []⟩, []⟩ (by rw [z6']; omega) (by simp) ?_ ?_
    · rw [strs_zip _ _ h5, sameL_zip _ _ h6]
      have e1 : (a.op == b.op && a.so == b.so && a.nn == b.nn && a.mm == b.mm) = true := by simp [h1, h2, h3, h4]
      rw [e1, Bool.true_and]
      cases hf : (a.ns.zip b.ns).findSome? (fun p => if p.1 == p.2 then none else some ()) with
      | some r =>
        rw [hf] at l1
        obtain ⟨e, s', q1, -, rfl, q2, q3⟩ := l1
        simp at q1
        simp -implicitDefEqProofs [c19, h1', h2', h3', h4', k5, k6, q1, q2, q3]
      | none =>
        rw [hf] at l1
        simp at l1
        cases hf2 : (a.l.zip b.l).findSome? (fun p => if sameN p.1 p.2 then none else some ()) with
        | some r =>
          rw [hf2] at l2
          obtain ⟨e, s', q1, -, rfl, q2, q3⟩ := l2
          simp at q1
          simp -implicitDefEqProofs [c19, h1', h2', h3', h4', k5, k6, l1, q1, q2, q3]
        | none =>
          rw [hf2] at l2
          simp at l2
          simp -implicitDefEqProofs [c19, h1', h2', h3', h4', k5, k6, l1, l2]
    · intro i p hp hi
      obtain ⟨x, y⟩ := p
      obtain ⟨p1, p2⟩ := zip_get hp
      rw [z6'] at hi
      have hib : i < b.l.length := by omega
      have w1 := wrap_succ (i := i) (by omega)
      have hc' := hc x (mem_of_get p1) y (mem_of_get p2)
      have hx' := (List.getElem?_eq_some_iff.1 p1).2
      have hy' := (List.getElem?_eq_some_iff.1 p2).2
      simp only at hx' hy'
      cases hs : sameN x y <;> simp -implicitDefEqProofs [c19b1, hi, hib, hx', hy', hc', hs, w1]
    · rw [z6']; simp -implicitDefEqProofs [c19b1]
  · intro i p hp hi
    obtain ⟨x, y⟩ := p
    obtain ⟨p1, p2⟩ := zip_get hp
    rw [z5] at hi
    have hib : i < b.ns.length := by omega
    have w1 := wrap_succ (i := i) (by omega)
    have hx' := (List.getElem?_eq_some_iff.1 p1).2
    have hy' := (List.getElem?_eq_some_iff.1 p2).2
    simp only at hx' hy'
    cases hs : x == y <;> simp -implicitDefEqProofs [c19b0, strA, hi, hib, hx', hy', hs, w1]
  · rw [z5]; simp -implicitDefEqProofs [c19b0]
end Go.Proofs.Ae
namespace Go.Proofs.Ae
open Go
variable {G : Nat → Option AV} {cl : Caller} {N N0 : Nat}
def isQ (n : Nd) : Bool := (n.op == 16 || n.op == 17) && n.ns.length == 1 && n.l.length == 1
theorem int_eq1 (n : Nat) : ((n : Int) == 1) = (n == 1) := by rw [Bool.eq_iff_iff]; simp; omega
theorem ev50 (n : Nd) : pureA G false cl noYl N c50 [av n] = some (.bool (isQ n), none) := by
  unfold isQ
  cases h1 : (n.op == 16) <;> cases h2 : (n.op == 17) <;> cases h3 : (n.ns.length == 1) <;> cases h4 : (n.l.length == 1)
  all_goals
    have k3 := int_eq1 n.ns.length
    have k4 := int_eq1 n.l.length
    rw [h3] at k3
    rw [h4] at k4
    simp -implicitDefEqProofs [c50, h1, h2, k3, k4]
theorem ev53 (o : Int) (s : Str) (so : Int) (n : Nd) : pureA G false cl noYl N c53 [.int .i64 o, .str s, .int .i64 so, av n] = some (av (.mk o [s] so 0 0 [n]), none) := by
  simp -implicitDefEqProofs [c53, av, avL]
structure Qf where
  op : Int
  nm : Str
  so : Int
def qv (q : Qf) : AV := .agg [.int .i64 q.op, .str q.nm, .int .i64 q.so]
def child (n : Nd) : Nd := match n.l with
  | x :: _ => x
  | [] => n
def qOf (n : Nd) : Qf := ⟨n.op, n.ns.headD [], n.so⟩
def spl : Nat → Nd → List Qf × Nd
  | 0, n => ([], n)
  | k + 1, n => match isQ n with
    | true => (qOf n :: (spl k (child n)).1, (spl k (child n)).2)
    | false => ([], n)
theorem isQ_child {n : Nd} (h : isQ n = true) : child n ∈ n.l ∧ n.l[0]? = some (child n) ∧ n.ns[0]? = some (n.ns.headD []) ∧ n.l.length = 1 ∧ n.ns.length = 1 := by
  unfold isQ at h
  simp only [Bool.and_eq_true, beq_iff_eq] at h
  obtain ⟨⟨h1, h2⟩, h3⟩ := h
  unfold child
  cases hl : n.l with
  | nil => rw [hl] at h3; simp at h3
  | cons x l =>
    cases hn : n.ns with
    | nil => rw [hn] at h2; simp at h2
    | cons s ns => rw [hl] at h3; rw [hn] at h2; simp at h2 h3; simp [h2, h3]
@[simp] theorem szOk_agg (k : Nat) (cs l : List AV) : szOk k (.agg cs :: l) = decide (cs.length = k) := rfl
@[simp] theorem szOk_qv (q : Qf) (l : List AV) : szOk 3 (qv q :: l) = true := rfl
@[simp] theorem szOk_qvs (l : List Qf) : szOk 3 (l.map qv) = true := by cases l <;> rfl
@[simp] theorem pureV_qv (q : Qf) : pureV (qv q) = some (qv q) := rfl
@[simp] theorem cells_qv (q : Qf) : cells (qv q) = some [.int .i64 q.op, .str q.nm, .int .i64 q.so] := rfl
@[simp] theorem drop_ndc (n : Nd) : (ndc n).drop 6 = [] := by cases n; rfl
def S17 (acc : List Qf) (n : Nd) : St := ⟨[(1, .ptr 0 0), (3, .ptr 1 0), (4, .slc (.own 0) (acc.map qv))], ⟨[.cells (ndc n), .cells z6], [rowA acc.length 47 3]⟩, []⟩
theorem ev17_step (n : Nd) (acc : List Qf) (hq : isQ n = true) (ha : acc.length < big) (h50 : ∀ M, cl 50 [av n] M = some (.bool (isQ n), M)) :
    Post (fun e s' => e = .normal ∧ tidy false ⟨[1, 3, 4], [(4, none)]⟩ 2 1 s' = S17 (acc ++ [qOf n]) (child n)) (evalC G false cl noYl N c17b0 (S17 acc n)) := by
  obtain ⟨q1, q2, q3, q4, q5⟩ := isQ_child hq
  unfold big at ha
  have hx := (List.getElem?_eq_some_iff.1 q2).2
  have hs := (List.getElem?_eq_some_iff.1 q3).2
  have b1 : (acc.length + 1) * 32 ≤ 140737488355328 := by omega
  have b2 : acc.length + 1 ≤ 140737488355328 := by omega
  have hr : acc = [] ∨ ¬ acc = [] := by cases acc <;> simp
  simp -implicitDefEqProofs [S17, c17b0, z6, h50, hq, q4, q5, hx, hs, rowA, b1, b2, hr, qOf, qv]
theorem ev17_loop (h50 : ∀ n M, cl 50 [av n] M = some (.bool (isQ n), M)) : ∀ (k : Nat) (n : Nd) (acc : List Qf) (N : Nat), sz n ≤ k → k < N → acc.length + k < big →
    iter false (evalC G false cl noYl N0 c17b0) ⟨[1, 3, 4], [(4, none)]⟩ 2 1 N (S17 acc n) = some (.exit 0, ⟨(6, .bool false) :: (5, av (spl k n).2) :: (S17 (acc ++ (spl k n).1) (spl k n).2).ts, (S17 (acc ++ (spl k n).1) (spl k n).2).m, []⟩)
  | 0, n, acc, N, hs, _, _ => by have := sz_eq n; omega
  | k + 1, n, acc, 0, _, hN, _ => by omega
  | k + 1, n, acc, N + 1, hs, hN, ha => by
    cases hq : isQ n with
    | true =>
      have hc := isQ_child hq
      have hlt := sz_child hc.1
      obtain ⟨e, s', h1, rfl, h2⟩ := (ev17_step (G := G) (N := N0) n acc hq (by omega) (h50 n)).out
      have := ev17_loop h50 k (child n) (acc ++ [qOf n]) N (by omega) (by omega) (by simp; omega)
      simp only [iter, h1, h2, this, spl, hq]
      simp
    | false =>
      have h1 : evalC G false cl noYl N0 c17b0 (S17 acc n) = some (.exit 0, ⟨(6, .bool false) :: (5, av n) :: (S17 acc n).ts, (S17 acc n).m, []⟩) := by
        simp -implicitDefEqProofs [S17, c17b0, z6, h50, hq, rowA]
      simp only [iter, h1, spl, hq]
      simp
theorem ev17 (n : Nd) (hb : bk n ≤ big) (hN : sz n < N) (hb2 : sz n < big) (h50 : ∀ n M, cl 50 [av n] M = some (.bool (isQ n), M)) (h51 : ∀ M, cl 51 [av (spl (sz n) n).2] M = some (av (spl (sz n) n).2, M)) :
    pureA G false cl noYl N c17 [av n] = some (.tup [.slc .shared ((spl (sz n) n).1.map qv), av (spl (sz n) n).2], none) := by
  have h1 := ev17_loop (G := G) (N0 := N) h50 (sz n) n [] N (Nat.le_refl _) hN (by simpa using hb2)
  simp [S17, z6, rowA] at h1
  simp -implicitDefEqProofs [c17, h1, h51]
def S18 (acc : List Qf) (n : Nd) : St := ⟨[(1, .ptr 0 0), (3, .ptr 1 0), (4, .slc (.own 0) (acc.map qv))], ⟨[.cells (ndc n), .cells z6], [rowA acc.length 48 3]⟩, []⟩
theorem ev18_step (n : Nd) (acc : List Qf) (hq : isQ n = true) (ha : acc.length < big) :
    Post (fun e s' => e = .normal ∧ tidy false ⟨[1, 3, 4], [(4, none)]⟩ 2 1 s' = S18 (acc ++ [qOf n]) (child n)) (evalC G false cl noYl N c18b0 (S18 acc n)) := by
  obtain ⟨q1, q2, q3, q4, q5⟩ := isQ_child hq
  unfold big at ha
  have hx := (List.getElem?_eq_some_iff.1 q2).2
  have hs := (List.getElem?_eq_some_iff.1 q3).2
  have b1 : (acc.length + 1) * 32 ≤ 140737488355328 := by omega
  have b2 : acc.length + 1 ≤ 140737488355328 := by omega
  have hr : acc = [] ∨ ¬ acc = [] := by cases acc <;> simp
  unfold isQ at hq
  simp only [Bool.and_eq_true, Bool.or_eq_true] at hq
  rcases hq.1.1 with ho | ho
  · simp -implicitDefEqProofs [S18, c18b0, z6, ho, q4, q5, hx, hs, rowA, b1, b2, hr, qOf, qv]
  · cases ho2 : n.op == 16 <;> simp -implicitDefEqProofs [S18, c18b0, z6, ho, ho2, q4, q5, hx, hs, rowA, b1, b2, hr, qOf, qv]
theorem ev18_end (n : Nd) (acc : List Qf) (hq : isQ n = false) :
    Post (fun e s' => e = .exit 0 ∧ look 4 s'.ts = .slc (.own 0) (acc.map qv) ∧ look 1 s'.ts = .ptr 0 0 ∧ look 3 s'.ts = .ptr 1 0 ∧ s'.m = (S18 acc n).m ∧ s'.mks = []) (evalC G false cl noYl N c18b0 (S18 acc n)) := by
  unfold isQ at hq
  cases h1 : (n.op == 16) <;> cases h2 : (n.op == 17) <;> cases h3 : (n.ns.length == 1) <;> cases h4 : (n.l.length == 1)
  all_goals
    have k3 := int_eq1 n.ns.length
    have k4 := int_eq1 n.l.length
    rw [h3] at k3
    rw [h4] at k4
    first
      | (simp [h1, h2, h3, h4] at hq; done)
      | simp -implicitDefEqProofs [S18, c18b0, z6, h1, h2, k3, k4, rowA]
theorem ev18_loop : ∀ (k : Nat) (n : Nd) (acc : List Qf) (N : Nat), sz n ≤ k → k < N → acc.length + k < big →
    Post (fun e s' => e = .exit 0 ∧ look 4 s'.ts = .slc (.own 0) ((acc ++ (spl k n).1).map qv) ∧ look 1 s'.ts = .ptr 0 0 ∧ look 3 s'.ts = .ptr 1 0 ∧ s'.m = (S18 (acc ++ (spl k n).1) (spl k n).2).m ∧ s'.mks = [])
      (iter false (evalC G false cl noYl N0 c18b0) ⟨[1, 3, 4], [(4, none)]⟩ 2 1 N (S18 acc n))
  | 0, n, acc, N, hs, _, _ => by have := sz_eq n; omega
  | k + 1, n, acc, 0, _, hN, _ => by omega
  | k + 1, n, acc, N + 1, hs, hN, ha => by
    cases hq : isQ n with
    | true =>
      have hc := isQ_child hq
      have hlt := sz_child hc.1
      obtain ⟨e, s', h1, rfl, h2⟩ := (ev18_step (G := G) (cl := cl) (N := N0) n acc hq (by omega)).out
      have := ev18_loop k (child n) (acc ++ [qOf n]) N (by omega) (by omega) (by simp; omega)
      simp only [iter, h1, h2, spl, hq]
      simpa using this
    | false =>
      obtain ⟨e, s', h1, rfl, h2⟩ := (ev18_end (G := G) (cl := cl) (N := N0) n acc hq).out
      simp only [iter, h1, spl, hq]
      simpa [Post] using h2
theorem ev18 (n : Nd) (hN : sz n < N) (hb2 : sz n < big) :
    pureA G false cl noYl N c18 [av n] = some (.tup [.slc .shared ((spl (sz n) n).1.map qv), av (spl (sz n) n).2], none) := by
  obtain ⟨e, s', h1, rfl, h2, h3, h4, h5, h6⟩ := (ev18_loop (G := G) (cl := cl) (N0 := N) (sz n) n [] N (Nat.le_refl _) hN (by simpa using hb2)).out
  simp [S18, z6, rowA] at h1 h2 h5
  simp -implicitDefEqProofs [c18, h1, h2, h3, h4, h5, h6]
end Go.Proofs.Ae
namespace Go.Proofs.Ae
open Go
variable {G : Nat → Option AV} {cl : Caller} {N N0 : Nat}
def wth (l : List Qf) (n : Nd) : Nd := l.foldr (fun q m => .mk q.op [q.nm] q.so 0 0 [m]) n
def ix (len j : Nat) : Int := (len : Int) - 1 - j
def wc (l : List Qf) (n : Nd) : List AV := match l with
  | [] => ndc n
  | q :: r => [.int .i64 q.op, .slc .full [.str q.nm], .int .i64 q.so, .int .i64 0, .int .i64 0, .slc .full [av (wth r n)]]
theorem wc_nil (n : Nd) : wc [] n = ndc n := rfl
theorem wc_len (l : List Qf) (n : Nd) : (wc l n).length = 6 := by cases l <;> simp [wc]
theorem pureL_ndc (n : Nd) : pureL (ndc n) = some (ndc n) := by cases n; rfl
theorem wc_pure (l : List Qf) (n : Nd) : pureL (wc l n) = some (ndc (wth l n)) := by
  cases l with
  | nil => exact pureL_ndc n
  | cons q r => simp [wc, wth, ndc, avL]
theorem deepL_ndc (M : Mem) (f : Nat) (n : Nd) : deepL M (f + 7) (ndc n) = some (ndc n) := by cases n; rfl
theorem wc_deepL (M : Mem) (f : Nat) (l : List Qf) (n : Nd) (hf : 7 ≤ f) : deepL M f (wc l n) = some (ndc (wth l n)) := by
  obtain ⟨g, rfl⟩ : ∃ g, f = g + 7 := ⟨f - 7, by omega⟩
  cases l with
  | nil => exact deepL_ndc M g n
  | cons q r => simp [wc, wth, ndc, avL]
theorem wc_scr (k m : Nat) (l : List Qf) (n : Nd) : scrL k m (wc l n) = wc l n := by cases l <;> simp [wc]
theorem wc_take (l : List Qf) (n : Nd) : (wc l n).take 6 = wc l n := by cases l <;> simp [wc]
theorem wc_drop (l : List Qf) (n : Nd) : (wc l n).drop 6 = [] := by cases l <;> simp [wc]
theorem ev22_loop (l : List Qf) (n : Nd) (hl : l.length < big) (hN : l.length < N) :
    iter false (evalC G false cl noYl N0 c22b0) ⟨[0, 3, 4, 5], [(5, none)]⟩ 2 0 N ⟨[(0, .slc .shared (l.map qv)), (3, .ptr 0 0), (4, .ptr 1 0), (5, .int .i64 (ix l.length 0))], ⟨[.cells (wc (l.drop (l.length - 0)) n), .cells z6], []⟩, []⟩ =
      some (.exit 0, ⟨[(10, .bool false), (9, .int .i64 (ix l.length l.length)), (0, .slc .shared (l.map qv)), (3, .ptr 0 0), (4, .ptr 1 0), (5, .int .i64 (ix l.length l.length))], ⟨[.cells (wc l n), .cells z6], []⟩, []⟩) := by
  unfold big at hl
  refine iter_all l (fun j => ⟨[(0, .slc .shared (l.map qv)), (3, .ptr 0 0), (4, .ptr 1 0), (5, .int .i64 (ix l.length j))], ⟨[.cells (wc (l.drop (l.length - j)) n), .cells z6], []⟩, []⟩) (.exit 0) _ hN (by simp) ?_ ?_
  · intro j _ _ hj
    obtain ⟨i, hi⟩ : ∃ i, l.length = j + 1 + i := ⟨l.length - j - 1, by omega⟩
    have hil : i < l.length := by omega
    have e1 : ix l.length j = (i : Int) := by unfold ix; omega
    have w1 : wrapF .i64 ((i : Int) - 1) = ix l.length (j + 1) := by rw [wrap_id (by omega) (by omega)]; unfold ix; omega
    have d1 : l.drop (l.length - (j + 1)) = l[i] :: l.drop (l.length - j) := by
      have a1 : l.length - (j + 1) = i := by omega
      have a2 : l.length - j = i + 1 := by omega
      rw [a1, a2, List.drop_eq_getElem_cons hil]
    simp only [d1]
    generalize l.drop (l.length - j) = r
    have hp : (0 : Int) ≤ (i : Int) := by omega
    simp -implicitDefEqProofs [c22b0, z6, e1, w1, hp, hil, wc_len, wc_pure, wc_take, wc_drop, wc_scr]
    simp [wc]
  · have e1 : decide (ix l.length l.length ≥ 0) = false := by simp [ix]; omega
    simp -implicitDefEqProofs [c22b0, z6, e1, wc_scr]
theorem ev22 (l : List Qf) (n : Nd) (hl : l.length < big) (hN : l.length < N) : pureA G false cl noYl N c22 [.slc .shared (l.map qv), av n] = some (av (wth l n), none) := by
  have h1 := ev22_loop (G := G) (cl := cl) (N0 := N) l n hl hN
  unfold big at hl
  have w0 : wrapF .i64 ((l.length : Int) - 1) = ix l.length 0 := by rw [wrap_id (by omega) (by omega)]; simp [ix]
  simp [z6, wc_nil] at h1
  simp -implicitDefEqProofs [c22, h1, w0, wc_len, wc_take, wc_drop, wc_deepL]
  cases wth l n; rfl
end Go.Proofs.Ae
namespace Go.Proofs.Ae
open Go
variable {G : Nat → Option AV} {cl : Caller} {yl : Nat → List AV → Mem → Option (AV × Mem)} {N N0 : Nat}
theorem c_rng' {mu : Bool} (x : Opd) (ps : List Nat) (asg body : CCode) (s : St) : evalC G mu cl yl N (.rng x ps asg body) s = (match target (x.val G s.ts) [.yld (s.m.objs.length + 1)] with
    | some (f, as) => match cl f as (newObj (newObj s.m .mark) (.loop true none s.ts ps asg body)) with
      | some (_, M) => match M.objs[s.m.objs.length + 1]? with
        | some (.loop true none _ _ _ _) => some (.normal, ⟨s.ts, setObj M (s.m.objs.length + 1) .dead, s.m.objs.length :: s.mks⟩)
        | some (.loop false (some e) _ _ _ _) => some (e, ⟨s.ts, setObj M (s.m.objs.length + 1) .dead, s.m.objs.length :: s.mks⟩)
        | _ => none
      | none => none
    | none => none) := by simp only [evalC]; rfl
def ts21 (l : List Qf) (n : Nd) : Slots := [(10, .fn 89 [] [.ptr 2 0]), (9, .slc .shared (l.map qv)), (8, av n), (7, av n), (4, .ptr 1 0), (3, .ptr 0 0), (0, .slc .shared (l.map qv)), (1, av n)]
def M21 (l : List Qf) (n : Nd) (r : List Qf) : Mem := ⟨[.cells (ndc (wth r n)), .cells z6, .cells [.slc .shared (l.map qv)], .mark, .loop true none (ts21 l n) [11, 12] c21r0a c21r0b], []⟩
theorem yield21 (l r : List Qf) (n : Nd) (i : Int) (q : Qf) (h53 : ∀ M, cl 53 [.int .i64 q.op, .str q.nm, .int .i64 q.so, av (wth r n)] M = some (av (.mk q.op [q.nm] q.so 0 0 [wth r n]), M)) :
    yieldA G false cl yl N 4 [.int .i64 i, qv q] (M21 l n r) = some (.bool true, ⟨(M21 l n (q :: r)).objs ++ [.cells [.int .i64 q.op, .str q.nm, .int .i64 q.so]], []⟩) := by
  simp -implicitDefEqProofs [yieldA, M21, ts21, c21r0a, c21r0b, setPs, h53, z6]
  rfl
theorem ev89_loop (l : List Qf) (n : Nd) (hl : l.length < big) (hN : l.length < N)
    (hy : ∀ (r : List Qf) (i : Int) (q : Qf), yl 4 [.int .i64 i, qv q] (M21 l n r) = some (.bool true, ⟨(M21 l n (q :: r)).objs ++ [.cells [.int .i64 q.op, .str q.nm, .int .i64 q.so]], []⟩)) :
    iter false (evalC G false cl yl N0 c89b0) ⟨[0, 1, 3], [(3, none)]⟩ 5 0 N ⟨[(0, .yld 4), (1, .ptr 2 0), (3, .int .i64 (ix l.length 0))], M21 l n (l.drop (l.length - 0)), []⟩ =
      some (.exit 0, ⟨[(8, .bool false), (7, .int .i64 (ix l.length l.length)), (0, .yld 4), (1, .ptr 2 0), (3, .int .i64 (ix l.length l.length))], M21 l n l, []⟩) := by
  unfold big at hl
  refine iter_all l (fun j => ⟨[(0, .yld 4), (1, .ptr 2 0), (3, .int .i64 (ix l.length j))], M21 l n (l.drop (l.length - j)), []⟩) (.exit 0) _ hN (by simp) ?_ ?_
  · intro j _ _ hj
    obtain ⟨i, hi⟩ : ∃ i, l.length = j + 1 + i := ⟨l.length - j - 1, by omega⟩
    have hil : i < l.length := by omega
    have e1 : ix l.length j = (i : Int) := by unfold ix; omega
    have w1 : wrapF .i64 ((i : Int) - 1) = ix l.length (j + 1) := by rw [wrap_id (by omega) (by omega)]; unfold ix; omega
    have d1 : l.drop (l.length - (j + 1)) = l[i] :: l.drop (l.length - j) := by
      have a1 : l.length - (j + 1) = i := by omega
      have a2 : l.length - j = i + 1 := by omega
      rw [a1, a2, List.drop_eq_getElem_cons hil]
    simp only [d1]
    generalize l.drop (l.length - j) = r
    have hp : (0 : Int) ≤ (i : Int) := by omega
    have hy' := hy r (i : Int) l[i]
    have hld : (M21 l n r).objs[2]? = some (.cells [.slc .shared (l.map qv)]) := rfl
    have hq : AV.agg [.int .i64 l[i].op, .str l[i].nm, .int .i64 l[i].so] = qv l[i] := rfl
    simp -implicitDefEqProofs [c89b0, e1, w1, hp, hil, hld, hq, hy']
    simp [M21, ts21, scrT, z6]
  · have e1 : decide (ix l.length l.length ≥ 0) = false := by simp [ix]; omega
    simp -implicitDefEqProofs [c89b0, e1]
theorem ev21 {T : Table} (l : List Qf) (n : Nd) (hl : l.length < big) (hN : l.length < N) (hT52 : T.fns 52 = some c52) (hT89 : T.fns 89 = some c89) (hO52 : ∀ as, T.orc 52 as = none) (hO89 : ∀ as, T.orc 89 as = none) (hm : ∀ f, T.mutf f = false)
    (h51 : T.orc 51 [av n] = some (av n, none)) (h53 : ∀ (q : Qf) (m : Nd), T.orc 53 [.int .i64 q.op, .str q.nm, .int .i64 q.so, av m] = some (av (.mk q.op [q.nm] q.so 0 0 [m]), none)) :
    pureA G false (both G T N false 3).1 (both G T N false 3).2 N c21 [.slc .shared (l.map qv), av n] = some (av (wth l n), none) := by
  have h2 : ∀ (k : Nat) (q : Qf) (r : List Qf) (M : Mem), (both G T N false (k + 1)).1 53 [.int .i64 q.op, .str q.nm, .int .i64 q.so, av (wth r n)] M = some (av (.mk q.op [q.nm] q.so 0 0 [wth r n]), M) := by
    intro k q r M
    simp [both, h53]
  have b51 : ∀ M, (both G T N false 3).1 51 [av n] M = some (av n, M) := by
    intro M
    simp [both, h51]
  have b52 : ∀ M : Mem, (both G T N false 3).1 52 [.slc .shared (l.map qv)] M = some (.fn 89 [] [.ptr M.objs.length 0], ⟨M.objs ++ [.cells [.slc .shared (l.map qv)]], M.arrs⟩) := by
    intro M
    have hp : c52.pure = false := rfl
    simp [both, hO52, hT52, hp]
    simp -implicitDefEqProofs [c52]
  have b89 : (both G T N false 3).1 89 [.yld 4, .ptr 2 0] (M21 l n []) = some (.tup [], M21 l n l) := by
    have hp : c89.pure = false := rfl
    have h1 := ev89_loop (G := G) (cl := (both G T N false 2).1) (yl := (both G T N false 2).2) (N := N) (N0 := N) l n hl hN (fun r i q => by
      have := yield21 (G := G) (cl := (both G T N false 1).1) (yl := (both G T N false 1).2) (N := N) l r n i q (fun M => h2 0 q r M)
      simpa [both] using this)
    unfold big at hl
    have w0 : wrapF .i64 ((l.length : Int) - 1) = ix l.length 0 := by rw [wrap_id (by omega) (by omega)]; simp [ix]
    simp [M21, ts21, z6] at h1
    have e : (both G T N false 3).1 89 [.yld 4, .ptr 2 0] (M21 l n []) = callA G false (both G T N false 2).1 (both G T N false 2).2 N c89 [.yld 4, .ptr 2 0] (M21 l n []) := by
      simp only [both, hO89, hT89, hp, Bool.false_and, Bool.false_eq_true, if_false]
    rw [e]
    simp -implicitDefEqProofs [c89, M21, ts21, z6, scrT, w0, h1]
  simp [M21, ts21, z6, wth] at b89
  simp -implicitDefEqProofs [c21, c_rng', b51, b52, b89]
  unfold wth
  generalize List.foldr (fun (q : Qf) m => Nd.mk q.op [q.nm] q.so 0 0 [m]) n l = m
  cases m; rfl
end Go.Proofs.Ae
