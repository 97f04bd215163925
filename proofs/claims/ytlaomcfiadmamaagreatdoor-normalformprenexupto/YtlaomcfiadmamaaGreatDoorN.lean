/- Further functions: what they answer, and what that means. -/
import Derived.Test.YtlaomcfiadmamaaGreatDoorP
set_option linter.unusedSimpArgs false
set_option linter.unusedVariables false
set_option linter.unusedSectionVars false
namespace Go.Proofs.Ae
open Go Go.RowKit
section
variable {G : Nat → Option AV} {cl : Caller} {yl : Nat → List AV → Mem → Option (AV × Mem)} {N : Nat}
theorem ev149 (s : Str) (hs : s.length < big) (hN : s.length < N) (hc : ∀ (c : UInt8) M, cl 166 [.int .u8 c.toNat] M = some (.bool (isRun c), M)) :
    pureA G false cl yl N c149 [.str s, .int .i64 0] = some (.int .i64 (cutN isRun s), none) := by
  unfold big at hs
  have hle := tw_le isRun s
  obtain ⟨e, ⟨ts, M, mks⟩, h1, h2, rfl, rfl, rfl, h5⟩ := iter_while (mu := false) (step := evalC G false cl yl N c149b0) (an := ⟨[0, 1, 5], [(5, none)]⟩) (kk := 0) (m := 0)
    (fun k st => ∃ i, i ≤ (s.takeWhile isRun).length ∧ k = (s.takeWhile isRun).length - i ∧ st = ⟨[(0, .str s), (1, .int .i64 0), (5, .int .i64 (i : Nat))], ⟨[], []⟩, []⟩)
    (fun e s' => e = .exit 0 ∧ s'.m = ⟨[], []⟩ ∧ s'.mks = [] ∧ look 5 s'.ts = .int .i64 (cutN isRun s))
    (by
      rintro k _ ⟨i, hi, rfl, rfl⟩
      by_cases hlt : i < (s.takeWhile isRun).length
      · obtain ⟨hx, hg⟩ := tw_get (List.getElem?_eq_getElem hlt)
        generalize (s.takeWhile isRun)[i] = x at hx hg
        obtain ⟨hil, hx'⟩ := List.getElem?_eq_some_iff.1 hx
        have w1 : wrapF .i64 ((i : Int) + 1) = ((i + 1 : Nat) : Int) := wrap_succ (by omega)
        have w0 : wrapF .i64 (i : Int) = (i : Int) := wrap_id (by omega) (by omega)
        have hp : (0 : Int) ≤ (i : Int) := by omega
        simp -implicitDefEqProofs [c149b0, hil, hx', hc, hg, w1, w0, hp]
        exact ⟨_, by omega, i + 1, by omega, rfl, by simp⟩
      · have hi' : i = (s.takeWhile isRun).length := by omega
        have w0 : wrapF .i64 ((s.takeWhile isRun).length : Int) = ((s.takeWhile isRun).length : Int) := wrap_id (by omega) (by omega)
        rcases tw_end (g := isRun) s with k | ⟨y, k1, k2⟩
        · have hil : ¬ i < s.length := by omega
          rw [k] at w0
          simp -implicitDefEqProofs [c149b0, hil, cutN, hi', k, w0]
        · obtain ⟨hil, hx'⟩ := List.getElem?_eq_some_iff.1 k1
          have hp : (0 : Int) ≤ ((s.takeWhile isRun).length : Int) := by omega
          simp -implicitDefEqProofs [c149b0, hil, hx', hi', hp, hc, k2, cutN, w0])
    N _ _ ⟨0, by omega, rfl, rfl⟩ (by omega)
  rw [show ((0 : Nat) : Int) = 0 from rfl] at h1
  simp only [] at h5
  simp -implicitDefEqProofs [c149, h1, h5]
theorem ev177 : pureA G false cl yl N c177 [] = some (.slc .full (kwL.map .str), none) := by
  simp -implicitDefEqProofs [c177, kwL]
theorem ev170 (s : Str) (hN : 26 < N) (h177 : ∀ M, cl 177 [] M = some (.slc .full (kwL.map .str), M)) : pureA G false cl yl N c170 [.str s] = some (.bool (kwL.contains s), none) := by
  have hl : kwL.length = 26 := rfl
  have hfd : (kwL.findSome? fun x => if x == s then some () else none).isSome = kwL.contains s := by
    generalize kwL = l
    induction l with
    | nil => rfl
    | cons x l ih =>
      rw [List.findSome?_cons, List.contains_cons]
      by_cases h : x = s
      · subst h; simp
      · have h1 : (x == s) = false := by simp [h]
        have h2 : (s == x) = false := by simp; exact fun e => h e.symm
        simp [h1, h2]; simpa using ih
  have l1 := iter_find (mu := false) (step := evalC G false cl yl N c170b0) (an := ⟨[0, 3, 4], [(4, none)]⟩) (k := 0) (m := 0) (N := N) kwL (fun x => if x == s then some () else none)
    (fun i => ⟨[(0, .str s), (3, .slc .full (kwL.map .str)), (4, .int .i64 (i : Int))], ⟨[], []⟩, []⟩) (fun _ e s' => e = .ret ∧ look 2 s'.ts = .bool true ∧ s'.mks = []) (.exit 0)
    ⟨[(9, .bool false), (8, .int .i64 26), (7, .slc .full (kwL.map .str)), (6, .int .i64 26), (0, .str s), (3, .slc .full (kwL.map .str)), (4, .int .i64 26)], ⟨[], []⟩, []⟩ (by rw [hl]; omega) (by simp) ?_ ?_
  · rw [← hfd]
    generalize hk : kwL.map AV.str = kv at *
    cases hf : kwL.findSome? fun x => if x == s then some () else none with
    | none =>
      rw [hf] at l1
      simp at l1
      simp -implicitDefEqProofs [c170, h177, l1]
    | some r =>
      rw [hf] at l1
      obtain ⟨e, s', q1, -, rfl, q2, q3⟩ := l1
      simp at q1
      simp -implicitDefEqProofs [c170, h177, q1, q2, q3]
  · intro i x hx hi
    have w1 := wrap_succ (i := i) (by omega)
    have hx' := (List.getElem?_eq_some_iff.1 hx).2
    cases hs : x == s <;> simp -implicitDefEqProofs [c170b0, strA, hi, hx', hs, w1]
  · rw [hl]; simp -implicitDefEqProofs [c170b0, hl]
theorem ev168 (s : Str) (h0 : s ≠ []) (hs : s.length < big) (hN : s.length < N) (hc : ∀ (c : UInt8) M, cl 167 [.int .u8 c.toNat] M = some (.bool (isDig c), M)) :
    ∃ v e, pureA G false cl yl N c168 [.str s] = some (.tup [.int .i64 v, .int .i64 e], none) := by
  unfold big at hs
  obtain ⟨e, ⟨ts, M, mks⟩, h1, h2, rfl, rfl, h5⟩ := iter_while (mu := false) (step := evalC G false cl yl N c168b0) (an := ⟨[0, 4], [(4, none)]⟩) (kk := 0) (m := 0)
    (fun k st => ∃ i, i ≤ s.length ∧ k = s.length - i ∧ (∀ c ∈ s.take i, isDig c = true) ∧ st = ⟨[(0, .str s), (4, .int .i64 (i : Nat))], ⟨[], []⟩, []⟩)
    (fun e s' => s'.m = ⟨[], []⟩ ∧ s'.mks = [] ∧ ((e = .exit 0 ∧ look 0 s'.ts = .str s ∧ ∀ c ∈ s, isDig c = true) ∨ (e = .ret ∧ look 2 s'.ts = .int .i64 0 ∧ look 3 s'.ts = .int .i64 3)))
    (by
      rintro k _ ⟨i, hi, rfl, hda, rfl⟩
      by_cases hil : i < s.length
      · have w1 : wrapF .i64 ((i : Int) + 1) = ((i + 1 : Nat) : Int) := wrap_succ (by omega)
        have hp : (0 : Int) ≤ (i : Int) := by omega
        cases hd : isDig s[i] with
        | true =>
          simp -implicitDefEqProofs [c168b0, hil, hc, hd, w1, hp]
          refine ⟨_, by omega, i + 1, by omega, rfl, ?_, by simp⟩
          intro c hcm
          rw [take_succ_of (List.getElem?_eq_getElem hil)] at hcm
          rcases List.mem_append.1 hcm with h | h
          · exact hda c h
          · simp at h; rw [h]; exact hd
        | false => simp -implicitDefEqProofs [c168b0, hil, hc, hd, hp]
      · have : i = s.length := by omega
        subst this
        rw [List.take_length] at hda
        simp -implicitDefEqProofs [c168b0, hil]
        exact hda)
    N _ _ ⟨0, by omega, rfl, by simp, rfl⟩ (by omega)
  rw [show ((0 : Nat) : Int) = 0 from rfl] at h1
  rcases h5 with ⟨rfl, h5, hall⟩ | ⟨rfl, h5, h6⟩
  · obtain ⟨c, r, rfl⟩ : ∃ c r, s = c :: r := by
      cases s with
      | nil => exact absurd rfl h0
      | cons c r => exact ⟨c, r, rfl⟩
    simp only [] at h5
    by_cases hz : (1 : Int) < (((c :: r).length : Nat) : Int) ∧ ((c.toNat : Int) == 48) = true
    · obtain ⟨hz1, hz2⟩ := hz
      simp at hz1
      exact ⟨0, 3, by simp -implicitDefEqProofs [c168, h1, h5, hz1, hz2]⟩
    · obtain ⟨e', ⟨ts', M', mks'⟩, k1, k2, rfl, rfl, k5⟩ := iter_while (mu := false) (step := evalC G false cl yl N c168b1) (an := ⟨[0, 5, 6], [(5, none), (6, none)]⟩) (kk := 0) (m := 0)
        (fun k st => ∃ i, ∃ v : Int, i ≤ (c :: r).length ∧ k = (c :: r).length - i ∧ (0 ≤ v ∧ v ≤ 2147483647) ∧ st = ⟨[(0, .str (c :: r)), (5, .int .i64 v), (6, .int .i64 (i : Nat))], ⟨[], []⟩, []⟩)
        (fun e s' => s'.m = ⟨[], []⟩ ∧ s'.mks = [] ∧ ((e = .exit 2 ∧ ∃ v, look 5 s'.ts = .int .i64 v) ∨ (e = .ret ∧ look 2 s'.ts = .int .i64 0 ∧ look 3 s'.ts = .int .i64 2)))
        (by
          rintro k _ ⟨i, v, hi, rfl, hv, rfl⟩
          by_cases hil : i < (c :: r).length
          · have w1 : wrapF .i64 ((i : Int) + 1) = ((i + 1 : Nat) : Int) := wrap_succ (by omega)
            have hp : (0 : Int) ≤ (i : Int) := by omega
            have hd := hall _ (List.getElem_mem hil)
            have hil' : i < r.length + 1 := by simpa using hil
            have hi' : (i : Int) < (r.length : Int) + 1 := by omega
            generalize hx : (c :: r)[i] = x at hd
            have hb : 48 ≤ x.toNat ∧ x.toNat ≤ 57 := by
              unfold isDig at hd
              simp at hd
              have h1 := UInt8.le_iff_toNat_le.1 hd.1
              have h2 := UInt8.le_iff_toNat_le.1 hd.2
              exact ⟨by simpa using h1, by simpa using h2⟩
            have w2 : wrapF .i64 (10 * v) = 10 * v := wrap_id (by omega) (by omega)
            have w3 : wrapF .i64 ((x.toNat : Nat) : Int) = (x.toNat : Int) := wrap_id (by omega) (by omega)
            have w4 : wrapF .i64 (10 * v + (x.toNat : Int)) = 10 * v + (x.toNat : Int) := wrap_id (by omega) (by omega)
            have w5 : wrapF .i64 (10 * v + (x.toNat : Int) - 48) = 10 * v + (x.toNat : Int) - 48 := wrap_id (by omega) (by omega)
            by_cases hbig : 2147483647 < 10 * v + (x.toNat : Int) - 48
            · simp -implicitDefEqProofs [c168b1, hil', hi', hx, w1, w2, w3, w4, w5, hp, hbig]
            · simp -implicitDefEqProofs [c168b1, hil', hi', hx, w1, w2, w3, w4, w5, hp, hbig]
              refine ⟨_, ?_, i + 1, by omega, rfl, 10 * v + (x.toNat : Int) - 48, by omega, rfl, by simp⟩
              omega
          · have hil' : ¬ i < r.length + 1 := by simpa using hil
            have hi' : ¬ (i : Int) < (r.length : Int) + 1 := by omega
            simp -implicitDefEqProofs [c168b1, hil', hi'])
        N _ _ ⟨0, 0, by omega, rfl, by omega, rfl⟩ (by omega)
      rw [show ((0 : Nat) : Int) = 0 from rfl] at k1
      have hz' : (1 : Int) < (r.length : Int) + 1 → ((c.toNat : Int) == 48) = false := fun h => by
        cases hb : ((c.toNat : Int) == 48) with
        | false => rfl
        | true => exact absurd ⟨by simpa using h, hb⟩ hz
      have hq : ∃ b, (1 : Int) < (r.length : Int) + 1 ∧ b = true ∨ ¬ (1 : Int) < (r.length : Int) + 1 ∧ b = false := by
        by_cases h : (1 : Int) < (r.length : Int) + 1
        · exact ⟨true, .inl ⟨h, rfl⟩⟩
        · exact ⟨false, .inr ⟨h, rfl⟩⟩
      obtain ⟨b, hq⟩ := hq
      rcases k5 with ⟨rfl, v, k5⟩ | ⟨rfl, k5, k6⟩
      · simp only [] at k5
        refine ⟨v, 0, ?_⟩
        rcases hq with ⟨hq, -⟩ | ⟨hq, -⟩
        · simp -implicitDefEqProofs [c168, h1, h5, k1, k5, hq, hz' hq]
        · simp -implicitDefEqProofs [c168, h1, h5, k1, k5, hq]
      · simp only [] at k5 k6
        refine ⟨0, 2, ?_⟩
        rcases hq with ⟨hq, -⟩ | ⟨hq, -⟩
        · simp -implicitDefEqProofs [c168, h1, h5, k1, k5, k6, hq, hz' hq]
        · simp -implicitDefEqProofs [c168, h1, h5, k1, k5, k6, hq]
  · simp only [] at h5 h6
    exact ⟨0, 3, by simp -implicitDefEqProofs [c168, h1, h5, h6]⟩
def tkId (s : Str) : Bool := !isDig (s.headD 0) && isLet (s.headD 0) && !kwL.contains s && decide (s.length ≤ 16)
theorem ev150 (s : Str) (h0 : s ≠ []) (hs : s.length < big) (h167 : ∀ (c : UInt8) M, cl 167 [.int .u8 c.toNat] M = some (.bool (isDig c), M)) (h169 : ∀ (c : UInt8) M, cl 169 [.int .u8 c.toNat] M = some (.bool (isLet c), M))
    (h168 : ∃ v e, ∀ M, cl 168 [.str s] M = some (.tup [.int .i64 v, .int .i64 e], M)) (h170 : ∀ M, cl 170 [.str s] M = some (.bool (kwL.contains s), M)) :
    ∃ k tx v e, pureA G false cl yl N c150 [.str s] = some (.tup [.agg [.int .i64 k, .str tx, .int .i64 v, .int .i64 0, .int .i64 0], .int .i64 e], none) ∧ (decide (e = 0) && decide (k = 1)) = tkId s := by
  obtain ⟨c, r, rfl⟩ : ∃ c r, s = c :: r := by
    cases s with
    | nil => exact absurd rfl h0
    | cons c r => exact ⟨c, r, rfl⟩
  obtain ⟨v, e, h168⟩ := h168
  unfold tkId
  cases hd : isDig c with
  | true => exact ⟨2, c :: r, v, e, by simp -implicitDefEqProofs [c150, h167, hd, h168], by simp [hd]⟩
  | false =>
    cases hl : isLet c with
    | false => exact ⟨0, [], 0, 3, by simp -implicitDefEqProofs [c150, h167, h169, hd, hl], by simp [hd, hl]⟩
    | true =>
      cases hk : kwL.contains (c :: r) with
      | true =>
        rw [hk] at h170
        exact ⟨3, c :: r, 0, 0, by simp -implicitDefEqProofs [c150, h167, h169, hd, hl, h170], by simp [hd, hl]⟩
      | false =>
        rw [hk] at h170
        by_cases h16 : (16 : Int) < ((c :: r).length : Int)
        · have h16' : (16 : Int) < (r.length : Int) + 1 := by simpa using h16
          refine ⟨0, [], 0, 2, by simp -implicitDefEqProofs [c150, h167, h169, hd, hl, h170, h16'], ?_⟩
          have : ¬ (c :: r).length ≤ 16 := by simp at h16 ⊢; omega
          simp only [this, decide_false, Bool.and_false]
          rfl
        · have h16' : ¬ (16 : Int) < (r.length : Int) + 1 := by simpa using h16
          refine ⟨1, c :: r, 0, 0, by simp -implicitDefEqProofs [c150, h167, h169, hd, hl, h170, h16'], ?_⟩
          have : (c :: r).length ≤ 16 := by simp at h16 ⊢; omega
          simp [hd, hl, this]
          simpa using this
theorem isId_tk (s : Str) (h0 : s ≠ []) (ha : s.all isRun = true) : isId s = tkId s := by
  rw [isId_def ha h0]
  unfold tkId runF
  by_cases hk : s ∈ kwL
  · have : kwL.contains s = true := by simpa using hk
    rw [if_pos hk, this]; simp
  · have : kwL.contains s = false := by simpa using hk
    rw [if_neg hk, this]
    cases hd : isDig (s.headD 0) with
    | true => simp
    | false =>
      cases hl : isLet (s.headD 0) with
      | false => simp
      | true =>
        by_cases hs : s.length > 16
        · have : ¬ s.length ≤ 16 := by omega
          simp [hs, this]
        · have : s.length ≤ 16 := by omega
          simp [hs, this]
theorem ev117 (s : Str) (hs : s.length < big) (h149 : s ≠ [] → ∀ M, cl 149 [.str s, .int .i64 0] M = some (.int .i64 (cutN isRun s), M))
    (h150 : s ≠ [] → ∃ k tx v e, (∀ M, cl 150 [.str s] M = some (.tup [.agg [.int .i64 k, .str tx, .int .i64 v, .int .i64 0, .int .i64 0], .int .i64 e], M)) ∧ (decide (e = 0) && decide (k = 1)) = tkId s) :
    pureA G false cl yl N c117 [.str s] = some (.bool (isId s), none) := by
  by_cases h0 : s = []
  · subst h0
    rw [isId_not (.inr rfl)]
    simp -implicitDefEqProofs [c117]
  · have hlen : ¬ (s.length : Int) = 0 := by
      intro h
      exact h0 (List.eq_nil_of_length_eq_zero (by omega))
    have hlen' : ((s.length : Int) == 0) = false := by simpa using hlen
    replace h149 := h149 h0
    obtain ⟨k, tx, v, e, h150, h2⟩ := h150 h0
    cases ha : s.all isRun with
    | false =>
      have hne : ¬ cutN isRun s = s.length := fun h => by
        have := (tw_all (g := isRun) s).1 h
        rw [ha] at this; cases this
      have hne' : ((cutN isRun s : Int) != (s.length : Int)) = true := by simp; omega
      rw [isId_not (.inl ha)]
      simp -implicitDefEqProofs [c117, hlen, hlen', h149, hne']
    | true =>
      have hc := cut_all ha
      rw [hc] at h149
      rw [isId_tk s h0 ha, ← h2]
      by_cases he : e = 0
      · by_cases hk : k = 1
        · simp -implicitDefEqProofs [c117, hlen, hlen', h149, h150, he, hk]
        · have hk' : (k == 1) = false := by simp [hk]
          simp -implicitDefEqProofs [c117, hlen, hlen', h149, h150, he, hk, hk']
      · have he' : (e == 0) = false := by simp [he]
        simp -implicitDefEqProofs [c117, hlen, hlen', h149, h150, he, he']
end
section
variable {G : Nat → Option AV} {cl : Caller} {yl : Nat → List AV → Mem → Option (AV × Mem)} {N : Nat}
theorem ev116 (op : Int) (h0 : 0 ≤ op) (h1 : op < 18) : pureA G false cl yl N c116 [.int .i64 op] = some (.tup [.int .i64 (fA op), .int .i64 (fB op), .int .i64 (fC op)], none) := by
  rcases op_cases h0 h1 with rfl | rfl | rfl | rfl | rfl | rfl | rfl | rfl | rfl | rfl | rfl | rfl | rfl | rfl | rfl | rfl | rfl | rfl <;> simp -implicitDefEqProofs [c116, fA, fB, fC]
def badN (x : Str) : Option Unit := if isId x then none else some ()
theorem badN_all : ∀ l : List Str, (l.findSome? badN).isNone = l.all isId
  | [] => rfl
  | x :: l => by
    simp only [List.findSome?_cons, List.all_cons, badN]
    cases isId x with
    | true => simpa using badN_all l
    | false => rfl
theorem loop76a (n : Nd) (hb : n.ns.length < big) (hN : n.ns.length < N) (h117 : ∀ x ∈ n.ns, ∀ M, cl 117 [.str x] M = some (.bool (isId x), M)) :
    match n.ns.findSome? badN with
    | none => iter false (evalC G false cl yl N c76b0) ⟨[1, 6], [(6, none)]⟩ 1 0 N ⟨[(1, .ptr 0 0), (6, .int .i64 ((0 : Nat) : Int))], ⟨[.cells (ndc n)], []⟩, []⟩ =
        some (.exit 0, ⟨[(47, .bool false), (46, .int .i64 n.ns.length), (45, .slc .shared (n.ns.map .str)), (44, .ptr 0 1), (43, .int .i64 n.ns.length), (1, .ptr 0 0), (6, .int .i64 n.ns.length)], ⟨[.cells (ndc n)], []⟩, []⟩)
    | some r => ∃ e s', iter false (evalC G false cl yl N c76b0) ⟨[1, 6], [(6, none)]⟩ 1 0 N ⟨[(1, .ptr 0 0), (6, .int .i64 ((0 : Nat) : Int))], ⟨[.cells (ndc n)], []⟩, []⟩ = some (e, s') ∧ e ≠ .normal ∧ (e = .ret ∧ look 2 s'.ts = .int .i64 3 ∧ s'.mks = []) := by
  unfold big at hb
  have h := iter_find (mu := false) (step := evalC G false cl yl N c76b0) (an := ⟨[1, 6], [(6, none)]⟩) (k := 1) (m := 0) (N := N) n.ns badN (fun i => ⟨[(1, .ptr 0 0), (6, .int .i64 (i : Int))], ⟨[.cells (ndc n)], []⟩, []⟩) (fun _ e s' => e = .ret ∧ look 2 s'.ts = .int .i64 3 ∧ s'.mks = []) (.exit 0) ⟨[(47, .bool false), (46, .int .i64 n.ns.length), (45, .slc .shared (n.ns.map .str)), (44, .ptr 0 1), (43, .int .i64 n.ns.length), (1, .ptr 0 0), (6, .int .i64 n.ns.length)], ⟨[.cells (ndc n)], []⟩, []⟩ hN (by simp) ?_ ?_
  · cases hf : n.ns.findSome? badN with
    | none => rw [hf] at h; exact h
    | some r => rw [hf] at h; exact h
  · intro i x hx hi
    have w1 := wrap_succ (i := i) (by omega)
    have hx' := (List.getElem?_eq_some_iff.1 hx).2
    have k := h117 x (mem_of_get hx)
    cases hs : isId x with
    | true => rw [hs] at k; simp -implicitDefEqProofs [badN, c76b0, hi, hx', hs, k, w1]
    | false => rw [hs] at k; simp -implicitDefEqProofs [badN, c76b0, hi, hx', hs, k, w1]
  · simp -implicitDefEqProofs [c76b0]
theorem loop76b (n : Nd) (hb : n.l.length < big) (hN : n.l.length < N) (hc : ∀ x ∈ n.l, ∀ M, cl 76 [av x] M = some (.int .i64 (ndE x), M)) :
    match n.l.findSome? ndG with
    | none => iter false (evalC G false cl yl N c76b1) ⟨[1, 7], [(7, none)]⟩ 1 0 N ⟨[(1, .ptr 0 0), (7, .int .i64 ((0 : Nat) : Int))], ⟨[.cells (ndc n)], []⟩, []⟩ =
        some (.exit 2, ⟨[(144, .bool false), (143, .int .i64 n.l.length), (142, .slc .shared (avL n.l)), (141, .ptr 0 5), (140, .int .i64 n.l.length), (1, .ptr 0 0), (7, .int .i64 n.l.length)], ⟨[.cells (ndc n)], []⟩, []⟩)
    | some r => ∃ e s', iter false (evalC G false cl yl N c76b1) ⟨[1, 7], [(7, none)]⟩ 1 0 N ⟨[(1, .ptr 0 0), (7, .int .i64 ((0 : Nat) : Int))], ⟨[.cells (ndc n)], []⟩, []⟩ = some (e, s') ∧ e ≠ .normal ∧ (e = .ret ∧ look 2 s'.ts = .int .i64 r ∧ s'.mks = []) := by
  unfold big at hb
  have h := iter_find (mu := false) (step := evalC G false cl yl N c76b1) (an := ⟨[1, 7], [(7, none)]⟩) (k := 1) (m := 0) (N := N) n.l ndG (fun i => ⟨[(1, .ptr 0 0), (7, .int .i64 (i : Int))], ⟨[.cells (ndc n)], []⟩, []⟩) (fun r e s' => e = .ret ∧ look 2 s'.ts = .int .i64 r ∧ s'.mks = []) (.exit 2) ⟨[(144, .bool false), (143, .int .i64 n.l.length), (142, .slc .shared (avL n.l)), (141, .ptr 0 5), (140, .int .i64 n.l.length), (1, .ptr 0 0), (7, .int .i64 n.l.length)], ⟨[.cells (ndc n)], []⟩, []⟩ hN (by simp) ?_ ?_
  · cases hf : n.l.findSome? ndG with
    | none => rw [hf] at h; exact h
    | some r => rw [hf] at h; exact h
  · intro i x hx hi
    have w1 := wrap_succ (i := i) (by omega)
    have hx' := (List.getElem?_eq_some_iff.1 hx).2
    have k := hc x (mem_of_get hx)
    by_cases hn : ndE x = 0
    · simp -implicitDefEqProofs [c76b1, ndG, hi, hx', k, w1, hn]
    · have hn' : (ndE x != 0) = true := by simp [hn]
      simp -implicitDefEqProofs [c76b1, ndG, hi, hx', k, w1, hn, hn']
  · simp -implicitDefEqProofs [c76b1]
theorem ev77 (n : Nd) (h37 : ∀ M, cl 37 [av n] M = some (.int .i64 (sz n), M)) (h38 : ∀ M, cl 38 [av n] M = some (.int .i64 (dp n), M)) : pureA G false cl yl N c77 [av n] = some (.int .i64 (grt n), none) := by
  unfold grt
  by_cases c1 : sz n > 4096
  · have c1' : (4096 : Int) < (sz n : Int) := by omega
    simp -implicitDefEqProofs [c77, h37, c1, c1']
  · have c1' : ¬ (4096 : Int) < (sz n : Int) := by omega
    by_cases c2 : dp n > 256
    · have c2' : (256 : Int) < (dp n : Int) := by omega
      simp -implicitDefEqProofs [c77, h37, h38, c1, c1', c2, c2']
    · have c2' : ¬ (256 : Int) < (dp n : Int) := by omega
      simp -implicitDefEqProofs [c77, h37, h38, c1, c1', c2, c2']
theorem ev42 (n : Nd) (h76 : ∀ M, cl 76 [av n] M = some (.int .i64 (ndE n), M)) (h77 : ∀ M, cl 77 [av n] M = some (.int .i64 (grt n), M)) : pureA G false cl yl N c42 [av n] = some (.int .i64 (chk n), none) := by
  unfold chk
  by_cases c1 : ndE n = 0
  · simp -implicitDefEqProofs [c42, h76, h77, c1]
  · have c1' : (ndE n != 0) = true := by simp [c1]
    simp -implicitDefEqProofs [c42, h76, h77, c1, c1']
theorem ev43 (n : Nd) (h42 : ∀ M, cl 42 [av n] M = some (.int .i64 (chk n), M)) : pureA G false cl yl N c43 [av n] = some (.tup [av (ckd n).1, .int .i64 (ckd n).2], none) := by
  unfold ckd
  by_cases c1 : chk n = 0
  · simp -implicitDefEqProofs [c43, h42, c1]
  · have c1' : (chk n != 0) = true := by simp [c1]
    simp -implicitDefEqProofs [c43, h42, c1, c1', av_nd0]
end
end Go.Proofs.Ae
namespace Go.Proofs.Ae
open Go Go.RowKit
set_option maxRecDepth 20000
section
variable {G : Nat → Option AV} {cl : Caller} {yl : Nat → List AV → Mem → Option (AV × Mem)} {N : Nat}
theorem fD_iff {op : Int} (h0 : 0 ≤ op) (h1 : op < 18) : fD op = decide (16 ≤ op) := by
  rcases op_cases h0 h1 with rfl | rfl | rfl | rfl | rfl | rfl | rfl | rfl | rfl | rfl | rfl | rfl | rfl | rfl | rfl | rfl | rfl | rfl <;> rfl
theorem ev76 (n : Nd) (hb : bk n ≤ big) (hN : bk n < N) (h116 : 0 ≤ n.op → n.op < 18 → ∀ M, cl 116 [.int .i64 n.op] M = some (.tup [.int .i64 (fA n.op), .int .i64 (fB n.op), .int .i64 (fC n.op)], M))
    (h117 : ∀ x ∈ n.ns, ∀ M, cl 117 [.str x] M = some (.bool (isId x), M)) (hc : ∀ x ∈ n.l, ∀ M, cl 76 [av x] M = some (.int .i64 (ndE x), M)) :
    pureA G false cl yl N c76 [av n] = some (.int .i64 (ndE n), none) := by
  have hlen := len_bk n
  have hnl := names_bk n
  rw [ndE_eq]
  unfold ownE
  by_cases h0 : n.op < 0
  · simp -implicitDefEqProofs [c76, h0]
  by_cases h1 : 17 < n.op
  · have h1' : 18 ≤ n.op := by omega
    simp -implicitDefEqProofs [c76, h0, h1, h1']
  have h18 : ¬ 18 ≤ n.op := by omega
  replace h116 := h116 (by omega) (by omega)
  have hfD := fD_iff (op := n.op) (by omega) (by omega)
  have l1 := loop76a (G := G) (cl := cl) (yl := yl) (N := N) n (by omega) (by omega) h117
  have l2 := loop76b (G := G) (cl := cl) (yl := yl) (N := N) n (by omega) (by omega) hc
  rw [show ((0 : Nat) : Int) = 0 from rfl] at l1 l2
  have hall := badN_all n.ns
  unfold hasF rngF
  rw [hfD, ndEL_find]
  generalize fA n.op = a at *
  generalize fB n.op = b at *
  generalize fC n.op = c at *
  by_cases c1 : (n.ns.length : Int) < a
  · simp -implicitDefEqProofs [c76, h0, h1, h18, h116, c1]
  by_cases c2 : b < (n.ns.length : Int)
  · simp -implicitDefEqProofs [c76, h0, h1, h18, h116, c1, c2]
  by_cases c3 : (n.l.length : Int) = c
  case neg =>
    have c3' : ((n.l.length : Int) != c) = true := by simp [c3]
    simp -implicitDefEqProofs [c76, h0, h1, h18, h116, c1, c2, c3, c3']
  cases hf : n.ns.findSome? badN with
  | some r =>
    rw [hf] at l1 hall
    obtain ⟨e, s', q1, -, rfl, q2, q3⟩ := l1
    have hall' : n.ns.all isId = false := by rw [← hall]; rfl
    simp -implicitDefEqProofs [c76, h0, h1, h18, h116, c1, c2, c3, q1, q2, q3, hall']
  | none =>
    rw [hf] at l1 hall
    have hall' : n.ns.all isId = true := by rw [← hall]; rfl
    simp only [] at l1
    rw [hall']
    by_cases g7 : n.op = 7
    case pos =>
      rw [g7] at h116
      by_cases m0 : n.mm = 0
      case pos =>
        by_cases s0 : n.so = 0
        case pos =>
          by_cases n1 : n.nn < 0
          case pos =>
            have n1a : ¬ 0 ≤ n.nn := by omega
            simp -implicitDefEqProofs [c76, h0, h1, h18, h116, c1, c2, c3, l1, g7, m0, s0, n1, n1a]
          case neg =>
            by_cases n2 : 7 < n.nn
            case pos =>
              have n2a : ¬ n.nn ≤ 7 := by omega
              simp -implicitDefEqProofs [c76, h0, h1, h18, h116, c1, c2, c3, l1, g7, m0, s0, n1, n2, n2a]
            case neg =>
              have n1a : 0 ≤ n.nn := by omega
              have n2a : n.nn ≤ 7 := by omega
              cases hg : n.l.findSome? ndG with
              | none =>
                rw [hg] at l2
                simp only [] at l2
                simp -implicitDefEqProofs [c76, h0, h1, h18, h116, c1, c2, c3, l1, g7, m0, s0, n1, n1a, n2, n2a, l2]
              | some r =>
                rw [hg] at l2
                obtain ⟨e, s', q1, -, rfl, q2, q3⟩ := l2
                simp -implicitDefEqProofs [c76, h0, h1, h18, h116, c1, c2, c3, l1, g7, m0, s0, n1, n1a, n2, n2a, q1, q2, q3]
        case neg =>
          have s0a : (n.so != 0) = true := by simp [s0]
          have s0b : (n.so == 0) = false := by simp [s0]
          simp -implicitDefEqProofs [c76, h0, h1, h18, h116, c1, c2, c3, l1, g7, m0, s0, s0a, s0b]
      case neg =>
        have m0a : (n.mm != 0) = true := by simp [m0]
        have m0b : (n.mm == 0) = false := by simp [m0]
        simp -implicitDefEqProofs [c76, h0, h1, h18, h116, c1, c2, c3, l1, g7, m0, m0a, m0b]
    case neg =>
      have g7a : (n.op != 7) = true := by simp [g7]
      have g7b : (n.op == 7) = false := by simp [g7]
      by_cases g8 : n.op = 8
      case pos =>
        rw [g8] at h116
        by_cases s0 : n.so = 0
        case pos =>
          by_cases m1 : n.mm < 1
          case pos =>
            have m1a : ¬ 1 ≤ n.mm := by omega
            simp -implicitDefEqProofs [c76, h0, h1, h18, h116, c1, c2, c3, l1, g8, s0, m1, m1a]
          case neg =>
            by_cases m2 : 64 < n.mm
            case pos =>
              have m2a : ¬ n.mm ≤ 64 := by omega
              simp -implicitDefEqProofs [c76, h0, h1, h18, h116, c1, c2, c3, l1, g8, s0, m1, m2, m2a]
            case neg =>
              by_cases n1 : n.nn < 0
              case pos =>
                have n1a : ¬ 0 ≤ n.nn := by omega
                simp -implicitDefEqProofs [c76, h0, h1, h18, h116, c1, c2, c3, l1, g8, s0, m1, m2, n1, n1a]
              case neg =>
                by_cases n2 : n.mm ≤ n.nn
                case pos =>
                  have n2a : ¬ n.nn < n.mm := by omega
                  simp -implicitDefEqProofs [c76, h0, h1, h18, h116, c1, c2, c3, l1, g8, s0, m1, m2, n1, n2, n2a]
                case neg =>
                  have m1a : 1 ≤ n.mm := by omega
                  have m2a : n.mm ≤ 64 := by omega
                  have n1a : 0 ≤ n.nn := by omega
                  have n2a : n.nn < n.mm := by omega
                  cases hg : n.l.findSome? ndG with
                  | none =>
                    rw [hg] at l2
                    simp only [] at l2
                    simp -implicitDefEqProofs [c76, h0, h1, h18, h116, c1, c2, c3, l1, g8, s0, m1, m2, n1, n2, m1a, m2a, n1a, n2a, l2]
                  | some r =>
                    rw [hg] at l2
                    obtain ⟨e, s', q1, -, rfl, q2, q3⟩ := l2
                    simp -implicitDefEqProofs [c76, h0, h1, h18, h116, c1, c2, c3, l1, g8, s0, m1, m2, n1, n2, m1a, m2a, n1a, n2a, q1, q2, q3]
        case neg =>
          have s0a : (n.so != 0) = true := by simp [s0]
          have s0b : (n.so == 0) = false := by simp [s0]
          simp -implicitDefEqProofs [c76, h0, h1, h18, h116, c1, c2, c3, l1, g8, s0, s0a, s0b]
      case neg =>
        have g8a : (n.op != 8) = true := by simp [g8]
        have g8b : (n.op == 8) = false := by simp [g8]
        by_cases g16 : n.op < 16
        case pos =>
          have g16a : ¬ 16 ≤ n.op := by omega
          by_cases k0 : n.nn = 0
          case pos =>
            by_cases m0 : n.mm = 0
            case pos =>
              by_cases s0 : n.so = 0
              case pos =>
                cases hg : n.l.findSome? ndG with
                | none =>
                  rw [hg] at l2
                  simp only [] at l2
                  simp -implicitDefEqProofs [c76, h0, h1, h18, h116, c1, c2, c3, l1, g7, g7a, g7b, g8, g8a, g8b, g16, g16a, k0, m0, s0, l2]
                | some r =>
                  rw [hg] at l2
                  obtain ⟨e, s', q1, -, rfl, q2, q3⟩ := l2
                  simp -implicitDefEqProofs [c76, h0, h1, h18, h116, c1, c2, c3, l1, g7, g7a, g7b, g8, g8a, g8b, g16, g16a, k0, m0, s0, q1, q2, q3]
              case neg =>
                have s0a : (n.so != 0) = true := by simp [s0]
                have s0b : (n.so == 0) = false := by simp [s0]
                simp -implicitDefEqProofs [c76, h0, h1, h18, h116, c1, c2, c3, l1, g7, g7a, g7b, g8, g8a, g8b, g16, g16a, k0, m0, s0, s0a, s0b]
            case neg =>
              have m0a : (n.mm != 0) = true := by simp [m0]
              have m0b : (n.mm == 0) = false := by simp [m0]
              simp -implicitDefEqProofs [c76, h0, h1, h18, h116, c1, c2, c3, l1, g7, g7a, g7b, g8, g8a, g8b, g16, g16a, k0, m0, m0a, m0b]
          case neg =>
            have k0a : (n.nn != 0) = true := by simp [k0]
            have k0b : (n.nn == 0) = false := by simp [k0]
            simp -implicitDefEqProofs [c76, h0, h1, h18, h116, c1, c2, c3, l1, g7, g7a, g7b, g8, g8a, g8b, g16, g16a, k0, k0a, k0b]
        case neg =>
          have g16a : 16 ≤ n.op := by omega
          by_cases k0 : n.nn = 0
          case pos =>
            by_cases m0 : n.mm = 0
            case pos =>
              by_cases s1 : n.so < 0
              case pos =>
                have s1a : ¬ 0 ≤ n.so := by omega
                simp -implicitDefEqProofs [c76, h0, h1, h18, h116, c1, c2, c3, l1, g7, g7a, g7b, g8, g8a, g8b, g16, g16a, k0, m0, s1, s1a]
              case neg =>
                by_cases s2 : 3 < n.so
                case pos =>
                  have s2a : ¬ n.so < 4 := by omega
                  simp -implicitDefEqProofs [c76, h0, h1, h18, h116, c1, c2, c3, l1, g7, g7a, g7b, g8, g8a, g8b, g16, g16a, k0, m0, s1, s2, s2a]
                case neg =>
                  have s1a : 0 ≤ n.so := by omega
                  have s2a : n.so < 4 := by omega
                  cases hg : n.l.findSome? ndG with
                  | none =>
                    rw [hg] at l2
                    simp only [] at l2
                    simp -implicitDefEqProofs [c76, h0, h1, h18, h116, c1, c2, c3, l1, g7, g7a, g7b, g8, g8a, g8b, g16, g16a, k0, m0, s1, s2, s1a, s2a, l2]
                  | some r =>
                    rw [hg] at l2
                    obtain ⟨e, s', q1, -, rfl, q2, q3⟩ := l2
                    simp -implicitDefEqProofs [c76, h0, h1, h18, h116, c1, c2, c3, l1, g7, g7a, g7b, g8, g8a, g8b, g16, g16a, k0, m0, s1, s2, s1a, s2a, q1, q2, q3]
            case neg =>
              have m0a : (n.mm != 0) = true := by simp [m0]
              have m0b : (n.mm == 0) = false := by simp [m0]
              simp -implicitDefEqProofs [c76, h0, h1, h18, h116, c1, c2, c3, l1, g7, g7a, g7b, g8, g8a, g8b, g16, g16a, k0, m0, m0a, m0b]
          case neg =>
            have k0a : (n.nn != 0) = true := by simp [k0]
            have k0b : (n.nn == 0) = false := by simp [k0]
            simp -implicitDefEqProofs [c76, h0, h1, h18, h116, c1, c2, c3, l1, g7, g7a, g7b, g8, g8a, g8b, g16, g16a, k0, k0a, k0b]
end
end Go.Proofs.Ae
namespace Go.Proofs.Ae
open Go Go.RowKit
section
variable {G : Nat → Option AV} {cl : Caller} {yl : Nat → List AV → Mem → Option (AV × Mem)} {N : Nat}
theorem ev79 (op : Int) (a b : Nd) : pureA G false cl yl N c79 [.int .i64 op, av a, av b] = some (av (nd op [a, b]), none) := by
  simp -implicitDefEqProofs [c79]
  rfl
theorem ev122 (a : Nd) : pureA G false cl yl N c122 [av a] = some (av (nd 11 [a]), none) := by
  simp -implicitDefEqProofs [c122]
  rfl
structure Cs104 (cl : Caller) (a b : Nd) : Prop where
  h19 : ∀ M, cl 19 [av a, av b] M = some (.bool (sameN a b), M)
  h137 : ∀ M, cl 137 [av a, av b] M = some (.bool (isNt a b), M)
  h103a : ∀ M, cl 103 [av a] M = some (av (snot a), M)
  h103b : ∀ M, cl 103 [av b] M = some (av (snot b), M)
  h79 : ∀ op M, cl 79 [.int .i64 op, av a, av b] M = some (av (nd op [a, b]), M)
def jnt (op : Int) (a b : Nd) : Nd := if op = 14 then imp a b else if op = 15 then alk a b else jn op a b
end
section
variable {G : Nat → Option AV} {cl : Caller} {yl : Nat → List AV → Mem → Option (AV × Mem)} {N : Nat}
def hitS (s : Str) (x : Str) : Option Unit := if x == s then some () else none
theorem hitS_has (s : Str) : ∀ l : List Str, (l.findSome? (hitS s)).isSome = l.contains s
  | [] => rfl
  | x :: l => by
    rw [List.findSome?_cons, List.contains_cons]
    unfold hitS
    by_cases h : x = s
    · subst h; simp
    · have h1 : (x == s) = false := by simp [h]
      have h2 : (s == x) = false := by simp; exact fun e => h e.symm
      have ih := hitS_has s l
      unfold hitS at ih
      simp [h1, h2]; simpa using ih
theorem ev126 (sp : Bool) (l : List Str) (s : Str) (hl : l.length < big) (hN : l.length < N) : pureA G false cl yl N c126 [.slc (nfl sp) (l.map .str), .str s] = some (.bool (l.contains s), none) := by
  unfold big at hl
  have hsc : ∀ k m, scr k m (.slc (nfl sp) (l.map .str)) = .slc (nfl sp) (l.map .str) := fun k m => nfl_scr _ _ _ _
  have hav : argV (.slc (nfl sp) (l.map .str)) = some (.slc (nfl sp) (l.map .str)) := by cases sp <;> rfl
  have l1 := iter_find (mu := false) (step := evalC G false cl yl N c126b0) (an := ⟨[0, 1, 5], [(5, none)]⟩) (k := 0) (m := 0) (N := N) l (hitS s)
    (fun i => ⟨[(0, .slc (nfl sp) (l.map .str)), (1, .str s), (5, .int .i64 (i : Int))], ⟨[], []⟩, []⟩) (fun _ e s' => e = .ret ∧ look 4 s'.ts = .bool true ∧ s'.mks = []) (.exit 0)
    ⟨[(9, .bool false), (8, .int .i64 l.length), (7, .slc (nfl sp) (l.map .str)), (6, .int .i64 l.length), (0, .slc (nfl sp) (l.map .str)), (1, .str s), (5, .int .i64 l.length)], ⟨[], []⟩, []⟩ hN (by simp) ?_ ?_
  · rw [← hitS_has]
    cases hf : l.findSome? (hitS s) with
    | none =>
      rw [hf] at l1
      simp at l1
      simp -implicitDefEqProofs [c126, hav, hsc, l1]
    | some r =>
      rw [hf] at l1
      obtain ⟨e, s', q1, -, rfl, q2, q3⟩ := l1
      simp at q1
      simp -implicitDefEqProofs [c126, hav, hsc, q1, q2, q3]
  · intro i x hx hi
    have w1 := wrap_succ (i := i) (by omega)
    have hx' := (List.getElem?_eq_some_iff.1 hx).2
    unfold hitS
    cases hs : x == s <;> simp -implicitDefEqProofs [c126b0, strA, hi, hx', hs, w1, hsc]
  · simp -implicitDefEqProofs [c126b0]
def plR (l : List Str) (s : Str) : AV × Option Arr := if l.contains s then (.slc .shared (l.map .str), none) else (.slc .shared ((l ++ [s]).map .str), some (.app (l.length + 1) 9 1))
theorem ev87 (l : List Str) (s : Str) (hl : l.length < big) (h126 : ∀ M, cl 126 [.slc .shared (l.map .str), .str s] M = some (.bool (l.contains s), M)) :
    pureA G false cl yl N c87 [.slc .shared (l.map .str), .str s] = some (plR l s) := by
  unfold plR
  unfold big at hl
  have b0 : l.length * 16 ≤ 140737488355328 := by omega
  have b0' : l.length ≤ 140737488355328 := by omega
  have b1 : (l.length + 1) * 16 ≤ 140737488355328 := by omega
  have b2 : l.length + 1 ≤ 140737488355328 := by omega
  cases hc : l.contains s with
  | true =>
    rw [hc] at h126
    simp -implicitDefEqProofs [c87, h126]
  | false =>
    rw [hc] at h126
    cases l with
    | nil =>
      simp at h126
      simp -implicitDefEqProofs [c87, h126]
    | cons x l =>
      simp at h126 b0 b0' b1 b2
      simp -implicitDefEqProofs [c87, h126, b0, b0', b1, b2]
theorem ev125 (n : Nd) : pureA G false cl yl N c125 [av n] = some (.bool (n.op == 16 || n.op == 17), none) := by
  cases h : (n.op == 16) <;> simp -implicitDefEqProofs [c125, h]
theorem ev124 (n : Nd) (hn : n.op = 10 → n.ns ≠ []) : pureA G false cl yl N c124 [av n] = some (.slc (nfl (usB n)) ((uses n).map .str), none) := by
  unfold uses usB
  by_cases h1 : n.op = 10
  · cases hns : n.ns with
    | nil => exact absurd hns (hn h1)
    | cons s ns =>
      simp -implicitDefEqProofs [c124, h1, hns, nfl, optV]
      exact List.take_of_length_le (by simp)
  · have h1' : (n.op == 10) = false := by simp [h1]
    by_cases h3 : 11 ≤ n.op
    · have h4 : ¬ n.op < 10 := by omega
      simp -implicitDefEqProofs [c124, h1, h1', h3, h4, nfl]
    · by_cases h4 : n.op < 2
      · have h5 : ¬ 2 ≤ n.op := by omega
        simp -implicitDefEqProofs [c124, h1, h1', h3, h4, h5, nfl]
      · have h5 : 2 ≤ n.op := by omega
        have h6 : n.op < 10 := by omega
        simp -implicitDefEqProofs [c124, h1, h1', h3, h4, h5, h6, nfl]
end
def plusF (l : List Str) (s : Str) : List Str := if l.contains s then l else l ++ [s]
def plusU (out us : List Str) : List Str := us.foldl plusF out
def plusK (n : Nd) (out l : List Str) : List Str := l.foldl (fun o s => if bndr n == some s then o else plusF o s) out
mutual
def f12 : Nd → List Str
  | .mk o ns so a b l => f12L (.mk o ns so a b l) l (plusU [] (uses (.mk o ns so a b l)))
def f12L (n : Nd) : List Nd → List Str → List Str
  | [], out => out
  | x :: xs, out => f12L n xs (plusK n out (f12 x))
end
theorem f12_eq (n : Nd) : f12 n = f12L n n.l (plusU [] (uses n)) := by cases n; rw [f12]; rfl
theorem f12L_snoc (n x : Nd) : ∀ (l : List Nd) (out : List Str), f12L n (l ++ [x]) out = plusK n (f12L n l out) (f12 x)
  | [], out => by simp [f12L]
  | y :: l, out => by simp only [List.cons_append, f12L]; rw [f12L_snoc n x l]
theorem plusF_mem (l : List Str) (s x : Str) : x ∈ plusF l s ↔ x ∈ l ∨ x = s := by
  unfold plusF
  by_cases h : s ∈ l
  · have : l.contains s = true := by simpa using h
    rw [if_pos this]
    constructor
    · exact fun h => .inl h
    · rintro (h' | rfl)
      · exact h'
      · exact h
  · have : ¬ l.contains s = true := by simpa using h
    rw [if_neg this]; simp
theorem plusU_mem (x : Str) : ∀ (us out : List Str), x ∈ plusU out us ↔ x ∈ out ∨ x ∈ us
  | [], out => by simp [plusU]
  | u :: us, out => by
    have ih := plusU_mem x us (plusF out u)
    unfold plusU at ih ⊢
    rw [List.foldl_cons, ih, plusF_mem]
    simp [or_assoc]
theorem plusK_mem (n : Nd) (x : Str) : ∀ (l out : List Str), x ∈ plusK n out l ↔ x ∈ out ∨ (x ∈ l ∧ bndr n ≠ some x)
  | [], out => by simp [plusK]
  | u :: l, out => by
    unfold plusK
    rw [List.foldl_cons]
    by_cases h : bndr n = some u
    · have h' : (bndr n == some u) = true := by simp [h]
      have ih := plusK_mem n x l out
      unfold plusK at ih
      simp only [h', if_true, ih, List.mem_cons]
      constructor
      · rintro (h1 | ⟨h1, h2⟩)
        · exact .inl h1
        · exact .inr ⟨.inr h1, h2⟩
      · rintro (h1 | ⟨rfl | h1, h2⟩)
        · exact .inl h1
        · exact absurd h h2
        · exact .inr ⟨h1, h2⟩
    · have h' : (bndr n == some u) = false := by simpa using h
      have ih := plusK_mem n x l (plusF out u)
      unfold plusK at ih
      simp only [h', Bool.false_eq_true, if_false, ih, plusF_mem, List.mem_cons]
      constructor
      · rintro ((h1 | rfl) | ⟨h1, h2⟩)
        · exact .inl h1
        · exact .inr ⟨.inl rfl, h⟩
        · exact .inr ⟨.inr h1, h2⟩
      · rintro (h1 | ⟨rfl | h1, h2⟩)
        · exact .inl (.inl h1)
        · exact .inl (.inr rfl)
        · exact .inr ⟨h1, h2⟩
mutual
theorem f12_mem (x : Str) : ∀ n : Nd, x ∈ f12 n ↔ fr x n = true
  | .mk o ns so a b l => by
    rw [f12_eq, fr_eq, f12L_mem x (.mk o ns so a b l) _ _, plusU_mem]
    simp
theorem f12L_mem (x : Str) (n : Nd) : ∀ (l : List Nd) (out : List Str), x ∈ f12L n l out ↔ x ∈ out ∨ (frL x l = true ∧ bndr n ≠ some x)
  | [], out => by simp [f12L, frL]
  | y :: l, out => by
    simp only [f12L, frL]
    rw [f12L_mem x n l, plusK_mem, f12_mem x y]
    simp only [Bool.or_eq_true]
    constructor
    · rintro ((h | ⟨h, h2⟩) | ⟨h, h2⟩)
      · exact .inl h
      · exact .inr ⟨.inl h, h2⟩
      · exact .inr ⟨.inr h, h2⟩
    · rintro (h | ⟨h | h, h2⟩)
      · exact .inl (.inl h)
      · exact .inl (.inr ⟨h, h2⟩)
      · exact .inr ⟨h, h2⟩
end
theorem plusF_len (l : List Str) (s : Str) : l.length ≤ (plusF l s).length ∧ (plusF l s).length ≤ l.length + 1 := by unfold plusF; split <;> simp
theorem plusU_len : ∀ (us out : List Str), out.length ≤ (plusU out us).length ∧ (plusU out us).length ≤ out.length + us.length
  | [], out => by simp [plusU]
  | u :: us, out => by
    have := plusU_len us (plusF out u)
    have h := plusF_len out u
    unfold plusU at this ⊢
    simp only [List.foldl_cons, List.length_cons]
    omega
theorem plusK_len (n : Nd) : ∀ (l out : List Str), out.length ≤ (plusK n out l).length ∧ (plusK n out l).length ≤ out.length + l.length
  | [], out => by simp [plusK]
  | u :: l, out => by
    unfold plusK
    rw [List.foldl_cons]
    have h := plusF_len out u
    cases hb : bndr n == some u with
    | true =>
      have := plusK_len n l out
      unfold plusK at this
      simp only [if_true, List.length_cons]; omega
    | false =>
      have := plusK_len n l (plusF out u)
      unfold plusK at this
      simp only [Bool.false_eq_true, if_false, List.length_cons]; omega
mutual
theorem f12_len : ∀ n : Nd, (f12 n).length ≤ bk n
  | .mk o ns so a b l => by
    have h1 := f12L_len (.mk o ns so a b l) l (plusU [] (uses (.mk o ns so a b l)))
    have h2 := plusU_len (uses (.mk o ns so a b l)) []
    have h3 := uses_len (.mk o ns so a b l)
    have h4 := len_bkS ns
    simp only [Nd.ns, List.length_nil] at h2 h3
    rw [f12_eq]
    simp only [bk, Nd.l]
    omega
theorem f12L_len (n : Nd) : ∀ (l : List Nd) (out : List Str), (f12L n l out).length ≤ out.length + bkL l
  | [], out => by simp [f12L, bkL]
  | x :: l, out => by
    have h1 := f12_len x
    have h2 := (plusK_len n (f12 x) out).2
    have h3 := f12L_len n l (plusK n out (f12 x))
    simp only [f12L, bkL]
    omega
end
theorem plusU_snoc (us : List Str) (u : Str) (out : List Str) : plusU out (us ++ [u]) = plusF (plusU out us) u := by unfold plusU; rw [List.foldl_append]; rfl
theorem plusK_snoc (n : Nd) (l : List Str) (u : Str) (out : List Str) : plusK n out (l ++ [u]) = if bndr n == some u then plusK n out l else plusF (plusK n out l) u := by unfold plusK; rw [List.foldl_append]; rfl
def spO : List Str → Sp
  | [] => .own 0
  | _ :: _ => .shared
theorem spO_scr (o : List Str) {k m : Nat} (hm : 0 < m) : scr k m (.slc (spO o) (o.map .str)) = .slc (spO o) (o.map .str) := by
  cases o with
  | nil => simp [spO, scr, hm]
  | cons x o => rfl
def f12R (n : Nd) : AV × Option Arr := (.slc .shared ((f12 n).map .str), match f12 n with
  | [] => some (.app 0 0 0)
  | _ => none)
section
variable {G : Nat → Option AV} {cl : Caller} {yl : Nat → List AV → Mem → Option (AV × Mem)} {N N0 : Nat}
def C87 (cl : Caller) : Prop := ∀ (sp : Sp) (l : List Str) (s : Str) (M : Mem), l.length < big → sp ≠ .full → cl 87 [.slc sp (l.map .str), .str s] M = takeV false (plR l s) M
theorem spO_ne (o : List Str) : spO o ≠ .full := by cases o <;> simp [spO]
theorem plus_step (h : C87 cl) (o : List Str) (s : Str) (M : Mem) (ho : o.length < big) : ∃ sp Y, cl 87 [.slc (spO o) (o.map .str), .str s] M = some (.slc sp ((plusF o s).map .str), ⟨M.objs, M.arrs ++ Y⟩) ∧ ∀ k, 0 < M.arrs.length → scr k M.arrs.length (.slc sp ((plusF o s).map .str)) = .slc (spO (plusF o s)) ((plusF o s).map .str) := by
  rw [h (spO o) o s M ho (spO_ne o)]
  unfold plR plusF
  cases hc : o.contains s with
  | true =>
    refine ⟨.shared, [], by simp [takeV], fun k hk => ?_⟩
    cases o with
    | nil => simp at hc
    | cons x o => rfl
  | false =>
    refine ⟨.own M.arrs.length, [.app (o.length + 1) 9 1], by simp [takeV], fun k hk => ?_⟩
    cases o <;> simp [scr, spO]
theorem loop86a (n : Nd) (us : List Str) (us' : Bool) (hb : us.length < big) (hN : us.length < N) (h : C87 cl) :
    iter false (evalC G false cl yl N0 c86b0) ⟨[1, 3, 4, 5], [(3, none), (5, none)]⟩ 1 1 N
      ⟨[(1, .ptr 0 0), (3, .slc (spO (plusU [] (us.take 0))) ((plusU [] (us.take 0)).map .str)), (4, .slc (nfl us') (us.map .str)), (5, .int .i64 ((0 : Nat) : Int))], ⟨[.cells (ndc n)], [.app 0 0 0]⟩, []⟩ =
      some (.exit 0, ⟨[(14, .bool false), (13, .int .i64 us.length), (12, .slc (nfl us') (us.map .str)), (11, .int .i64 us.length), (1, .ptr 0 0), (3, .slc (spO (plusU [] us)) ((plusU [] us).map .str)), (4, .slc (nfl us') (us.map .str)), (5, .int .i64 us.length)], ⟨[.cells (ndc n)], [.app 0 0 0]⟩, []⟩) := by
  unfold big at hb
  refine iter_all us (fun i => ⟨[(1, .ptr 0 0), (3, .slc (spO (plusU [] (us.take i))) ((plusU [] (us.take i)).map .str)), (4, .slc (nfl us') (us.map .str)), (5, .int .i64 (i : Int))], ⟨[.cells (ndc n)], [.app 0 0 0]⟩, []⟩) (.exit 0) _ hN (by simp) ?_ ?_
  · intro i x hx hi
    have w1 := wrap_succ (i := i) (by omega)
    have hx' := (List.getElem?_eq_some_iff.1 hx).2
    have hl := (plusU_len (us.take i) []).2
    rw [take_succ_of hx, plusU_snoc]
    generalize plusU [] (us.take i) = o at *
    obtain ⟨sp, Y, h1, h2⟩ := plus_step h o x ⟨[.cells (ndc n)], [.app 0 0 0]⟩ (by simp at hl; unfold big; omega)
    have h2' := h2 1 (by simp)
    simp only [List.length_cons, List.length_nil, Nat.zero_add] at h1 h2'
    simp only [List.cons_append, List.nil_append] at h1
    simp -implicitDefEqProofs [c86b0, hi, hx', w1, h1, h2', nfl_scr]
  · simp -implicitDefEqProofs [c86b0]
theorem loop86b (n : Nd) (o l : List Str) (s7 : Sp) (j : Int) (rs : List Arr) (hr : rs.map (scrA 1 rs.length) = rs) (hr0 : 0 < rs.length) (hs7 : scr 1 rs.length (.slc s7 (l.map .str)) = .slc s7 (l.map .str)) (hb : o.length + l.length < big) (hN : l.length < N) (h : C87 cl)
    (h125 : ∀ M, cl 125 [av n] M = some (.bool (bndr n).isSome, M)) :
    iter false (evalC G false cl yl N0 c86b1) ⟨[1, 3, 6, 7, 8], [(3, none), (8, none)]⟩ 1 rs.length N
      ⟨[(1, .ptr 0 0), (3, .slc (spO (plusK n o (l.take 0))) ((plusK n o (l.take 0)).map .str)), (6, .int .i64 j), (7, .slc s7 (l.map .str)), (8, .int .i64 ((0 : Nat) : Int))], ⟨[.cells (ndc n)], rs⟩, []⟩ =
      some (.exit 4, ⟨[(39, .bool false), (38, .int .i64 l.length), (37, .slc s7 (l.map .str)), (36, .int .i64 l.length), (1, .ptr 0 0), (3, .slc (spO (plusK n o l)) ((plusK n o l).map .str)), (6, .int .i64 j), (7, .slc s7 (l.map .str)), (8, .int .i64 l.length)], ⟨[.cells (ndc n)], rs⟩, []⟩) := by
  unfold big at hb
  refine iter_all l (fun i => ⟨[(1, .ptr 0 0), (3, .slc (spO (plusK n o (l.take i))) ((plusK n o (l.take i)).map .str)), (6, .int .i64 j), (7, .slc s7 (l.map .str)), (8, .int .i64 (i : Int))], ⟨[.cells (ndc n)], rs⟩, []⟩) (.exit 4) _ hN (by simp) ?_ ?_
  · intro i x hx hi
    have w1 := wrap_succ (i := i) (by omega)
    have hx' := (List.getElem?_eq_some_iff.1 hx).2
    have hl := (plusK_len n (l.take i) o).2
    have hlt : (l.take i).length ≤ l.length := by simp; omega
    rw [take_succ_of hx, plusK_snoc]
    generalize plusK n o (l.take i) = q at *
    obtain ⟨sp, Y, h1, h2⟩ := plus_step h q x ⟨[.cells (ndc n)], rs⟩ (by unfold big; omega)
    have h2' := h2 1 hr0
    simp only at h1 h2'
    have hq := spO_scr q (k := 1) hr0
    have ht : List.take rs.length rs = rs := List.take_length
    cases hbd : bndr n with
    | none =>
      rw [hbd] at h125
      have e : (Option.none == some x) = false := rfl
      simp -implicitDefEqProofs [c86b1, hi, hx', w1, h1, h2', hs7, hr, h125, ht, e]
    | some y =>
      rw [hbd] at h125
      obtain ⟨xs, hns⟩ := bndr_some hbd
      by_cases hxy : x = y
      · subst hxy
        have e : (some x == some x) = true := by simp
        simp -implicitDefEqProofs [c86b1, hi, hx', w1, h1, h2', hs7, hr, h125, ht, hns, strA, hq]
      · have e : (some y == some x) = false := by simp; exact fun h => hxy h.symm
        have e2 : (x == y) = false := by simp [hxy]
        simp -implicitDefEqProofs [c86b1, hi, hx', w1, h1, h2', hs7, hr, h125, ht, hns, strA, hxy, e, e2, fun h : y = x => hxy h.symm]
  · simp -implicitDefEqProofs [c86b1]
end
section
variable {G : Nat → Option AV} {cl : Caller} {yl : Nat → List AV → Mem → Option (AV × Mem)} {N N0 : Nat}
structure Cs86 (cl : Caller) (n : Nd) : Prop where
  h87 : C87 cl
  h124 : ∀ M, cl 124 [av n] M = some (.slc (nfl (usB n)) ((uses n).map .str), M)
  h125 : ∀ M, cl 125 [av n] M = some (.bool (bndr n).isSome, M)
  kids : ∀ x ∈ n.l, ∀ M, cl 86 [av x] M = takeV false (f12R x) M
theorem loop86c (n : Nd) (o : List Str) (h : Cs86 cl n) (hb : o.length + bk n < big) (hN : n.l.length < N) (hN0 : bk n < N0) :
    iter false (evalC G false cl yl N0 c86b2) ⟨[1, 3, 6], [(3, none), (6, none)]⟩ 1 1 N
      ⟨[(1, .ptr 0 0), (3, .slc (spO (f12L n (n.l.take 0) o)) ((f12L n (n.l.take 0) o).map .str)), (6, .int .i64 ((0 : Nat) : Int))], ⟨[.cells (ndc n)], [.app 0 0 0]⟩, []⟩ =
      some (.exit 2, ⟨[(27, .bool false), (26, .int .i64 n.l.length), (25, .slc .shared (avL n.l)), (24, .ptr 0 5), (23, .int .i64 n.l.length), (1, .ptr 0 0), (3, .slc (spO (f12L n n.l o)) ((f12L n n.l o).map .str)), (6, .int .i64 n.l.length)], ⟨[.cells (ndc n)], [.app 0 0 0]⟩, []⟩) := by
  have hlen := len_bk n
  unfold big at hb
  refine iter_all n.l (fun i => ⟨[(1, .ptr 0 0), (3, .slc (spO (f12L n (n.l.take i) o)) ((f12L n (n.l.take i) o).map .str)), (6, .int .i64 (i : Int))], ⟨[.cells (ndc n)], [.app 0 0 0]⟩, []⟩) (.exit 2) _ hN (by simp) ?_ ?_
  · intro i x hx hi
    have w1 := wrap_succ (i := i) (by omega)
    have hx' := (List.getElem?_eq_some_iff.1 hx).2
    have hl := f12L_len n (n.l.take i) o
    have hlb := bkL_take_succ hx
    have hlx := f12_len x
    have hkb := bk_eq n
    have hcx := h.kids x (mem_of_get hx)
    rw [take_succ_of hx, f12L_snoc]
    generalize f12L n (n.l.take i) o = q at *
    have hsq := spO_scr (plusK n q (f12 x)) (k := 1) (m := 1) (by omega)
    unfold f12R at hcx
    cases hf : f12 x with
    | nil =>
      rw [hf] at hcx hsq
      have l1 := loop86b (G := G) (cl := cl) (yl := yl) (N := N0) (N0 := N0) n q [] (.own 1) i [Arr.app 0 0 0, Arr.app 0 0 0] rfl (by simp) rfl (by simp; unfold big; omega) (by simp; omega) h.h87 h.h125
      have e : plusK n q [] = q := rfl
      rw [e] at hsq
      simp only [List.take_nil, e] at l1
      rw [show ((0 : Nat) : Int) = 0 from rfl] at l1
      rw [e]
      cases q with
      | nil =>
        simp [spO] at l1 hcx
        simp -implicitDefEqProofs [c86b2, hi, hx', w1, hcx, l1, spO]
      | cons y q =>
        simp [spO] at l1 hcx
        simp -implicitDefEqProofs [c86b2, hi, hx', w1, hcx, l1, spO]
    | cons s f =>
      rw [hf] at hcx hsq hlx
      have l1 := loop86b (G := G) (cl := cl) (yl := yl) (N := N0) (N0 := N0) n q (s :: f) .shared i [Arr.app 0 0 0] rfl (by simp) rfl (by unfold big; omega) (by omega) h.h87 h.h125
      have e : plusK n q ((s :: f).take 0) = q := rfl
      rw [e, show ((0 : Nat) : Int) = 0 from rfl] at l1
      generalize plusK n q (s :: f) = q' at *
      cases q with
      | nil =>
        simp only [spO, List.map_nil] at l1
        simp at l1 hcx
        simp -implicitDefEqProofs [c86b2, hi, hx', w1, hcx, l1, spO]
        exact hsq
      | cons y q =>
        simp only [spO, List.map_cons] at l1
        simp at l1 hcx
        simp -implicitDefEqProofs [c86b2, hi, hx', w1, hcx, l1, spO]
        exact hsq
  · simp -implicitDefEqProofs [c86b2]
theorem ev86 (n : Nd) (h : Cs86 cl n) (hb : bk n < 2147483648) (hN : bk n < N) : pureA G false cl yl N c86 [av n] = some (f12R n) := by
  have hul := uses_len n
  have hnl := names_bk n
  have hkb := bk_eq n
  have l1 := loop86a (G := G) (cl := cl) (yl := yl) (N := N) (N0 := N) n (uses n) (usB n) (by unfold big; omega) (by omega) h.h87
  have hpl := (plusU_len (uses n) []).2
  have l2 := loop86c (G := G) (cl := cl) (yl := yl) (N := N) (N0 := N) n (plusU [] (uses n)) h (by simp at hpl; unfold big; omega) (by have := len_bk n; omega) (by omega)
  have h124 := h.h124
  unfold f12R
  rw [f12_eq]
  simp only [List.take_zero, f12L] at l1 l2
  rw [show ((0 : Nat) : Int) = 0 from rfl] at l1 l2
  have e0 : plusU [] [] = [] := rfl
  rw [e0] at l1
  simp only [spO, List.map_nil] at l1
  generalize plusU [] (uses n) = q at *
  have hq := spO_scr q (k := 1) (m := 1) (by omega)
  generalize f12L n n.l q = r at *
  cases r with
  | nil => 
    simp only [spO, List.map_nil] at l2
    cases q with
    | nil => 
      simp only [spO, List.map_nil] at l1 l2
      simp -implicitDefEqProofs [c86, h124, nfl_scr, l1, l2]
    | cons y q =>
      simp only [spO, List.map_cons] at l1 l2
      simp -implicitDefEqProofs [c86, h124, nfl_scr, l1, l2]
  | cons s r =>
    cases q with
    | nil => 
      simp only [spO, List.map_nil, List.map_cons] at l1 l2
      simp -implicitDefEqProofs [c86, h124, nfl_scr, l1, l2]
    | cons y q =>
      simp only [spO, List.map_cons] at l1 l2
      simp -implicitDefEqProofs [c86, h124, nfl_scr, l1, l2]
end
section
variable {G : Nat → Option AV} {cl : Caller} {yl : Nat → List AV → Mem → Option (AV × Mem)} {N N0 : Nat}
structure Cs64 (cl : Caller) (n : Nd) : Prop where
  kids : ∀ x ∈ n.l, ∀ M, cl 64 [av x] M = some (av (smp x), M)
  h103 : ∀ a, n.l = [a] → n.op = 11 → ∀ M, cl 103 [av (smp a)] M = some (av (snot (smp a)), M)
  h104 : ∀ a b, n.l = [a, b] → ∀ M, cl 104 [.int .i64 n.op, av (smp a), av (smp b)] M = some (av (jnt n.op (smp a) (smp b)), M)
  h86 : ∀ a, n.l = [a] → ∀ M, cl 86 [av (smp a)] M = takeV false (f12R (smp a)) M
  h105 : ∀ (sp : Sp) (l : List Str) (s : Str) (M : Mem), l.length < big → cl 105 [.slc sp (l.map .str), .str s] M = some (.bool (l.contains s), M)
end
section
variable {G : Nat → Option AV} {cl : Caller} {yl : Nat → List AV → Mem → Option (AV × Mem)} {N N0 : Nat}
theorem ev16 (n : Nd) (e : Int) (h20 : ∀ M, cl 20 [av n] M = some (av n, M)) (h19 : ∀ M, cl 19 [av n, av n] M = some (.bool true, M)) : pureA G false cl yl N c16 [av n, .int .i64 e, av n, .int .i64 e] = some (.bool true, none) := by
  simp -implicitDefEqProofs [c16, h20, h19]
structure Cs6 (cl : Caller) (n : Nd) : Prop where
  h9 : ∀ M, cl 9 [] M = some (.bool true, M)
  h10 : ∀ M, cl 10 [av n] M = some (.bool (small n), M)
  h12 : ∀ M, cl 12 [av n] M = some (av n, M)
  h30 : ∀ M, cl 30 [av n] M = some (.tup [av (smpE n).1, .int .i64 (smpE n).2], M)
  h31 : ∀ M, cl 31 [av n] M = some (.tup [av (smpE n).1, .int .i64 (smpE n).2], M)
  h16 : ∀ M, cl 16 [av (smpE n).1, .int .i64 (smpE n).2, av (smpE n).1, .int .i64 (smpE n).2] M = some (.bool true, M)
end
theorem spC_selfR {orc : Nat → List AV → Ores} {f : Nat} {ags : List AV} {r : AV × Option Arr} (h : orc f ags = some r) (ha : argL ags = some ags) (M : Mem) : spC orc f ags M = takeV false r M := by
  unfold spC
  rw [ha]
  simp only [h]
section
variable {t : Nat}
def siE (s : Str) : List AV := [.str s, .int .i64 0]
theorem siE_inj (a b : Str) (h : siE a = siE b) : a = b := by simpa [siE] using h
theorem unit_inj (a b : Unit) (h : ([] : List AV) = []) : a = b := rfl
noncomputable abbrev R1 : List (Nat × (List AV → Ores)) :=
  (170, spR (fun s : Str => [.str s]) (fun s => (.bool (kwL.contains s), none)) (fun _ => True)) :: (149, spR siE (fun s => (.int .i64 (cutN isRun s), none)) (fun s => s.length < big)) ::
  (177, spR (fun _ : Unit => []) (fun _ => (.slc .full (kwL.map .str), none)) (fun _ => True)) :: (166, spB isRun) :: (167, spB isDig) :: (169, spB isLet) :: M14
theorem r1 : OrcOK Tryz.prog (GG t) (orcOf R1) := by
  have hB : ∀ {f : Nat} {g : UInt8 → Bool}, okB f g = true → ∀ ags r, spB g ags = some r → OrcAt Tryz.prog (GG t) f ags r := by
    intro f g h ags r hr
    obtain ⟨c, rfl, -, rfl⟩ := spR_inv hr
    exact orc_up (okB_at h c)
  refine orc_con _ _ _ ok170 (fun s _ => ⟨27, ev170 s (by omega) (fun M => spC_v unit_inj () (by repeat first | exact .here | refine .there ?_ rfl) (by exact trivial) (by rfl) (by rfl) M)⟩) ?_
  refine orc_con _ _ _ ok149 (fun s hs => ⟨s.length + 1, ev149 s hs (Nat.lt_succ_self _) (fun c M => spC_v (fun _ _ h => u8_inj h) c (by repeat first | exact .here | refine .there ?_ rfl) (by exact trivial) (by rfl) (by rfl) M)⟩) ?_
  refine orc_con _ _ _ ok177 (fun _ _ => ⟨1, ev177⟩) ?_
  exact orc_cons (orc_cons (orc_cons m14 (hB b169)) (hB b167)) (hB b166)
theorem r1_149 (s : Str) (hs : s.length < big) (M : Mem) : spC (orcOf R1) 149 [.str s, .int .i64 0] M = some (.int .i64 (cutN isRun s), M) :=
  spC_v siE_inj s (by repeat first | exact .here | refine .there ?_ rfl) (by exact hs) (by rfl) (by rfl) M
noncomputable abbrev R2 : List (Nat × (List AV → Ores)) := (117, spR (fun s : Str => [.str s]) (fun s => (.bool (isId s), none)) (fun s => s.length < big)) :: R1
theorem r2 : OrcOK Tryz.prog (GG t) (orcOf R2) := by
  refine orc_bw _ _ _ ok117 (fun s hs => ⟨s.length + 1, 4, ev117 s hs (fun _ M => bw_sp (r1_149 s hs M)) (fun h0 => ?_)⟩) r1
  have h167 : ∀ k (c : UInt8) M, BW (GG t) (orcOf R1) (s.length + 1) (k + 1) 167 [.int .u8 c.toNat] M = some (.bool (isDig c), M) := fun k c M => bw_sp (spC_v (fun _ _ h => u8_inj h) c (by repeat first | exact .here | refine .there ?_ rfl) (by exact trivial) (by rfl) (by rfl) M)
  have h169 : ∀ k (c : UInt8) M, BW (GG t) (orcOf R1) (s.length + 1) (k + 1) 169 [.int .u8 c.toNat] M = some (.bool (isLet c), M) := fun k c M => bw_sp (spC_v (fun _ _ h => u8_inj h) c (by repeat first | exact .here | refine .there ?_ rfl) (by exact trivial) (by rfl) (by rfl) M)
  have h170 : ∀ k M, BW (GG t) (orcOf R1) (s.length + 1) (k + 1) 170 [.str s] M = some (.bool (kwL.contains s), M) := fun k M => bw_sp (spC_v str1_inj s (by repeat first | exact .here | refine .there ?_ rfl) (by exact trivial) (by rfl) (by rfl) M)
  obtain ⟨v, e, h168⟩ := ev168 (G := GG t) (cl := BW (GG t) (orcOf R1) (s.length + 1) 2) (yl := YW (GG t) (orcOf R1) (s.length + 1) 2) (N := s.length + 1) s h0 hs (Nat.lt_succ_self _) (h167 1)
  have k168 : ∀ M, BW (GG t) (orcOf R1) (s.length + 1) 3 168 [.str s] M = some (.tup [.int .i64 v, .int .i64 e], M) := fun M =>
    bw_pure (cf := c168) (by unfold orcW; split <;> rfl) rfl rfl rfl rfl h168 M
  obtain ⟨k, tx, v', e', h150, h2⟩ := ev150 (G := GG t) (cl := BW (GG t) (orcOf R1) (s.length + 1) 3) (yl := YW (GG t) (orcOf R1) (s.length + 1) 3) (N := s.length + 1) s h0 hs (h167 2) (h169 2) ⟨v, e, k168⟩ (h170 2)
  exact ⟨k, tx, v', e', fun M => bw_pure (cf := c150) (by unfold orcW; split <;> rfl) rfl rfl rfl rfl h150 M, h2⟩
noncomputable abbrev R3 : List (Nat × (List AV → Ores)) := (116, spR (fun k : Int => [.int .i64 k]) (fun k => (.tup [.int .i64 (fA k), .int .i64 (fB k), .int .i64 (fC k)], none)) (fun k => 0 ≤ k ∧ k < 18)) :: R2
noncomputable abbrev R4 : List (Nat × (List AV → Ores)) := (76, sNd (fun n => .int .i64 (ndE n)) fun n => bk n ≤ big) :: R3
theorem r4 : OrcOK Tryz.prog (GG t) (orcOf R4) := by
  refine orc_self _ _ _ sz av1_inj ok76 ?_ (orc_con _ _ _ ok116 (fun k h => ⟨1, ev116 k h.1 h.2⟩) r2)
  intro n hb orc hself hother
  refine ⟨bk n + 1, ev76 n hb (Nat.lt_succ_self _) (fun h0 h1 M => ?_) (fun x hx M => ?_) (fun x hx M => ?_)⟩
  · rw [spC_ext (hother 116 (by decide))]
    exact spC_v int_inj n.op (by repeat first | exact .here | refine .there ?_ rfl) (by exact ⟨h0, h1⟩) (by rfl) (by rfl) M
  · rw [spC_ext (hother 117 (by decide))]
    exact spC_v str1_inj x (by repeat first | exact .here | refine .there ?_ rfl) (by have := mem_bkS hx; have := bk_eq n; show x.length < big; omega) (by rfl) (by rfl) M
  · exact spC_self (hself x (by have := bk_child hx; show bk x ≤ big; omega) (sz_child hx)) (by simp [e1]) M
noncomputable abbrev R5 : List (Nat × (List AV → Ores)) := (43, spR e1 (fun n => (.tup [av (ckd n).1, .int .i64 (ckd n).2], none)) (fun n => bk n ≤ big)) :: (42, sNd (fun n => .int .i64 (chk n)) fun n => bk n ≤ big) :: (77, sNd (fun n => .int .i64 (grt n)) fun n => bk n ≤ big) :: R4
theorem r5 : OrcOK Tryz.prog (GG t) (orcOf R5) := by
  refine orc_con _ _ _ ok43 (fun n hb => ⟨1, ev43 n fun M => spC_v av1_inj n (by repeat first | exact .here | refine .there ?_ rfl) (by exact hb) (by exact a1 n) (by rfl) M⟩) ?_
  refine orc_con _ _ _ ok42 (fun n hb => ⟨1, ev42 n (fun M => spC_v av1_inj n (by repeat first | exact .here | refine .there ?_ rfl) (by exact hb) (by exact a1 n) (by rfl) M) (fun M => spC_v av1_inj n (by repeat first | exact .here | refine .there ?_ rfl) (by exact hb) (by exact a1 n) (by rfl) M)⟩) ?_
  exact orc_con _ _ _ ok77 (fun n hb => ⟨1, ev77 n (fun M => spC_v av1_inj n (by repeat first | exact .here | refine .there ?_ rfl) (by exact hb) (by exact a1 n) (by rfl) M) (fun M => spC_v av1_inj n (by repeat first | exact .here | refine .there ?_ rfl) (by exact hb) (by exact a1 n) (by rfl) M)⟩) r4
end
section
variable {t : Nat}
noncomputable abbrev s19 : List AV → Ores := spR (fun p : Nd × Nd => [av p.1, av p.2]) (fun p => (.bool (sameN p.1 p.2), none)) (fun p => bk p.1 ≤ big ∧ bk p.2 ≤ big)
theorem c19_ {l : List (Nat × (List AV → Ores))} (h : Has l 19 s19) (a b : Nd) (ha : bk a ≤ big) (hb : bk b ≤ big) (M : Mem) : spC (orcOf l) 19 [av a, av b] M = some (.bool (sameN a b), M) :=
  spC_v av2_inj (a, b) h (by exact ⟨ha, hb⟩) (by exact a2 a b) (by rfl) M
noncomputable abbrev R6 : List (Nat × (List AV → Ores)) := (122, sNd (fun n => av (nd 11 [n])) fun _ => True) :: (79, spR e3 (fun p => (av (nd p.1 [p.2.1, p.2.2]), none)) (fun _ => True)) :: R5
theorem r6 : OrcOK Tryz.prog (GG t) (orcOf R6) := by
  refine orc_con _ _ _ ok122 (fun n _ => ⟨1, ev122 n⟩) ?_
  exact orc_con _ _ _ ok79 (fun p _ => ⟨1, ev79 p.1 p.2.1 p.2.2⟩) r5
noncomputable abbrev s105 : List AV → Ores := spR bsE (fun p => (.bool (p.2.1.contains p.2.2), none)) okC
def lsE (p : List Str × Str) : List AV := [.slc .shared (p.1.map .str), .str p.2]
theorem lsE_inj (a b : List Str × Str) (h : lsE a = lsE b) : a = b := by
  simp only [lsE, List.cons.injEq, and_true, AV.slc.injEq, AV.str.injEq, true_and] at h
  exact Prod.ext (strs_inj h.1) h.2
noncomputable abbrev RR7 : List (Nat × (List AV → Ores)) :=
  (125, sNd (fun n => .bool (n.op == 16 || n.op == 17)) fun _ => True) :: (124, sNd (fun n => .slc (nfl (usB n)) ((uses n).map .str)) fun n => ndE n = 0) ::
  (87, spR lsE (fun p => plR p.1 p.2) (fun p => p.1.length < big)) :: (126, s105) :: R6
theorem r7 : OrcOK Tryz.prog (GG t) (orcOf RR7) := by
  refine orc_con _ _ _ ok125 (fun n _ => ⟨1, ev125 n⟩) ?_
  refine orc_con _ _ _ ok124 (fun n hn => ⟨1, ev124 n (fun ho => ?_)⟩) ?_
  · cases vk_of hn with
    | cal x xs => simp [Nd.ns]
    | cst op h => simp at ho; omega
    | two op x y h => simp [Nd.op] at ho; omega
    | lab => simp [Nd.op] at ho
    | smd => simp [Nd.op] at ho
    | sng => simp [Nd.op] at ho
    | not => simp at ho
    | bin op a b h => simp at ho; omega
    | qnt op x so a h => simp at ho; omega
  refine orc_con _ _ _ ok87 (fun p hp => ⟨1, ev87 p.1 p.2 hp (fun M => spC_v bsE_inj (false, p.1, p.2) (by repeat first | exact .here | refine .there ?_ rfl) (by exact hp) (by rfl) (by rfl) M)⟩) ?_
  exact orc_con _ _ _ ok126 (fun p hp => ⟨p.2.1.length + 1, ev126 p.1 p.2.1 p.2.2 hp (Nat.lt_succ_self _)⟩) r6
theorem c87_ {l : List (Nat × (List AV → Ores))} (h : Has l 87 (spR lsE (fun p => plR p.1 p.2) (fun p => p.1.length < big))) : C87 (spC (orcOf l)) := by
  intro sp ls s M hl hsp
  refine spC_at lsE_inj (ls, s) h (by exact hl) ?_ M
  cases sp with
  | full => exact absurd rfl hsp
  | shared => rfl
  | own a => rfl
theorem bndr_is {n : Nd} (h : ndE n = 0) : (n.op == 16 || n.op == 17) = (bndr n).isSome := by
  have no : ¬ n.op = 16 → ¬ n.op = 17 → (n.op == 16 || n.op == 17) = (bndr n).isSome := fun h1 h2 => by
    unfold bndr
    simp [h1, h2]
  cases vk_of h with
  | qnt op x so a ho => rcases ho with rfl | rfl <;> rfl
  | cst op h => exact no (by simp; omega) (by simp; omega)
  | two op x y h => exact no (by simp only [Nd.op]; omega) (by simp only [Nd.op]; omega)
  | lab => exact no (by simp [Nd.op]) (by simp [Nd.op])
  | smd => exact no (by simp [Nd.op]) (by simp [Nd.op])
  | sng => exact no (by simp [Nd.op]) (by simp [Nd.op])
  | cal => exact no (by simp [Nd.op]) (by simp [Nd.op])
  | not => exact no (by simp) (by simp)
  | bin op a b h => exact no (by simp; omega) (by simp; omega)
noncomputable abbrev s86 : List AV → Ores := spR e1 f12R okV
noncomputable abbrev R8 : List (Nat × (List AV → Ores)) := (86, s86) :: RR7
theorem r8 : OrcOK Tryz.prog (GG t) (orcOf R8) := by
  refine orc_self _ _ _ sz av1_inj ok86 ?_ r7
  intro n hn orc hself hother
  have hb := okV_bk hn
  refine ⟨bk n + 1, ev86 n ⟨?_, fun M => ?_, fun M => ?_, fun x hx M => ?_⟩ (by omega) (Nat.lt_succ_self _)⟩
  · intro sp ls s M hl hsp
    rw [spC_ext (hother 87 (by decide))]
    exact c87_ (l := RR7) (by repeat first | exact .here | refine .there ?_ rfl) sp ls s M hl hsp
  · rw [spC_ext (hother 124 (by decide))]
    exact spC_v av1_inj n (by repeat first | exact .here | refine .there ?_ rfl) (by exact hn.1) (by exact a1 n) (by rfl) M
  · rw [spC_ext (hother 125 (by decide)), ← bndr_is hn.1]
    exact spC_v av1_inj n (by repeat first | exact .here | refine .there ?_ rfl) (by exact trivial) (by exact a1 n) (by rfl) M
  · exact spC_selfR (hself x (okV_kid hn hx) (sz_child hx)) (by simp [e1]) M
noncomputable abbrev R9 : List (Nat × (List AV → Ores)) := R8
theorem r9 : OrcOK Tryz.prog (GG t) (orcOf R9) := r8
def isE (p : Nd × Int) : List AV := [av p.1, .int .i64 p.2, av p.1, .int .i64 p.2]
theorem isE_inj (a b : Nd × Int) (h : isE a = isE b) : a = b := by
  simp only [isE, List.cons.injEq, and_true, AV.int.injEq, true_and] at h
  exact Prod.ext (av_inj h.1) h.2.1
noncomputable abbrev R10 : List (Nat × (List AV → Ores)) := (16, spR isE (fun _ => (.bool true, none)) (fun p => bk p.1 ≤ big)) :: R9
theorem r10 : OrcOK Tryz.prog (GG t) (orcOf R10) := by
  refine orc_con _ _ _ ok16 (fun p hp => ⟨1, ev16 p.1 p.2 (fun M => spC_v av1_inj p.1 (by repeat first | exact .here | refine .there ?_ rfl) (by exact hp) (by exact a1 _) (by rfl) M) (fun M => ?_)⟩) ?_
  · rw [c19_ (by repeat first | exact .here | refine .there ?_ rfl) p.1 p.1 hp hp M, (sameN_iff _ _).2 rfl]
  exact r9
end
end Go.Proofs.Ae
