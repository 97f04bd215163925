/- Further functions: what they answer, and what that means. -/
import Derived.Test.YtjkmcceipabejaaGreatDoorN
set_option linter.unusedSimpArgs false
set_option linter.unusedVariables false
set_option linter.unusedSectionVars false
namespace Go.Proofs.Ae
open Go Go.RowKit
section
variable {G : Nat → Option AV} {cl : Caller} {yl : Nat → List AV → Mem → Option (AV × Mem)} {N : Nat}
theorem ev130 (a b : List Str) (ha : a.length < big) (hN : a.length < N) : pureA G false cl yl N c130 [.slc .shared (a.map .str), .slc .shared (b.map .str)] = some (.bool (a == b), none) := by
  unfold big at ha
  by_cases hl : a.length = b.length
  · have k : ((a.length : Int) != (b.length : Int)) = false := by simp; omega
    have hz : (a.zip b).length = a.length := by simp [hl]
    have l1 := iter_find (mu := false) (step := evalC G false cl yl N c130b0) (an := ⟨[0, 1, 12, 13], [(13, none)], false⟩) (k := 0) (m := 0) (N := N) (a.zip b) (fun p => if p.1 == p.2 then none else some ())
      (fun i => ⟨[(0, .slc .shared (a.map .str)), (1, .slc .shared (b.map .str)), (12, .int .i64 a.length), (13, .int .i64 (i : Int))], ⟨[], []⟩, []⟩) (fun _ e s' => e = .ret ∧ look 4 s'.ts = .bool false ∧ s'.mks = []) (.exit 0)
      ⟨[(14, .bool false), (0, .slc .shared (a.map .str)), (1, .slc .shared (b.map .str)), (12, .int .i64 a.length), (13, .int .i64 a.length)], ⟨[], []⟩, []⟩ (by rw [hz]; omega) (by simp) ?_ ?_
    · rw [strs_zip _ _ hl]
      cases hf : (a.zip b).findSome? (fun p => if p.1 == p.2 then none else some ()) with
      | none =>
        rw [hf] at l1
        simp at l1
        simp -implicitDefEqProofs [c130, k, l1]
      | some r =>
        rw [hf] at l1
        obtain ⟨e, s', q1, -, rfl, q2, q3⟩ := l1
        simp at q1
        simp -implicitDefEqProofs [c130, k, q1, q2, q3]
    · intro i p hp hi
      obtain ⟨x, y⟩ := p
      obtain ⟨p1, p2⟩ := zip_get hp
      rw [hz] at hi
      have hib : i < b.length := by omega
      have w1 := wrap_succ (i := i) (by omega)
      have hx' := (List.getElem?_eq_some_iff.1 p1).2
      have hy' := (List.getElem?_eq_some_iff.1 p2).2
      simp only at hx' hy'
      cases hs : x == y <;> simp -implicitDefEqProofs [c130b0, strA, hi, hib, hx', hy', hs, w1]
    · rw [hz]; simp -implicitDefEqProofs [c130b0]
  · have k : ((a.length : Int) != (b.length : Int)) = true := by simp; omega
    have : (a == b) = false := by
      cases h : a == b with
      | false => rfl
      | true => exact absurd (by rw [eq_of_beq h]) hl
    simp -implicitDefEqProofs [c130, k, this]
theorem ev131 (a b : List Nd) (ha : a.length < big) (hN : a.length < N) (hc : ∀ x ∈ a, ∀ y ∈ b, ∀ M, cl 77 [av x, av y] M = some (.bool (sameN x y), M)) :
    pureA G false cl yl N c131 [.slc .shared (avL a), .slc .shared (avL b), .fn 77 [] []] = some (.bool (sameL a b), none) := by
  unfold big at ha
  by_cases hl : a.length = b.length
  · have k : ((a.length : Int) != (b.length : Int)) = false := by simp; omega
    have hz : (a.zip b).length = a.length := by simp [hl]
    have l1 := iter_find (mu := false) (step := evalC G false cl yl N c131b0) (an := ⟨[1, 2, 15, 16, 17], [(17, none)], false⟩) (k := 0) (m := 0) (N := N) (a.zip b) (fun p => if sameN p.1 p.2 then none else some ())
      (fun i => ⟨[(1, .slc .shared (avL b)), (2, .fn 77 [] []), (15, .slc .shared (avL a)), (16, .int .i64 a.length), (17, .int .i64 (i : Int))], ⟨[], []⟩, []⟩) (fun _ e s' => e = .ret ∧ look 6 s'.ts = .bool false ∧ s'.mks = []) (.exit 0)
      ⟨[(18, .bool false), (1, .slc .shared (avL b)), (2, .fn 77 [] []), (15, .slc .shared (avL a)), (16, .int .i64 a.length), (17, .int .i64 a.length)], ⟨[], []⟩, []⟩ (by rw [hz]; omega) (by simp) ?_ ?_
    · rw [sameL_zip _ _ hl]
      cases hf : (a.zip b).findSome? (fun p => if sameN p.1 p.2 then none else some ()) with
      | none =>
        rw [hf] at l1
        simp at l1
        simp -implicitDefEqProofs [c131, k, l1]
      | some r =>
        rw [hf] at l1
        obtain ⟨e, s', q1, -, rfl, q2, q3⟩ := l1
        simp at q1
        simp -implicitDefEqProofs [c131, k, q1, q2, q3]
    · intro i p hp hi
      obtain ⟨x, y⟩ := p
      obtain ⟨p1, p2⟩ := zip_get hp
      rw [hz] at hi
      have hib : i < b.length := by omega
      have w1 := wrap_succ (i := i) (by omega)
      have hc' := hc x (mem_of_get p1) y (mem_of_get p2)
      have hx' := (List.getElem?_eq_some_iff.1 p1).2
      have hy' := (List.getElem?_eq_some_iff.1 p2).2
      simp only at hx' hy'
      cases hs : sameN x y <;> simp -implicitDefEqProofs [c131b0, hi, hib, hx', hy', hc', hs, w1]
    · rw [hz]; simp -implicitDefEqProofs [c131b0]
  · have k : ((a.length : Int) != (b.length : Int)) = true := by simp; omega
    have : sameL a b = false := by
      cases h : sameL a b with
      | false => rfl
      | true => exact absurd (by rw [(sameL_iff _ _).1 h]) hl
    simp -implicitDefEqProofs [c131, k, this]
theorem ev77 (a b : Nd) (h56 : ∀ M, cl 130 [.slc .shared (a.ns.map .str), .slc .shared (b.ns.map .str)] M = some (.bool (a.ns == b.ns), M))
    (h57 : ∀ M, cl 131 [.slc .shared (avL a.l), .slc .shared (avL b.l), .fn 77 [] []] M = some (.bool (sameL a.l b.l), M)) :
    pureA G false cl yl N c77 [av a, av b] = some (.bool (sameN a b), none) := by
  rw [sameN_eq]
  cases h1 : (a.op == b.op) with
  | false => simp -implicitDefEqProofs [c77, h1]
  | true =>
    cases h2 : (a.so == b.so) with
    | false => simp -implicitDefEqProofs [c77, h1, h2]
    | true =>
      cases h3 : (a.nn == b.nn) with
      | false => simp -implicitDefEqProofs [c77, h1, h2, h3]
      | true =>
        cases h4 : (a.mm == b.mm) with
        | false => simp -implicitDefEqProofs [c77, h1, h2, h3, h4]
        | true =>
          cases h5 : (a.ns == b.ns) with
          | false =>
            rw [h5] at h56
            simp -implicitDefEqProofs [c77, h1, h2, h3, h4, h56]
          | true =>
            rw [h5] at h56
            simp -implicitDefEqProofs [c77, h1, h2, h3, h4, h56, h57]
def nfl (b : Bool) : Sp := if b then .full else .shared
theorem any_contains (s : Str) : ∀ l : List Str, l.contains s = !(l.all fun x => !(s == x))
  | [] => rfl
  | x :: l => by simp only [List.contains_cons, List.all_cons, any_contains s l]; cases s == x <;> simp
end
def Old {α : Type} (l l1 : List α) : Prop := ∀ (i : Nat) (x : α), l[i]? = some x → l1[i]? = some x
theorem Old.refl {α : Type} (l : List α) : Old l l := fun _ _ h => h
theorem Old.trans {α : Type} {l l1 l2 : List α} (h : Old l l1) (k : Old l1 l2) : Old l l2 := fun i x hi => k i x (h i x hi)
theorem Old.app {α : Type} (l r : List α) : Old l (l ++ r) := fun _ _ h => get_old h r
theorem Old.pre {α : Type} {l l1 : List α} (h : Old l l1) : ∃ X, l1 = l ++ X := by
  refine ⟨l1.drop l.length, ?_⟩
  apply List.ext_getElem?
  intro i
  by_cases hi : i < l.length
  · rw [List.getElem?_append_left hi, List.getElem?_eq_getElem hi]
    exact h i _ (List.getElem?_eq_getElem hi)
  · rw [List.getElem?_append_right (by omega), List.getElem?_drop]
    congr 1
    omega
theorem Old.len {α : Type} {l l1 : List α} (h : Old l l1) : l.length ≤ l1.length := by
  obtain ⟨X, rfl⟩ := h.pre
  simp
theorem Added.oldO {O O' : List Obj} {R R' : List Arr} {id : Nat} {a a' : Option Nat} {w : List Mc} (h : Added O R id a w O' R' a') {n : Nat} (hn : n ≤ id) : Old (O.take n) O' := by
  intro i o hi
  rw [List.getElem?_take] at hi
  split at hi
  · exact h.obj i o (by omega) hi
  · cases hi
section
variable {P : Program} {G : Nat → Option AV}
def twoC (s : Nat → Bool) (c1 c2 : Caller) : Caller := fun f ags M => match s f with
  | true => c1 f ags M
  | false => c2 f ags M
theorem twoC_ok {s : Nat → Bool} {c1 c2 : Caller} (h1 : CallerOK P G c1) (h2 : CallerOK P G c2) : CallerOK P G (twoC s c1 c2) := by
  intro f ags M v M' h
  unfold twoC at h
  split at h
  · exact h1 _ _ _ _ _ h
  · exact h2 _ _ _ _ _ h
theorem twoC_t {s : Nat → Bool} {c1 c2 : Caller} {f : Nat} {ags : List AV} {M : Mem} (h : s f = true) : twoC s c1 c2 f ags M = c1 f ags M := by
  unfold twoC
  rw [h]
theorem twoC_f {s : Nat → Bool} {c1 c2 : Caller} {f : Nat} {ags : List AV} {M : Mem} (h : s f = false) : twoC s c1 c2 f ags M = c2 f ags M := by
  unfold twoC
  rw [h]
end
section
variable {G : Nat → Option AV} {cl : Caller} {yl : Nat → List AV → Mem → Option (AV × Mem)} {N : Nat}
theorem ev45m {O : List Obj} {R : List Arr} {p : Nat} {x : Str} (m : Mc) (hp : O[p]? = some (.cells [.str x])) :
    callA G true cl yl N c45 [mcv m, .ptr p 0] ⟨O, R⟩ = some (.bool (m.nm == x), ⟨O ++ [.cells (mcc m)], R⟩) := by
  have hp' := fun r => get_old hp r
  simp -implicitDefEqProofs [c45, hp', strA, mcc_eq]
theorem loop44m (w : List Mc) (sp : Sp) (x : Str) {O : List Obj} {R : List Arr} {p : Nat} (hp : O[p]? = some (.cells [.str x])) (hb : w.length < big) (hN : w.length < N) (k m : Nat) {ts : Slots}
    (q0 : look 0 ts = .slc sp (w.map mcv)) (q1 : look 1 ts = .fn 45 [] [.ptr p 0]) (q7 : look 7 ts = .int .i64 w.length) (q8 : look 8 ts = .int .i64 0)
    (h45 : ∀ m X, cl 45 [mcv m, .ptr p 0] ⟨O ++ X, R⟩ = some (.bool (m.nm == x), ⟨O ++ X ++ [.cells (mcc m)], R⟩)) :
    ∃ e s', iter true (evalC G true cl yl N c44b0) ⟨[0, 1, 7, 8], [(8, none)], true⟩ k m N ⟨ts, ⟨O, R⟩, []⟩ = some (e, s') ∧ e ≠ .normal ∧
      (s'.mks = [] ∧ (∃ X, s'.m = ⟨O ++ X, R⟩) ∧ ((e = .exit 0 ∧ fix w x = -1) ∨ (e = .ret ∧ look 4 s'.ts = .int .i64 (fix w x)))) := by
  unfold big at hb
  have h := iter_inv (mu := true) (step := evalC G true cl yl N c44b0) (an := ⟨[0, 1, 7, 8], [(8, none)], true⟩) (k := k) (m := m) (N := N) (w.zipIdx 0) (fixG x)
    (fun i s => look 0 s.ts = .slc sp (w.map mcv) ∧ look 1 s.ts = .fn 45 [] [.ptr p 0] ∧ look 7 s.ts = .int .i64 w.length ∧ look 8 s.ts = .int .i64 (i : Int) ∧ s.mks = [] ∧ ∃ X, s.m = ⟨O ++ X, R⟩)
    (fun r e s' => s'.mks = [] ∧ (∃ X, s'.m = ⟨O ++ X, R⟩) ∧ match r with
      | none => e = .exit 0
      | some j => e = .ret ∧ look 4 s'.ts = .int .i64 (j : Int)) (s0 := ⟨ts, ⟨O, R⟩, []⟩) (by simpa using hN) ⟨q0, q1, q7, q8, rfl, [], by simp⟩ ?_ ?_
  · obtain ⟨e, s', h1, h2, h3, h4, h5⟩ := h
    refine ⟨e, s', h1, h2, h3, h4, ?_⟩
    rw [fixG_all] at h5
    unfold fix
    cases hf : w.findIdx? (fun m => m.nm == x) with
    | none => rw [hf] at h5; exact .inl ⟨h5, rfl⟩
    | some j => rw [hf] at h5; exact .inr h5
  · rintro i ⟨m, j⟩ ⟨ts, M, mks⟩ hx hi ⟨p0, p1, p7, p8, rfl, X, rfl⟩
    rw [List.getElem?_zipIdx] at hx
    have hil : i < w.length := by simpa using hi
    rw [List.getElem?_eq_getElem hil] at hx
    simp at hx
    obtain ⟨rfl, rfl⟩ := hx
    simp only at p0 p1 p7 p8
    have w1 := wrap_succ (i := i) (by omega)
    have k := h45 w[i] X
    cases hs : w[i].nm == x with
    | true =>
      rw [hs] at k
      simp -implicitDefEqProofs at k
      simp -implicitDefEqProofs [fixG, c44b0, p0, p1, p7, p8, hil, hs, w1, k]
    | false =>
      rw [hs] at k
      simp -implicitDefEqProofs at k
      simp -implicitDefEqProofs [fixG, c44b0, p0, p1, p7, p8, hil, hs, w1, k]
  · rintro ⟨ts, M, mks⟩ ⟨p0, p1, p7, p8, rfl, X, rfl⟩
    simp only at p0 p1 p7 p8
    simp -implicitDefEqProofs [c44b0, p7, p8]
theorem ev44m (w : List Mc) (sp : Sp) (x : Str) {O : List Obj} {R : List Arr} {p : Nat} (hp : O[p]? = some (.cells [.str x])) (hb : w.length < big) (hN : w.length < N)
    (h45 : ∀ m X, cl 45 [mcv m, .ptr p 0] ⟨O ++ X, R⟩ = some (.bool (m.nm == x), ⟨O ++ X ++ [.cells (mcc m)], R⟩)) :
    Gr (callA G true cl yl N c44 [.slc sp (w.map mcv), .fn 45 [] [.ptr p 0]] ⟨O, R⟩) (.int .i64 (fix w x)) O R := by
  obtain ⟨e, ⟨ts, M, mks⟩, h1, h2, rfl, ⟨X, rfl⟩, h3⟩ := loop44m (G := G) (cl := cl) (yl := yl) (N := N) w sp x (R := R) hp hb hN O.length R.length (ts := [(8, .int .i64 0), (7, .int .i64 w.length), (6, .slc sp (w.map mcv)), (4, .int .i64 0), (0, .slc sp (w.map mcv)), (1, .fn 45 [] [.ptr p 0])]) rfl rfl rfl rfl h45
  refine ⟨X, ?_⟩
  rcases h3 with ⟨rfl, h3⟩ | ⟨rfl, h3⟩
  · rw [h3]
    simp -implicitDefEqProofs [c44, h1]
  · simp at h3
    simp -implicitDefEqProofs [c44, h1, h3]
def spB' (b : Bool) : Sp := if b then .full else .shared
theorem ev61 (b1 b2 : Bool) (w : List Mc) (hb : w.length < big) (hN : w.length < N) (h62 : ∀ m ∈ w, ∀ M, cl 62 [mcv m, mcv m] M = some (.bool true, M)) :
    pureA G false cl yl N c61 [.slc (spB' b1) (w.map mcv), .slc (spB' b2) (w.map mcv), .fn 62 [] []] = some (.bool true, none) := by
  unfold big at hb
  have h1 := iter_all (mu := false) (step := evalC G false cl yl N c61b0) (an := ⟨[1, 2, 15, 16, 17], [(17, none)], false⟩) (k := 0) (m := 0) (N := N) w
    (fun i => ⟨[(1, .slc (spB' b2) (w.map mcv)), (2, .fn 62 [] []), (15, .slc (spB' b1) (w.map mcv)), (16, .int .i64 w.length), (17, .int .i64 (i : Int))], ⟨[], []⟩, []⟩)
    (.exit 0) ⟨[(18, .bool false), (1, .slc (spB' b2) (w.map mcv)), (2, .fn 62 [] []), (15, .slc (spB' b1) (w.map mcv)), (16, .int .i64 w.length), (17, .int .i64 w.length)], ⟨[], []⟩, []⟩ hN (by simp) ?_ ?_
  · cases b1 <;> cases b2 <;> simp [spB'] at h1 <;> simp -implicitDefEqProofs [c61, spB', h1, pureV, pureL]
  · intro i m hx hi
    have w1 := wrap_succ (i := i) (by omega)
    have hx' := (List.getElem?_eq_some_iff.1 hx).2
    have k := h62 m (mem_of_get hx)
    cases b1 <;> cases b2 <;> simp -implicitDefEqProofs [c61b0, spB', hi, hx', w1, k]
  · simp -implicitDefEqProofs [c61b0]
theorem ev61n (b1 b2 : Bool) (w1 w2 : List Mc) (h : w1.length ≠ w2.length) :
    pureA G false cl yl N c61 [.slc (spB' b1) (w1.map mcv), .slc (spB' b2) (w2.map mcv), .fn 62 [] []] = some (.bool false, none) := by
  have h' : ((w1.length : Int) != (w2.length : Int)) = true := by simp; omega
  cases b1 <;> cases b2 <;> simp -implicitDefEqProofs [c61, spB', h', pureV, pureL]
theorem ev62 (m : Mc) (h76 : ∀ M, cl 76 [.slc .shared (m.ps.map vrv), .slc .shared (m.ps.map vrv)] M = some (.bool true, M)) (h77 : ∀ M, cl 77 [av m.bd, av m.bd] M = some (.bool true, M)) :
    pureA G false cl yl N c62 [mcv m, mcv m] = some (.bool true, none) := by
  simp -implicitDefEqProofs [c62, mcc_eq, strA, h76, h77]
theorem ev76 (l : List Vr) (hb : l.length < big) (hN : l.length < N) : pureA G false cl yl N c76 [.slc .shared (l.map vrv), .slc .shared (l.map vrv)] = some (.bool true, none) := by
  unfold big at hb
  have h1 := iter_all (mu := false) (step := evalC G false cl yl N c76b0) (an := ⟨[0, 1, 12, 13], [(13, none)], false⟩) (k := 0) (m := 0) (N := N) l
    (fun i => ⟨[(0, .slc .shared (l.map vrv)), (1, .slc .shared (l.map vrv)), (12, .int .i64 l.length), (13, .int .i64 (i : Int))], ⟨[], []⟩, []⟩)
    (.exit 0) ⟨[(14, .bool false), (0, .slc .shared (l.map vrv)), (1, .slc .shared (l.map vrv)), (12, .int .i64 l.length), (13, .int .i64 l.length)], ⟨[], []⟩, []⟩ hN (by simp) ?_ ?_
  · simp at h1
    simp -implicitDefEqProofs [c76, h1]
  · intro i v hx hi
    have w1 := wrap_succ (i := i) (by omega)
    have hx' := (List.getElem?_eq_some_iff.1 hx).2
    have he : eqL [2, 1] [.str v.nm, .int .i64 v.so] [.str v.nm, .int .i64 v.so] = some true := by simp [eqL, kindEq]
    have hv : vrv v = .agg [.str v.nm, .int .i64 v.so] := rfl
    simp -implicitDefEqProofs [c76b0, hi, hx', w1, hv, he, -agg_vrv]
  · simp -implicitDefEqProofs [c76b0]
end
section
variable {t : Nat}
def ssE (p : List Str × List Str) : List AV := [.slc .shared (p.1.map .str), .slc .shared (p.2.map .str)]
theorem ssE_inj (a b : List Str × List Str) (h : ssE a = ssE b) : a = b := by
  simp only [ssE, List.cons.injEq, AV.slc.injEq, true_and, and_true] at h
  exact Prod.ext (strs_inj h.1) (strs_inj h.2)
noncomputable abbrev Q1 : List (Nat × (List AV → Ores)) := (77, spR e2 (fun p => (.bool (sameN p.1 p.2), none)) (fun p => bk p.1 ≤ big)) :: (130, spR ssE (fun p => (.bool (p.1 == p.2), none)) (fun p => p.1.length < big)) :: N7
theorem kq1 : OrcOK Tryz.prog (GG t) (orcOf Q1) := by
  refine orc_selfB _ _ _ (fun p => sz p.1) av2_inj ok77 ?_ (orc_con _ _ _ ok130 (fun p hb => ⟨p.1.length + 1, ev130 p.1 p.2 hb (Nat.lt_succ_self _)⟩) o37)
  intro p hb orc hself hother
  obtain ⟨a, b⟩ := p
  simp only at hb
  have hl := len_bk a
  refine ⟨bk a + 1, 3, ev77 a b (fun M => bw_sp ?_) (fun M => ?_)⟩
  · rw [spC_ext (hother 130 (by decide))]
    exact spC_v ssE_inj (a.ns, b.ns) (by repeat first | exact .here | refine .there ?_ rfl) (by have := names_bk a; show a.ns.length < big; omega) (by exact rfl) (by rfl) M
  · refine bw_pure (cf := c131) ?_ rfl rfl rfl rfl (ev131 a.l b.l (by omega) (by omega) fun x hx y hy M => bw_sp ?_) M
    · have : argL [.slc .shared (avL a.l), .slc .shared (avL b.l), .fn 77 [] []] = some [.slc .shared (avL a.l), .slc .shared (avL b.l), .fn 77 [] []] := by simp
      unfold orcW
      rw [this]
      show orc 131 _ = none
      rw [hother 131 (by decide)]; rfl
    · exact spC_self (hself (x, y) (by have := bk_child hx; show bk x ≤ big; omega) (sz_child hx)) (by simp [e2]) M
def eVV (l : List Vr) : List AV := [.slc .shared (l.map vrv), .slc .shared (l.map vrv)]
theorem eVV_inj (a b : List Vr) (h : eVV a = eVV b) : a = b := by
  simp only [eVV, List.cons.injEq, AV.slc.injEq, true_and, and_true] at h
  exact vrs_inj h.1
abbrev eMM (m : Mc) : List AV := [mcv m, mcv m]
theorem eMM_inj (a b : Mc) (h : eMM a = eMM b) : a = b := mcv_inj (by simp [eMM] at h; exact h)
noncomputable abbrev Q2 : List (Nat × (List AV → Ores)) := (62, spR eMM (fun _ => (.bool true, none)) OkM) :: (76, spR eVV (fun _ => (.bool true, none)) (fun l => l.length < big)) :: Q1
theorem kq2 : OrcOK Tryz.prog (GG t) (orcOf Q2) := by
  refine orc_con _ _ _ ok62 (fun m h => ⟨1, ev62 m (fun M => spC_v eVV_inj m.ps (by repeat first | exact .here | refine .there ?_ rfl) (by exact h.ps) (by exact rfl) (by rfl) M) fun M => spC_v av2_inj (m.bd, m.bd) (by repeat first | exact .here | refine .there ?_ rfl) (by exact h.bd) (by exact a2 _ _) (by
    have : sameN m.bd m.bd = true := (sameN_iff _ _).2 rfl
    simp only [this]) M⟩) ?_
  exact orc_con _ _ _ ok76 (fun l h => ⟨l.length + 1, ev76 l h (Nat.lt_succ_self _)⟩) kq1
def e61 (p : (Bool × Bool) × List Mc × List Mc) : List AV := [.slc (spB' p.1.1) (p.2.1.map mcv), .slc (spB' p.1.2) (p.2.2.map mcv), .fn 62 [] []]
theorem e61_inj (a b : (Bool × Bool) × List Mc × List Mc) (h : e61 a = e61 b) : a = b := by
  obtain ⟨⟨a1, a2⟩, a3, a4⟩ := a
  obtain ⟨⟨b1, b2⟩, b3, b4⟩ := b
  simp only [e61, List.cons.injEq, AV.slc.injEq, true_and, and_true] at h
  obtain ⟨⟨h1, h2⟩, h3, h4⟩ := h
  rw [mcs_inj h2, mcs_inj h4]
  have e1 : a1 = b1 := by cases a1 <;> cases b1 <;> simp_all [spB']
  have e2 : a2 = b2 := by cases a2 <;> cases b2 <;> simp_all [spB']
  rw [e1, e2]
noncomputable abbrev Q3 : List (Nat × (List AV → Ores)) := (61, spR e61 (fun p => (.bool (p.2.1.length == p.2.2.length), none)) (fun p => (p.2.1 = p.2.2 ∧ p.2.1.length < big ∧ ∀ d ∈ p.2.1, OkM d) ∨ p.2.1.length ≠ p.2.2.length)) :: Q2
theorem kq3 : OrcOK Tryz.prog (GG t) (orcOf Q3) := by
  refine orc_con _ _ _ ok61 ?_ kq2
  rintro ⟨⟨b1, b2⟩, w1, w2⟩ h
  rcases h with ⟨h1, h2, h3⟩ | h
  · simp only at h1 h2 h3
    subst h1
    refine ⟨w1.length + 1, ?_⟩
    simp only [beq_self_eq_true]
    exact ev61 b1 b2 w1 h2 (Nat.lt_succ_self _) fun m hm M => spC_v eMM_inj m (by repeat first | exact .here | refine .there ?_ rfl) (by exact h3 m hm) (by simp [eMM]) (by rfl) M
  · simp only at h
    refine ⟨1, ?_⟩
    have hb : (w1.length == w2.length) = false := by simpa using h
    simp only [hb]
    exact ev61n b1 b2 w1 w2 h
end
section
variable {t : Nat} {N : Nat}
theorem orcW_v {l : List (Nat × (List AV → Ores))} {f : Nat} {X : Type} {enc : X → List AV} {F : X → AV × Option Arr} {ok : X → Prop} (inj : ∀ x y, enc x = enc y → x = y) (x : X)
    (ho : Has l f (spR enc F ok)) (hx : ok x) {ags : List AV} (ha : argL ags = some (enc x)) : orcW (orcOf l) f ags = some (F x) := by
  unfold orcW
  rw [ha]
  simp only [ho.eq, spR_at inj hx]
theorem bp_ok (k : Nat) : CallerOK Tryz.prog (GG t) (BP t N k) ∧ YielderOK Tryz.prog (GG t) (YP t N k) :=
  both_ok (T := TW (orcOf N7)) hmix kis tabOK (orcW_ok o37) k false
end
def SetR (O : List Obj) (id : Nat) (w : List Mc) : Prop := ∃ sp, O[id]? = some (.cells [.slc sp (w.map mcv)])
theorem SetR.grow {O : List Obj} {id : Nat} {w : List Mc} (h : SetR O id w) (X : List Obj) : SetR (O ++ X) id w := by
  obtain ⟨sp, h⟩ := h
  exact ⟨sp, get_old h X⟩
theorem SetAt.r {O : List Obj} {R : List Arr} {id : Nat} {a : Option Nat} {w : List Mc} (h : SetAt O R id a w) : SetR O id w := h.get
section
variable {G : Nat → Option AV} {cl : Caller} {yl : Nat → List AV → Mem → Option (AV × Mem)} {N : Nat}
theorem ev15R (w : List Mc) (x : Str) {O : List Obj} {R : List Arr} {id : Nat} (hs : SetR O id w)
    (h44 : ∀ sp X p, (O ++ X)[p]? = some (.cells [.str x]) → Gr (cl 44 [.slc sp (w.map mcv), .fn 45 [] [.ptr p 0]] ⟨O ++ X, R⟩) (.int .i64 (fix w x)) (O ++ X) R)
    (h41 : ∀ d ∈ w, ∀ M, cl 41 [mcv d] M = some (mcv d, M)) :
    Gr (callA G false cl yl N c15 [.ptr id 0, .str x] ⟨O, R⟩) (lup w x) O R := by
  obtain ⟨sp, hg⟩ := hs
  have hg' := fun r => get_old hg r
  obtain ⟨Y, hY⟩ := h44 sp [.cells [.str x], .cells [.str [], .slc .full [], .int .i64 0, .slc .full [], .int .i64 0, .int .i64 0, .int .i64 0, .slc .full []]] O.length (by simp)
  simp -implicitDefEqProofs at hY
  unfold lup
  cases hf : fnd w x with
  | none =>
    have h1 : fix w x < 0 := fix_none.2 hf
    unfold Gr; apply Exists.intro
    simp -implicitDefEqProofs [c15, hg', hY, h1, mc0]
    rfl
  | some d =>
    obtain ⟨j, hj, hd⟩ := fix_some hf
    rw [hj] at hY
    have hj1 : j < w.length := (List.getElem?_eq_some_iff.1 hd).1
    have hd' : w[j] = d := (List.getElem?_eq_some_iff.1 hd).2
    have hp : ¬ (j : Int) < 0 := by omega
    have k := h41 d (List.mem_of_find?_eq_some hf)
    unfold Gr; apply Exists.intro
    simp -implicitDefEqProofs [c15, hg', hY, hj1, hd', hp, k, mcc_eq]
    rfl
theorem ev15t (w : List Mc) (x : Str) {O : List Obj} {R : List Arr} {id : Nat} (hs : SetR O id w)
    (h44 : ∀ sp X p, (O ++ X)[p]? = some (.cells [.str x]) → Gr (cl 44 [.slc sp (w.map mcv), .fn 45 [] [.ptr p 0]] ⟨O ++ X, R⟩) (.int .i64 (fix w x)) (O ++ X) R)
    (h41 : ∀ d ∈ w, ∀ M, cl 41 [mcv d] M = some (mcv d, M)) :
    Gr (callA G true cl yl N c15 [.ptr id 0, .str x] ⟨O, R⟩) (lup w x) O R := by
  obtain ⟨sp, hg⟩ := hs
  have hg' := fun r => get_old hg r
  obtain ⟨Y, hY⟩ := h44 sp [.cells [.str x], .cells [.str [], .slc .full [], .int .i64 0, .slc .full [], .int .i64 0, .int .i64 0, .int .i64 0, .slc .full []]] O.length (by simp)
  simp -implicitDefEqProofs at hY
  unfold lup
  cases hf : fnd w x with
  | none =>
    have h1 : fix w x < 0 := fix_none.2 hf
    unfold Gr; apply Exists.intro
    simp -implicitDefEqProofs [c15, hg', hY, h1, mc0]
    rfl
  | some d =>
    obtain ⟨j, hj, hd⟩ := fix_some hf
    rw [hj] at hY
    have hj1 : j < w.length := (List.getElem?_eq_some_iff.1 hd).1
    have hd' : w[j] = d := (List.getElem?_eq_some_iff.1 hd).2
    have hp : ¬ (j : Int) < 0 := by omega
    have k := h41 d (List.mem_of_find?_eq_some hf)
    unfold Gr; apply Exists.intro
    simp -implicitDefEqProofs [c15, hg', hY, hj1, hd', hp, k, mcc_eq]
    rfl
end
section
variable {t : Nat} {N : Nat}
theorem p15R {k : Nat} {O : List Obj} {R : List Arr} {id : Nat} {w : List Mc} (hs : SetR O id w) (hb : w.length < big) (hN : w.length < N) (hm : ∀ d ∈ w, OkM d) (x : Str) :
    Gr (BP t N (k + 3) 15 [.ptr id 0, .str x] ⟨O, R⟩) (lup w x) O R := by
  rw [BP, bw_in (cf := c15) (by unfold orcW; split <;> rfl) rfl rfl rfl]
  refine ev15R w x hs (fun sp X p hp => ?_) (fun d hd M => ?_)
  · rw [bw_in (cf := c44) (by unfold orcW; split <;> rfl) rfl rfl (by rw [argL_fnp]; rfl)]
    exact ev44 w sp x hp hb hN fun m Y => p45 hp m Y
  · exact bw_sp (spC_v eM_inj d (by repeat first | exact .here | refine .there ?_ rfl) (by exact hm d hd) (by exact aM d) (by rfl) M)
theorem p95R {k : Nat} {O : List Obj} {R : List Arr} {id : Nat} {w : List Mc} (hs : SetR O id w) (hb : w.length < big) (hN : w.length < N) (hm : ∀ d ∈ w, OkM d) (n : Nd) (env : List Vr) {c : AV} (hc : Sc O c env) (he : ∀ v ∈ env, 0 ≤ v.so) (hk : env.length < k + 3) (hne : n.ns ≠ []) (hnb : n.ns.length < big) (hnN : n.ns.length < N) :
    Gr (BP t N (k + 4) 95 [.ptr id 0, av n, c] ⟨O, R⟩) (.int .i64 (callE w n.ns env)) O R := by
  obtain ⟨f, cap, rfl⟩ := hc.fn
  rw [BP, bw_in (cf := c95) (by unfold orcW; split <;> rfl) rfl rfl rfl]
  exact ev95 w n env he hne hnb hnN (fun x _ X => p15R (hs.grow X) hb hN hm x) (look_ok hc _ hk)
theorem p39R {w : List Mc} (hb : w.length < big) (hN : w.length < N) (hm : ∀ d ∈ w, OkM d) (all : Bool) : ∀ (sn : Nat) (n : Nd), sz n ≤ sn → ndE n = 0 → bk n ≤ big → bk n < N → ∀ (env : List Vr), (∀ v ∈ env, 0 ≤ v.so) →
    ∀ (k : Nat) (O : List Obj) (R : List Arr) (id : Nat) (c : AV), SetR O id w → Sc O c env → env.length + 2 * dp n + 4 < k →
      Gr (BP t N k 39 [.ptr id 0, av n, c, .bool all] ⟨O, R⟩) (.int .i64 (wlk w all n env)) O R := by
  intro sn
  induction sn with
  | zero => intro n h; have := sz_eq n; omega
  | succ sn ih =>
    intro n hsn hv hbn hbN env he k O R id c hs hc hk
    obtain ⟨k, rfl⟩ := Nat.exists_eq_succ_of_ne_zero (n := k) (by omega)
    have hnl := names_bk n
    have hll := len_bk n
    have hd1 : 1 ≤ dp n := by have := dp_eq n; omega
    obtain ⟨f, cap, rfl⟩ := hc.fn
    rw [BP, bw_in (cf := c39) (by unfold orcW; split <;> rfl) rfl rfl rfl]
    have hin := inn_len n env
    refine ev39 w all n env he (by omega) (by omega) (by omega) (by omega) ⟨fun h => vd_ns hv (.inr h), vd_cal hv, (vd_iff.1 hv).op1, hc, fun X => (look_ok hc k (by omega)).grow X, ?_, ?_, ?_, ?_⟩
    · intro x hx X c' hc'
      have hd := dp_child hx
      have := bk_child hx
      have := sz_child hx
      exact ih x (by omega) (ndE_kid hv hx) (by omega) (by omega) _ (inn_so hv he) k _ R id c' (hs.grow X) hc' (by omega)
    · intro h10 X
      obtain ⟨j, rfl⟩ : ∃ j, k = j + 4 := ⟨k - 4, by omega⟩
      exact p95R (hs.grow X) hb hN hm n env (hc.grow X) he (by omega) (vd_ns hv (.inl h10)) (by omega) (by omega)
    · intro M
      obtain ⟨j, rfl⟩ : ∃ j, k = j + 1 := ⟨k - 1, by omega⟩
      exact bw_sp (spC_v av1_inj n (by repeat first | exact .here | refine .there ?_ rfl) (by exact trivial) (by exact a1 n) (by rfl) M)
    · intro v X
      obtain ⟨j, rfl⟩ : ∃ j, k = j + 1 := ⟨k - 1, by omega⟩
      exact p97 v rfl
end
theorem rowOf_eq {M : Mem} {a g ty : Nat} {l : Lay} {cs : List AV} (h : M.arrs[a]? = some (.wr g ty l cs)) : rowOf M a g = some (ty, l, cs) := by
  unfold rowOf; rw [h]; simp
def asE (as' : List (Str × Str)) : List (AV × AV) := as'.map fun p => (.str p.1, .str p.2)
def lkS : List (Str × Str) → Str → Option Str
  | [], _ => none
  | p :: ps, x => if x == p.1 then some p.2 else lkS ps x
def ptS : List (Str × Str) → Str → Str → List (Str × Str)
  | [], x, y => [(x, y)]
  | p :: ps, x, y => if x == p.1 then (x, y) :: ps else p :: ptS ps x y
theorem find_asE (x : Str) : ∀ l : List (Str × Str), find (.str x) (asE l) = some ((lkS l x).map .str)
  | [] => rfl
  | p :: ps => by
    have ih := find_asE x ps
    unfold asE at ih ⊢
    simp only [List.map_cons, find, eqK, lkS]
    cases h : x == p.1 with
    | true => simp
    | false => simp [ih]
theorem put_asE (x y : Str) : ∀ l : List (Str × Str), put (.str x) (.str y) (asE l) = some (asE (ptS l x y))
  | [] => rfl
  | p :: ps => by
    have ih := put_asE x y ps
    unfold asE at ih ⊢
    simp only [List.map_cons, put, eqK, ptS]
    cases h : x == p.1 with
    | true => simp
    | false => simp [ih]
def ren (l : List (Str × Str)) (x : Str) : Str := (lkS l x).getD x
def rc (pre : List AV) (m : List (Str × Str)) (l : List Str) (i : Nat) : List AV := pre ++ ((l.take i).map (ren m) ++ l.drop i).map .str
theorem rc_0 (pre : List AV) (m : List (Str × Str)) (l : List Str) : rc pre m l 0 = pre ++ l.map .str := by simp [rc]
theorem rc_end (pre : List AV) (m : List (Str × Str)) (l : List Str) : rc pre m l l.length = pre ++ (l.map (ren m)).map .str := by simp [rc]
theorem rc_len (pre : List AV) (m : List (Str × Str)) (l : List Str) (i : Nat) (hi : i ≤ l.length) : (rc pre m l i).length = pre.length + l.length := by simp [rc]; omega
theorem rc_next (pre : List AV) (m : List (Str × Str)) : ∀ (l : List Str) (i : Nat) (x : Str), l[i]? = some x → (rc pre m l i)[pre.length + i]? = some (.str x) ∧
    (rc pre m l i).take (pre.length + i) ++ .str (ren m x) :: (rc pre m l i).drop (pre.length + i + 1) = rc pre m l (i + 1) := by
  intro l i x hx
  obtain ⟨hlt, hx'⟩ := List.getElem?_eq_some_iff.1 hx
  have hd : l.drop i = x :: l.drop (i + 1) := by rw [List.drop_eq_getElem_cons hlt, hx']
  have e : rc pre m l i = (pre ++ ((l.take i).map (ren m)).map .str) ++ .str x :: (l.drop (i + 1)).map .str := by
    unfold rc; rw [hd]; simp
  have hl : (pre ++ ((l.take i).map (ren m)).map AV.str).length = pre.length + i := by simp; omega
  have e2 : rc pre m l (i + 1) = (pre ++ ((l.take i).map (ren m)).map .str) ++ .str (ren m x) :: (l.drop (i + 1)).map .str := by
    unfold rc
    rw [List.take_add_one, hx]
    simp
  rw [e, e2, ← hl]
  refine ⟨by simp, ?_⟩
  rw [List.take_left, List.drop_append]
  simp
def nc6 (op so nn mm : Int) (nv kv : AV) : List AV := [.int .i64 op, nv, .int .i64 so, .int .i64 nn, .int .i64 mm, kv]
def celL : AV → List AV
  | .agg cs => cs
  | _ => []
def flC (vs : List AV) : List AV := (vs.map celL).flatten
def NmAt (ar : List Arr) (ns : List Str) (lo m : Nat) (nv : AV) : Prop := (ns = [] ∧ nv = .slc .full [] ∧ lo ≤ m) ∨ (ns ≠ [] ∧ lo < m ∧ nv = .osl lo 0 0 ns.length ∧ ar[lo]? = some (.wr 0 9 .sc (ns.map .str)))
def KvAt (ar : List Arr) (n b : Nat) (vs : List AV) (kv : AV) (m hi : Nat) : Prop := (n = 0 ∧ kv = .slc .full []) ∨ (∃ k, n = k + 1 ∧ kv = .osl b k 0 (k + 1) ∧ ar[b]? = some (.wr k 40 (.ag 6) (flC vs)) ∧ m ≤ b ∧ b < hi)
mutual
def Ld (ar : List Arr) : Nd → Nat → Nat → AV → Prop
  | .mk op ns so nn mm l, lo, hi, v => ∃ nv kv m b vs, v = .agg (nc6 op so nn mm nv kv) ∧ NmAt ar ns lo m nv ∧ m ≤ hi ∧ KvAt ar l.length b vs kv m hi ∧ LdL ar l m hi b vs
def LdL (ar : List Arr) : List Nd → Nat → Nat → Nat → List AV → Prop
  | [], lo, hi, b, vs => vs = []
  | x :: xs, lo, hi, b, vs => ∃ v vs' l1 h1, vs = v :: vs' ∧ lo ≤ l1 ∧ l1 ≤ h1 ∧ h1 ≤ hi ∧ (b < l1 ∨ h1 ≤ b) ∧ Ld ar x l1 h1 v ∧ LdL ar xs h1 hi b vs'
end
theorem NmAt.frame {ar ar' : List Arr} {ns : List Str} {lo m : Nat} {nv : AV} (hf : ∀ i, lo ≤ i → i < m → ar'[i]? = ar[i]?) (h : NmAt ar ns lo m nv) : NmAt ar' ns lo m nv := by
  rcases h with h | ⟨h1, h2, h3, h4⟩
  · exact .inl h
  · exact .inr ⟨h1, h2, h3, by rw [hf lo (Nat.le_refl _) h2]; exact h4⟩
theorem KvAt.frame {ar ar' : List Arr} {n b : Nat} {vs : List AV} {kv : AV} {m hi : Nat} (hf : ∀ i, m ≤ i → i < hi → ar'[i]? = ar[i]?) (h : KvAt ar n b vs kv m hi) : KvAt ar' n b vs kv m hi := by
  rcases h with h | ⟨k, h1, h2, h3, h4, h5⟩
  · exact .inl h
  · exact .inr ⟨k, h1, h2, by rw [hf b h4 h5]; exact h3, h4, h5⟩
mutual
theorem Ld.frame {ar ar' : List Arr} : ∀ (n : Nd) {lo hi : Nat} {v : AV}, (∀ i, lo ≤ i → i < hi → ar'[i]? = ar[i]?) → Ld ar n lo hi v → Ld ar' n lo hi v
  | .mk op ns so nn mm l, lo, hi, v, hf, h => by
    simp only [Ld] at h ⊢
    obtain ⟨nv, kv, m, b, vs, h1, h2, h3, h4, h5⟩ := h
    have hm : lo ≤ m := by rcases h2 with ⟨_, _, h⟩ | ⟨_, h, _⟩ <;> omega
    exact ⟨nv, kv, m, b, vs, h1, h2.frame (fun i a c => hf i a (by omega)), h3, h4.frame (fun i a c => hf i (by omega) c), LdL.frame l (fun i a c => hf i (by omega) c) h5⟩
theorem LdL.frame {ar ar' : List Arr} : ∀ (l : List Nd) {lo hi b : Nat} {vs : List AV}, (∀ i, lo ≤ i → i < hi → ar'[i]? = ar[i]?) → LdL ar l lo hi b vs → LdL ar' l lo hi b vs
  | [], lo, hi, b, vs, hf, h => by simp only [LdL] at h ⊢; exact h
  | x :: xs, lo, hi, b, vs, hf, h => by
    simp only [LdL] at h ⊢
    obtain ⟨v, vs', l1, h1, e, a1, a2, a3, a4, a5, a6⟩ := h
    exact ⟨v, vs', l1, h1, e, a1, a2, a3, a4, Ld.frame x (fun i a c => hf i (by omega) (by omega)) a5, LdL.frame xs (fun i a c => hf i (by omega) c) a6⟩
end
mutual
theorem Ld.frB {ar ar' : List Arr} : ∀ (n : Nd) {lo hi : Nat} {v : AV}, (∀ i, lo ≤ i → i < hi → ar'[i]? = ar[i]?) → Ld ar n lo hi v → Ld ar' n lo hi v
  | n, lo, hi, v, hf, h => Ld.frame n hf h
end
theorem LdL.frB {ar ar' : List Arr} : ∀ (l : List Nd) {lo hi b : Nat} {vs : List AV}, (∀ i, lo ≤ i → i < hi → i ≠ b → ar'[i]? = ar[i]?) → LdL ar l lo hi b vs → LdL ar' l lo hi b vs
  | [], lo, hi, b, vs, hf, h => by simp only [LdL] at h ⊢; exact h
  | x :: xs, lo, hi, b, vs, hf, h => by
    simp only [LdL] at h ⊢
    obtain ⟨v, vs', l1, h1, e, a1, a2, a3, a4, a5, a6⟩ := h
    exact ⟨v, vs', l1, h1, e, a1, a2, a3, a4, Ld.frame x (fun i a c => hf i (by omega) (by omega) (by omega)) a5, LdL.frB xs (fun i a c d => hf i (by omega) c d) a6⟩
theorem LdL.snoc {ar : List Arr} {x : Nd} {v : AV} : ∀ (l : List Nd) {lo h0 l1 h1 hi b : Nat} {vs : List AV}, LdL ar l lo h0 b vs → lo ≤ h0 → h0 ≤ l1 → l1 ≤ h1 → h1 ≤ hi → (b < l1 ∨ h1 ≤ b) → Ld ar x l1 h1 v → LdL ar (l ++ [x]) lo hi b (vs ++ [v])
  | [], lo, h0, l1, h1, hi, b, vs, h, g0, g1, g2, g3, g4, g5 => by
    simp only [LdL] at h
    subst h
    simp only [List.nil_append, LdL]
    exact ⟨v, [], l1, h1, rfl, by omega, g2, g3, g4, g5, rfl⟩
  | y :: ys, lo, h0, l1, h1, hi, b, vs, h, g0, g1, g2, g3, g4, g5 => by
    simp only [LdL] at h
    obtain ⟨u, us, l2, h2, rfl, a1, a2, a3, a4, a5, a6⟩ := h
    simp only [List.cons_append, LdL]
    exact ⟨u, us ++ [v], l2, h2, rfl, a1, a2, by omega, a4, a5, LdL.snoc ys a6 a3 g1 g2 g3 g4 g5⟩
theorem dig_of : ∀ d, d < 10 → isDig (UInt8.ofNat (48 + d)) = true := by decide
theorem dd_dig (u : Nat) : (Lib.decDigits u).all isDig = true := by
  induction u using Nat.strongRecOn with
  | _ u ih =>
    by_cases hu : u < 10
    · rw [dd_lt hu]; simp only [List.all_cons, List.all_nil, Bool.and_true]; exact dig_of u hu
    · rw [dd_ge hu, List.all_append, ih (u / 10) (by omega)]
      simp only [List.all_cons, List.all_nil, Bool.and_true, Bool.true_and]; exact dig_of (u % 10) (by omega)
def ddv (l : List UInt8) : Nat := l.foldl (fun a c => 10 * a + (c.toNat - 48)) 0
theorem sub_of : ∀ d, d < 10 → (UInt8.ofNat (48 + d)).toNat - 48 = d := by decide
theorem dd_val (u : Nat) : ddv (Lib.decDigits u) = u := by
  induction u using Nat.strongRecOn with
  | _ u ih =>
    by_cases hu : u < 10
    · rw [dd_lt hu]
      have := sub_of u hu
      simp only [ddv, List.foldl_cons, List.foldl_nil]
      omega
    · have i1 := ih (u / 10) (by omega)
      have := sub_of (u % 10) (by omega)
      rw [dd_ge hu]
      unfold ddv at i1 ⊢
      rw [List.foldl_append, i1]
      simp only [List.foldl_cons, List.foldl_nil]
      omega
theorem isId_iff (s : Str) : isId s = true ↔ s ≠ [] ∧ s.all isRun = true ∧ s ∉ kwL ∧ isDig (s.headD 0) = false ∧ isLet (s.headD 0) = true ∧ s.length ≤ 16 := by
  unfold isId runF
  generalize s.headD 0 = c
  by_cases h1 : s ∈ kwL
  · simp [h1]
  · by_cases h2 : isDig c = true
    · simp [h1, h2]
    · have h2' : isDig c = false := by simpa using h2
      by_cases h3 : isLet c = false
      · simp [h1, h2', h3]
      · have h3' : isLet c = true := by simpa using h3
        by_cases h4 : s.length > 16
        · have : ¬ s.length ≤ 16 := by omega
          simp [h1, h2', h3', h4, this]
        · have : s.length ≤ 16 := by omega
          simp [h1, h2', h3', h4, this]
theorem isId_big {s : Str} (h : isId s = true) : s.length < big := by
  have := ((isId_iff s).1 h).2.2.2.2.2
  unfold big; omega
theorem kw_last : ∀ w ∈ kwL, isDig (w.getLastD 0) = false := by decide
theorem dig_run (c : UInt8) (h : isDig c = true) : isRun c = true := by unfold isRun; simp [h]
def zz (i : Nat) : Str := 122 :: Lib.decDigits i
theorem dd_inj {i j : Nat} (h : Lib.decDigits i = Lib.decDigits j) : i = j := by
  have := congrArg ddv h
  rwa [dd_val, dd_val] at this
theorem zz_inj {i j : Nat} (h : zz i = zz j) : i = j := dd_inj (by simpa [zz] using h)
theorem dd_ne (i : Nat) : Lib.decDigits i ≠ [] := by
  by_cases h : i < 10
  · rw [dd_lt h]; simp
  · rw [dd_ge h]; simp
theorem zz_id {i : Nat} (hi : i < big) : isId (zz i) = true := by
  have hl := dd_len 9 i (by unfold big at hi; omega)
  have hd := dd_dig i
  rw [List.all_eq_true] at hd
  rw [isId_iff]
  refine ⟨by simp [zz], ?_, ?_, by rfl, by rfl, by simp [zz]; omega⟩
  · rw [List.all_eq_true]
    intro y hy
    simp only [zz, List.mem_cons] at hy
    rcases hy with rfl | hy
    · rfl
    · exact dig_run y (hd y hy)
  · intro hk
    have := kw_last _ hk
    have hlast : (zz i).getLastD 0 = (Lib.decDigits i).getLast (dd_ne i) := by
      unfold zz
      rw [List.getLastD_eq_getLast?, List.getLast?_cons, List.getLast?_eq_some_getLast (dd_ne i)]
      rfl
    rw [hlast, hd _ (List.getLast_mem (dd_ne i))] at this
    cases this
theorem zz_nodup : ∀ (n s : Nat), ((List.range' s n).map zz).Nodup
  | 0, s => by simp
  | n + 1, s => by
    rw [List.range'_succ, List.map_cons, List.nodup_cons]
    refine ⟨?_, zz_nodup n (s + 1)⟩
    intro h
    obtain ⟨j, hj, e⟩ := List.mem_map.1 h
    have := zz_inj e
    rw [List.mem_range'_1] at hj
    omega
theorem sub_len {l : List Str} : ∀ {l' : List Str}, l'.Nodup → (∀ x ∈ l', x ∈ l) → l'.length ≤ l.length := by
  induction l with
  | nil =>
    intro l' _ h
    cases l' with
    | nil => simp
    | cons x xs => exact absurd (h x (by simp)) (by simp)
  | cons a l ih =>
    intro l' hn h
    by_cases ha : a ∈ l'
    · have h1 := ih (hn.erase a) fun x hx => by
        have hx' := (hn.mem_erase_iff.1 hx)
        rcases List.mem_cons.1 (h x hx'.2) with e | e
        · exact absurd e hx'.1
        · exact e
      rw [List.length_erase_of_mem ha] at h1
      simp; omega
    · have h1 := ih hn fun x hx => by
        rcases List.mem_cons.1 (h x hx) with e | e
        · subst e; exact absurd hx ha
        · exact e
      simp; omega
theorem zz_free (l : List Str) (s : Nat) : ∃ n, s < n ∧ n ≤ s + l.length + 1 ∧ zz n ∉ l := by
  apply Classical.byContradiction
  intro hno
  have hall : ∀ x ∈ (List.range' (s + 1) (l.length + 1)).map zz, x ∈ l := by
    intro x hx
    obtain ⟨j, hj, rfl⟩ := List.mem_map.1 hx
    rw [List.mem_range'_1] at hj
    apply Classical.byContradiction
    intro hx'
    exact hno ⟨j, by omega, by omega, hx'⟩
  have := sub_len (zz_nodup (l.length + 1) (s + 1)) hall
  simp at this
  omega
theorem zz_first (l : List Str) (s : Nat) : ∃ n, s < n ∧ n ≤ s + l.length + 1 ∧ zz n ∉ l ∧ ∀ i, s < i → i < n → zz i ∈ l := by
  obtain ⟨n, h1, h2, h3⟩ := zz_free l s
  induction n using Nat.strongRecOn with
  | _ n ih =>
    by_cases h : ∃ i, s < i ∧ i < n ∧ zz i ∉ l
    · obtain ⟨i, g1, g2, g3⟩ := h
      exact ih i g2 g1 (by omega) g3
    · refine ⟨n, h1, h2, h3, fun i g1 g2 => ?_⟩
      apply Classical.byContradiction
      intro g3
      exact h ⟨i, g1, g2, g3⟩
mutual
def ncl : Nd → Bool
  | .mk op _ _ _ _ l => !(op == 10) && nclL l
def nclL : List Nd → Bool
  | [] => true
  | x :: xs => ncl x && nclL xs
end
mutual
def cok (w : List Mc) : Nd → Prop
  | .mk op ns _ _ _ l => (op = 10 → ∃ s xs d, ns = s :: xs ∧ fnd w s = some d ∧ xs.length = d.ps.length) ∧ cokL w l
def cokL (w : List Mc) : List Nd → Prop
  | [] => True
  | x :: xs => cok w x ∧ cokL w xs
end
mutual
theorem wlk_cok {w : List Mc} {all : Bool} : ∀ (n : Nd) (env : List Vr), ndE n = 0 → wlk w all n env = 0 → cok w n
  | .mk op ns so nn mm l, env, hv, h => by
    rw [wlk_eq] at h
    by_cases hs : stE w all (.mk op ns so nn mm l) env = 0
    · rw [if_pos hs] at h
      simp only [cok]
      refine ⟨fun h10 => ?_, wlkL_cok l _ (fun x hx => ndE_kid hv hx) h⟩
      unfold stE at hs
      simp only [Nd.op, Nd.ns, h10, if_true] at hs
      have hne := vd_ns hv (.inl h10)
      simp only [Nd.ns] at hne
      cases ns with
      | nil => exact absurd rfl hne
      | cons s xs =>
        simp only [callE] at hs
        cases hf : fnd w s with
        | none => rw [hf] at hs; simp at hs
        | some d =>
          rw [hf] at hs
          refine ⟨s, xs, d, rfl, hf, ?_⟩
          by_cases hl : xs.length = d.ps.length
          · exact hl
          · simp [hl] at hs
    · rw [if_neg hs] at h; exact absurd h hs
theorem wlkL_cok {w : List Mc} {all : Bool} : ∀ (l : List Nd) (env : List Vr), (∀ x ∈ l, ndE x = 0) → wlkL w all l env = 0 → cokL w l
  | [], _, _, _ => by simp only [cokL]
  | x :: xs, env, hv, h => by
    simp only [wlkL] at h
    by_cases hx : wlk w all x env = 0
    · rw [if_pos hx] at h
      simp only [cokL]
      exact ⟨wlk_cok x env (hv x (by simp)) hx, wlkL_cok xs env (fun y hy => hv y (by simp [hy])) h⟩
    · rw [if_neg hx] at h; exact absurd h hx
end
mutual
theorem ncl_wlk {w : List Mc} : ∀ (n : Nd) (env : List Vr), ncl n = true → wlk w false n env = 0
  | .mk op ns so nn mm l, env, h => by
    simp only [ncl, Bool.and_eq_true, Bool.not_eq_true', beq_eq_false_iff_ne, ne_eq] at h
    rw [wlk_eq]
    have hs : stE w false (.mk op ns so nn mm l) env = 0 := by
      unfold stE
      have e : (Nd.mk op ns so nn mm l).op = op := rfl
      rw [e, if_neg h.1]
      split <;> simp
    rw [if_pos hs]
    exact nclL_wlk l _ h.2
theorem nclL_wlk {w : List Mc} : ∀ (l : List Nd) (env : List Vr), nclL l = true → wlkL w false l env = 0
  | [], _, _ => rfl
  | x :: xs, env, h => by
    simp only [nclL, Bool.and_eq_true] at h
    simp only [wlkL, ncl_wlk x env h.1, if_true]
    exact nclL_wlk xs env h.2
end
mutual
theorem ncl_cok {w : List Mc} : ∀ (n : Nd), ncl n = true → cok w n
  | .mk op ns so nn mm l, h => by
    simp only [ncl, Bool.and_eq_true, Bool.not_eq_true', beq_eq_false_iff_ne, ne_eq] at h
    simp only [cok]
    exact ⟨fun h10 => absurd h10 h.1, nclL_cok l h.2⟩
theorem nclL_cok {w : List Mc} : ∀ (l : List Nd), nclL l = true → cokL w l
  | [], _ => by simp only [cokL]
  | x :: xs, h => by
    simp only [nclL, Bool.and_eq_true] at h
    simp only [cokL]
    exact ⟨ncl_cok x h.1, nclL_cok xs h.2⟩
end
abbrev Kn := List (Str × Nat × Nat)
def knf (kn : Kn) (x : Str) : Nat × Nat := match kn.find? fun p => p.1 == x with
  | none => (0, 0)
  | some p => p.2
mutual
def esz (kn : Kn) : Nd → Nat
  | .mk op ns _ _ _ l => if op = 10 then (knf kn (hdS ns)).1 else 1 + eszL kn l
def eszL (kn : Kn) : List Nd → Nat
  | [] => 0
  | x :: xs => esz kn x + eszL kn xs
end
mutual
def edp (kn : Kn) : Nd → Nat
  | .mk op ns _ _ _ l => if op = 10 then (knf kn (hdS ns)).2 else edpL kn l + 1
def edpL (kn : Kn) : List Nd → Nat
  | [] => 0
  | x :: xs => max (edp kn x) (edpL kn xs)
end
mutual
theorem esz_ncl {kn : Kn} : ∀ (n : Nd), ncl n = true → esz kn n = sz n ∧ edp kn n = dp n
  | .mk op ns so nn mm l, h => by
    simp only [ncl, Bool.and_eq_true, Bool.not_eq_true', beq_eq_false_iff_ne, ne_eq] at h
    obtain ⟨k1, k2⟩ := eszL_ncl (kn := kn) l h.2
    simp only [esz, edp, sz, dp, if_neg h.1, k1, k2]
    exact ⟨by omega, trivial⟩
theorem eszL_ncl {kn : Kn} : ∀ (l : List Nd), nclL l = true → eszL kn l = szL l ∧ edpL kn l = dpL l
  | [], _ => ⟨rfl, rfl⟩
  | x :: xs, h => by
    simp only [nclL, Bool.and_eq_true] at h
    obtain ⟨k1, k2⟩ := esz_ncl (kn := kn) x h.1
    obtain ⟨k3, k4⟩ := eszL_ncl (kn := kn) xs h.2
    simp only [eszL, edpL, szL, dpL, k1, k2, k3, k4, and_self]
end
mutual
theorem esz_congr {w : List Mc} {kn kn' : Kn} (hk : ∀ s d, fnd w s = some d → knf kn s = knf kn' s) : ∀ (n : Nd), cok w n → esz kn n = esz kn' n ∧ edp kn n = edp kn' n
  | .mk op ns so nn mm l, h => by
    simp only [cok] at h
    obtain ⟨k1, k2⟩ := eszL_congr hk l h.2
    simp only [esz, edp]
    by_cases h10 : op = 10
    · obtain ⟨s, xs, d, rfl, hf, -⟩ := h.1 h10
      simp only [h10, if_true, hdS, hk s d hf, and_self]
    · simp only [if_neg h10, k1, k2, and_self]
theorem eszL_congr {w : List Mc} {kn kn' : Kn} (hk : ∀ s d, fnd w s = some d → knf kn s = knf kn' s) : ∀ (l : List Nd), cokL w l → eszL kn l = eszL kn' l ∧ edpL kn l = edpL kn' l
  | [], _ => ⟨rfl, rfl⟩
  | x :: xs, h => by
    simp only [cokL] at h
    obtain ⟨k1, k2⟩ := esz_congr hk x h.1
    obtain ⟨k3, k4⟩ := eszL_congr hk xs h.2
    simp only [eszL, edpL, k1, k2, k3, k4, and_self]
end
def knA (kn : Kn) : List Mc → Kn
  | [] => kn
  | d :: w => knA (kn ++ [(d.nm, esz kn d.bd, edp kn d.bd)]) w
def knw (w : List Mc) : Kn := knA [] w
theorem knA_append : ∀ (u v : List Mc) (kn : Kn), knA kn (u ++ v) = knA (knA kn u) v
  | [], v, kn => rfl
  | d :: u, v, kn => by simp only [List.cons_append, knA]; exact knA_append u v _
theorem knA_pre : ∀ (w : List Mc) (kn : Kn), ∃ t, knA kn w = kn ++ t
  | [], kn => ⟨[], by simp [knA]⟩
  | d :: w, kn => by
    obtain ⟨t, h⟩ := knA_pre w (kn ++ [(d.nm, esz kn d.bd, edp kn d.bd)])
    exact ⟨_, by simp only [knA]; rw [h, List.append_assoc]⟩
theorem knA_names : ∀ (w : List Mc) (kn : Kn), (knA kn w).map (·.1) = kn.map (·.1) ++ w.map Mc.nm
  | [], kn => by simp [knA]
  | d :: w, kn => by simp only [knA]; rw [knA_names w]; simp
theorem knw_len (w : List Mc) : (knw w).length = w.length := by
  have := congrArg List.length (knA_names w [])
  simpa [knw] using this
theorem knf_app {kn : Kn} {x : Str} (h : x ∈ kn.map (·.1)) (t : Kn) : knf (kn ++ t) x = knf kn x := by
  unfold knf
  rw [List.find?_append]
  cases hf : kn.find? fun p => p.1 == x with
  | some p => simp
  | none =>
    rw [List.find?_eq_none] at hf
    obtain ⟨p, hp, rfl⟩ := List.mem_map.1 h
    exact absurd (by simp) (hf p hp)
theorem knf_new {kn : Kn} {x : Str} (h : x ∉ kn.map (·.1)) (a : Nat × Nat) (t : Kn) : knf (kn ++ (x, a) :: t) x = a := by
  unfold knf
  rw [List.find?_append]
  have hf : (kn.find? fun p => p.1 == x) = none := by
    rw [List.find?_eq_none]
    intro p hp hq
    exact h (List.mem_map.2 ⟨p, hp, by simpa using hq⟩)
  rw [hf]
  simp
theorem fnd_mem {w : List Mc} {s : Str} {d : Mc} (h : fnd w s = some d) : d ∈ w ∧ d.nm = s := by
  unfold fnd at h
  exact ⟨List.mem_of_find?_eq_some h, by simpa using List.find?_some h⟩
theorem fnd_nm {w : List Mc} {s : Str} : fnd w s = none ↔ s ∉ w.map Mc.nm := by
  unfold fnd
  rw [List.find?_eq_none, List.mem_map]
  constructor
  · rintro h ⟨d, hd, rfl⟩
    exact absurd (by simp) (h d hd)
  · intro h d hd hq
    exact h ⟨d, hd, by simpa using hq⟩
def Wf (w : List Mc) : Prop := ∀ u d v, w = u ++ d :: v → may u d = 0
theorem wf_nil : Wf [] := by
  intro u d v h
  cases u <;> simp at h
theorem Wf.snoc {w : List Mc} {d : Mc} (h : Wf w) (hm : may w d = 0) : Wf (w ++ [d]) := by
  intro u e v he
  rcases List.eq_nil_or_concat v with rfl | ⟨v', x, rfl⟩
  · obtain ⟨h1, h2⟩ := List.append_inj_left' he rfl, List.append_inj_right' he rfl
    simp at h2
    rw [← h1, ← h2]; exact hm
  · have he' : w ++ [d] = (u ++ e :: v') ++ [x] := by simpa using he
    exact h u e v' (List.append_inj_left' he' rfl)
theorem Wf.left {u v : List Mc} (h : Wf (u ++ v)) : Wf u := by
  intro a d b he
  exact h a d (b ++ v) (by rw [he]; simp)
structure Md (u : List Mc) (d : Mc) : Prop where
  id : isId d.nm = true
  new : fnd u d.nm = none
  ps : parE d.ps = 0
  bd : chk d.bd = 0
  wl : wlk u true d.bd d.ps = 0
theorem may_md {u : List Mc} {d : Mc} (h : may u d = 0) : Md u d := by
  have hn := (may_none h).1
  unfold may at h
  split at h
  · cases h
  · split at h
    · cases h
    · rename_i h2
      split at h
      · cases h
      · split at h
        · split at h
          · rename_i h4 h5
            exact ⟨by simpa using h2, hn, h4, h5, h⟩
          · rename_i h4 h5
            exact absurd h h5
        · rename_i h4
          exact absurd h h4
theorem Md.vd {u : List Mc} {d : Mc} (h : Md u d) : ndE d.bd = 0 := chk_vd h.bd
theorem Md.cok {u : List Mc} {d : Mc} (h : Md u d) : Ae.cok u d.bd := wlk_cok d.bd d.ps h.vd h.wl
theorem knw_at {u v : List Mc} {d : Mc} (hw : Wf (u ++ d :: v)) : knf (knw (u ++ d :: v)) d.nm = (esz (knw (u ++ d :: v)) d.bd, edp (knw (u ++ d :: v)) d.bd) := by
  have hd := may_md (hw u d v rfl)
  have hu : (knw u).map (·.1) = u.map Mc.nm := by simpa [knw] using knA_names u []
  obtain ⟨t, ht⟩ := knA_pre v (knw u ++ [(d.nm, esz (knw u) d.bd, edp (knw u) d.bd)])
  have e : knw (u ++ d :: v) = knw u ++ (d.nm, esz (knw u) d.bd, edp (knw u) d.bd) :: t := by
    show knA [] (u ++ d :: v) = _
    rw [knA_append]
    simp only [knA]
    rw [show knA [] u = knw u from rfl, ht]
    simp
  have hn : d.nm ∉ (knw u).map (·.1) := by rw [hu]; exact fnd_nm.1 hd.new
  obtain ⟨k1, k2⟩ := esz_congr (w := u) (kn := knw u) (kn' := knw (u ++ d :: v)) (fun s x hs => by
    obtain ⟨h1, h2⟩ := fnd_mem hs
    rw [e, knf_app (by rw [hu, ← h2]; exact List.mem_map.2 ⟨x, h1, rfl⟩)]) d.bd hd.cok
  rw [← k1, ← k2]
  conv => lhs; rw [e]
  rw [knf_new hn]
theorem fnd_split {w : List Mc} {s : Str} {d : Mc} (h : fnd w s = some d) : ∃ u v, w = u ++ d :: v ∧ d.nm = s := by
  obtain ⟨h1, h2⟩ := fnd_mem h
  obtain ⟨u, v, h3⟩ := List.append_of_mem h1
  exact ⟨u, v, h3, h2⟩
theorem fnd_app {u : List Mc} {s : Str} {d : Mc} (h : fnd u s = some d) (v : List Mc) : fnd (u ++ v) s = some d := by
  unfold fnd at h ⊢
  rw [List.find?_append, h]
  rfl
def grtN : Nat := 1073741824
mutual
def nmc : Nd → Nat
  | .mk _ ns _ _ _ l => ns.length + nmcL l
def nmcL : List Nd → Nat
  | [] => 0
  | x :: xs => nmc x + nmcL xs
end
theorem nmc_eq (n : Nd) : nmc n = n.ns.length + nmcL n.l := by cases n; rfl
theorem ns_le {n : Nd} (h : ndE n = 0) : n.ns.length ≤ 17 := by
  cases vk_of h with
  | cst op h => simp [nd, Nd.ns]
  | two op x y h hx hy => simp [Nd.ns]
  | lab x k hx h => simp [Nd.ns]
  | smd x k m hx h => simp [Nd.ns]
  | sng x hx => simp [Nd.ns]
  | cal x xs hl hx => exact hl
  | not a ha => simp [nd, Nd.ns]
  | bin op a b h ha hb => simp [nd, Nd.ns]
  | qnt op x so a h hx hs ha => simp [qn, Nd.ns]
mutual
theorem nmc_sz : ∀ (n : Nd), ndE n = 0 → nmc n ≤ 17 * sz n
  | .mk op ns so nn mm l, h => by
    have h1 := ns_le h
    have h2 := nmcL_sz l (fun x hx => ndE_kid h hx)
    simp only [Nd.ns] at h1
    simp only [nmc, sz]
    omega
theorem nmcL_sz : ∀ (l : List Nd), (∀ x ∈ l, ndE x = 0) → nmcL l ≤ 17 * szL l
  | [], _ => by simp [nmcL]
  | x :: xs, h => by
    have h1 := nmc_sz x (h x (by simp))
    have h2 := nmcL_sz xs (fun y hy => h y (by simp [hy]))
    simp only [nmcL, szL]
    omega
end
section
variable {G : Nat → Option AV} {cl : Caller} {yl : Nat → List AV → Mem → Option (AV × Mem)} {N : Nat}
def S17w (l : List Mc) (O : List Obj) (R : List Arr) (i : Nat) (st : St) : Prop :=
  ∃ O1 R1 a w, st = ⟨[(0, .slc .shared (l.map mcv)), (4, .ptr O.length 0), (5, .slc (.own R.length) (w.map mcv)), (6, .int .i64 (i : Int))], ⟨O1, R1⟩, []⟩ ∧ SetAt O1 R1 O.length a w ∧ R1[R.length]? = some (rowA w.length 34 8) ∧ (∀ b, a = some b → R.length < b) ∧ Gd w ∧ Old O O1 ∧ Old R R1 ∧ Wf w ∧ w.length ≤ i
theorem loop17w (l : List Mc) (hl : l.length ≤ 5) (hm : ∀ d ∈ l, OkM d) (hN : 6 < N) (h : Cs3 cl l) (O : List Obj) (R : List Arr) :
    ∃ e s', iter false (evalC G false cl yl N c17b0) ⟨[0, 4, 5, 6], [(5, none), (6, none)], true⟩ (O.length + 1) (R.length + 1) N ⟨[(0, .slc .shared (l.map mcv)), (4, .ptr O.length 0), (5, .slc (.own R.length) []), (6, .int .i64 0)], ⟨O ++ [.cells [.slc .full []]], R ++ [.app 0 0 0]⟩, []⟩ = some (e, s') ∧ e ≠ .normal ∧
      (e = .exit 0 ∧ s'.mks = [] ∧ ∃ O1 R1 a w, s'.m = ⟨O1, R1⟩ ∧ look 4 s'.ts = .ptr O.length 0 ∧ look 5 s'.ts = .slc (.own R.length) (w.map mcv) ∧ SetAt O1 R1 O.length a w ∧ (∀ b, a = some b → R.length < b) ∧ Gd w ∧ Old O O1 ∧ Old R R1 ∧ Wf w ∧ w.length ≤ l.length) := by
  obtain ⟨h8, h9, h10, h11, h13, h12y, h12n, h14, h15, h16⟩ := h
  refine (iter_inv (mu := false) (step := evalC G false cl yl N c17b0) (an := ⟨[0, 4, 5, 6], [(5, none), (6, none)], true⟩) (k := O.length + 1) (m := R.length + 1) (N := N) l (fun _ => (none : Option Unit)) (S17w l O R)
    (fun r e s' => e = .exit 0 ∧ s'.mks = [] ∧ ∃ O1 R1 a w, s'.m = ⟨O1, R1⟩ ∧ look 4 s'.ts = .ptr O.length 0 ∧ look 5 s'.ts = .slc (.own R.length) (w.map mcv) ∧ SetAt O1 R1 O.length a w ∧ (∀ b, a = some b → R.length < b) ∧ Gd w ∧ Old O O1 ∧ Old R R1 ∧ Wf w ∧ w.length ≤ l.length) (by omega)
    ⟨O ++ [.cells [.slc .full []]], R ++ [.app 0 0 0], none, [], rfl, .nil (by simp), by simp [rowA], fun b h => (by cases h), gd_nil, .app _ _, .app _ _, wf_nil, Nat.le_refl _⟩ ?_ ?_)
  · rintro i d st hx hi ⟨O1, R1, a, w, rfl, hs, hr, ha, hg, hO, hR, hwf, hwl⟩
    have hx' := (List.getElem?_eq_some_iff.1 hx).2
    have hd := mem_of_get hx
    have w1 := wrap_succ (i := i) (by omega)
    have k11 := fun M => h11 w d (.own R.length) M hg hd (by simp)
    have k13 := h13 d hd
    by_cases hc : may w d = 0
    · obtain ⟨O', R', a', k12, hA⟩ := h12y w d O1 R1 O.length a hs hg hd hc
      rw [hc] at k11
      have hr' : R'[R.length]? = some (rowA w.length 34 8) := hA.row R.length _ (fun e => by have := ha R.length e.symm; omega) hr
      have hRlen : R.length < R1.length := (List.getElem?_eq_some_iff.1 hr).1
      have ha' : ∀ b, a' = some b → R.length < b := by
        intro b hb
        rcases hA.own with e | ⟨-, k, hk, e⟩
        · rw [e] at hb; exact ha b hb
        · rw [e] at hb; cases hb; omega
      have hg' := hg.snoc hc (hm d hd)
      have hq : (w.length + 1) * 120 ≤ 140737488355328 := by have := hg.len; omega
      have hq2 : w.length + 1 ≤ 140737488355328 := by have := hg.len; omega
      have hz := szOk_mcvL w
      have hz1 := szOk_mcv d []
      have hrr : w = [] ∨ ¬ w = [] := Decidable.em _
      simp only [rowA] at hr'
      have fin : S17w l O R (i + 1) ⟨[(0, .slc .shared (l.map mcv)), (4, .ptr O.length 0), (5, .slc (.own R.length) (w.map mcv ++ [mcv d])), (6, .int .i64 ((i + 1 : Nat) : Int))], ⟨O', R'.set R.length (.app (w.length + 1) 34 8)⟩, []⟩ := by
        have hne : a' ≠ some R.length := fun e => by have := ha' _ e; omega
        refine ⟨O', R'.set R.length (.app (w.length + 1) 34 8), a', w ++ [d], by simp, hA.set.setRow hne _, ?_, ha', hg', ?_, ?_, hwf.snoc hc, by simp; omega⟩
        · have : R.length < R'.length := (List.getElem?_eq_some_iff.1 hr').1
          simp [rowA, this]
        · intro j o hj
          exact hA.obj j o (by have := (List.getElem?_eq_some_iff.1 hj).1; omega) (hO j o hj)
        · intro j r hj
          have hjl := (List.getElem?_eq_some_iff.1 hj).1
          rw [List.getElem?_set_ne (by omega)]
          exact hA.row j r (fun e => by have := ha j e.symm; omega) (hR j r hj)
      simp -implicitDefEqProofs [c17b0, hi, hx', w1, k11, k13, k12, hr', hq, hq2, hz, hz1, hrr]
      simpa using fin
    · obtain ⟨X, k12⟩ := h12n w d O1 R1 O.length a hs hg hd hc
      have hc' : (may w d == 0) = false := by simp [hc]
      have fin : S17w l O R (i + 1) ⟨[(0, .slc .shared (l.map mcv)), (4, .ptr O.length 0), (5, .slc (.own R.length) (w.map mcv)), (6, .int .i64 ((i + 1 : Nat) : Int))], ⟨O1, R1⟩, []⟩ :=
        ⟨O1, R1, a, w, rfl, hs, hr, ha, hg, hO, hR, hwf, by omega⟩
      simp -implicitDefEqProofs [c17b0, hi, hx', w1, k11, hc']
      simpa using fin
  · rintro st ⟨O1, R1, a, w, rfl, hs, hr, ha, hg, hO, hR, hwf, hwl⟩
    simp -implicitDefEqProofs [c17b0]
    exact ⟨O1, R1, ⟨rfl, rfl⟩, a, w, rfl, hs, ha, hg, hO, hR, hwf, hwl⟩
theorem ev17w (l : List Mc) (hl : l.length ≤ 5) (hm : ∀ d ∈ l, OkM d) (hN : 6 < N) (h : Cs3 cl l) (O : List Obj) (R : List Arr) :
    ∃ X Y a w, callA G false cl yl N c17 [.slc .shared (l.map mcv)] ⟨O, R⟩ = some (.tup [.ptr O.length 0, .slc (.own R.length) (w.map mcv)], ⟨O ++ X, R ++ Y⟩) ∧ SetAt (O ++ X) (R ++ Y) O.length a w ∧ (∀ b, a = some b → R.length < b) ∧ Gd w ∧ Wf w ∧ w.length ≤ l.length := by
  obtain ⟨e, ⟨ts, M, mks⟩, h1, -, rfl, rfl, O1, R1, a, w, rfl, h3, h4, hs, ha, hg, hO, hR, hwf, hwl⟩ := loop17w (G := G) (cl := cl) (yl := yl) (N := N) l hl hm hN h O R
  obtain ⟨X, rfl⟩ := hO.pre
  obtain ⟨Y, rfl⟩ := hR.pre
  have k10 := h.h10 O R
  simp at h3 h4
  refine ⟨X, Y, a, w, ?_, hs, ha, hg, hwf, hwl⟩
  simp -implicitDefEqProofs [c17, k10, h1, h3, h4]
end
def tkE (l : List Str) : List (AV × AV) := l.map fun s => (.str s, .bool true)
theorem find_tkE (x : Str) : ∀ l : List Str, find (.str x) (tkE l) = some (if l.contains x then some (.bool true) else none)
  | [] => rfl
  | s :: l => by
    have ih := find_tkE x l
    unfold tkE at ih ⊢
    simp only [List.map_cons, find, eqK, List.contains_cons]
    cases h : x == s with
    | true => simp
    | false => simpa using ih
def tkP (l : List Str) (x : Str) : List Str := if l.contains x then l else l ++ [x]
theorem put_tkE (x : Str) : ∀ l : List Str, put (.str x) (.bool true) (tkE l) = some (tkE (tkP l x))
  | [] => rfl
  | s :: l => by
    have ih := put_tkE x l
    unfold tkE tkP at ih ⊢
    simp only [List.map_cons, put, eqK, List.contains_cons]
    cases h : x == s with
    | true =>
      have : x = s := by simpa using h
      subst this
      simp
    | false =>
      simp only [ih, Bool.false_or]
      split <;> simp
@[simp] theorem scr_tkE (k m : Nat) (l : List Str) : (tkE l).map (fun e => (e.1, scr k m e.2)) = tkE l := by simp [tkE]
theorem tkP_len (l : List Str) (x : Str) : (tkP l x).length ≤ l.length + 1 := by unfold tkP; split <;> simp
theorem cont_nm (x : Str) (l : List Vr) : (l.map Vr.nm).contains x = l.any (fun o => o.nm == x) := by
  induction l with
  | nil => rfl
  | cons v l ih =>
    simp only [List.map_cons, List.contains_cons, List.any_cons, ih]
    congr 1
    exact Bool.beq_comm
def snm (k : Int) : Str := if k = 0 then [118, 101, 114, 116, 101, 120] else if k = 1 then [101, 100, 103, 101] else if k = 2 then [115, 101, 116] else if k = 3 then [101, 100, 103, 101, 115] else []
section
variable {t : Nat} {cl : Caller} {yl : Nat → List AV → Mem → Option (AV × Mem)} {N : Nat}
theorem ev47 (k : Int) : pureA (GG t) false cl yl N c47 [.int .i64 k] = some (.str (snm k), none) := by
  have hG : GG t 0 = some (.agg [.str [118, 101, 114, 116, 101, 120], .str [101, 100, 103, 101], .str [115, 101, 116], .str [101, 100, 103, 101, 115]]) := rfl
  by_cases h1 : k < 0
  · have e0 : ¬ k = 0 := by omega
    have e1 : ¬ k = 1 := by omega
    have e2 : ¬ k = 2 := by omega
    have e3 : ¬ k = 3 := by omega
    simp -implicitDefEqProofs [c47, h1, snm, e0, e1, e2, e3]
  · by_cases h2 : 4 ≤ k
    · have e0 : ¬ k = 0 := by omega
      have e1 : ¬ k = 1 := by omega
      have e2 : ¬ k = 2 := by omega
      have e3 : ¬ k = 3 := by omega
      simp -implicitDefEqProofs [c47, h1, h2, snm, e0, e1, e2, e3]
    · have : k = 0 ∨ k = 1 ∨ k = 2 ∨ k = 3 := by omega
      rcases this with rfl | rfl | rfl | rfl <;> simp -implicitDefEqProofs [c47, hG, snm]
end
theorem snm_nil (k : Int) : (snm k == []) = decide (k < 0 ∨ 3 < k) := by
  unfold snm
  by_cases e0 : k = 0
  · subst e0; rfl
  · by_cases e1 : k = 1
    · subst e1; rfl
    · by_cases e2 : k = 2
      · subst e2; rfl
      · by_cases e3 : k = 3
        · subst e3; rfl
        · have : k < 0 ∨ 3 < k := by omega
          simp [e0, e1, e2, e3, this]
def cqE (q : Qn) : Int := if 8 < q.fr.length then 8 else if parL [] q.fr = 0 then chk q.bd else parL [] q.fr
section
variable {G : Nat → Option AV} {cl : Caller} {yl : Nat → List AV → Mem → Option (AV × Mem)} {N : Nat}
theorem loop66 (q : Qn) (hb : q.fr.length < big) (hN : q.fr.length < N) (h36 : ∀ v ∈ q.fr, ∀ M, cl 36 [.str v.nm] M = some (.bool (isId v.nm), M)) (h47 : ∀ k M, cl 47 [.int .i64 k] M = some (.str (snm k), M)) :
    ∃ e s', iter false (evalC G false cl yl N c66b0) ⟨[1, 3, 12, 13, 14], [(14, none)], false⟩ 2 0 N ⟨[(1, .ptr 0 0), (3, .map 1), (12, .slc .shared (q.fr.map vrv)), (13, .int .i64 q.fr.length), (14, .int .i64 0)], ⟨[.cells (qsc q), .map []], []⟩, []⟩ = some (e, s') ∧ e ≠ .normal ∧
      (s'.mks = [] ∧ match (q.fr.zipIdx 0).findSome? (parG q.fr) with
        | none => e = .exit 0 ∧ (∃ X, s'.m = ⟨.cells (qsc q) :: X, []⟩) ∧ look 1 s'.ts = .ptr 0 0
        | some r => e = .ret ∧ look 2 s'.ts = .int .i64 r) := by
  unfold big at hb
  refine iter_inv (mu := false) (step := evalC G false cl yl N c66b0) (an := ⟨[1, 3, 12, 13, 14], [(14, none)], false⟩) (k := 2) (m := 0) (N := N) (q.fr.zipIdx 0) (parG q.fr)
    (fun i st => st = ⟨[(1, .ptr 0 0), (3, .map 1), (12, .slc .shared (q.fr.map vrv)), (13, .int .i64 q.fr.length), (14, .int .i64 (i : Int))], ⟨[.cells (qsc q), .map (tkE ((q.fr.take i).map Vr.nm))], []⟩, []⟩)
    (fun r e s' => s'.mks = [] ∧ match r with
        | none => e = .exit 0 ∧ (∃ X, s'.m = ⟨.cells (qsc q) :: X, []⟩) ∧ look 1 s'.ts = .ptr 0 0
        | some r => e = .ret ∧ look 2 s'.ts = .int .i64 r) (by simpa using hN) rfl ?_ ?_
  · rintro i ⟨v, j⟩ st hx hi rfl
    rw [List.getElem?_zipIdx] at hx
    have hil : i < q.fr.length := by simpa using hi
    have hxo := List.getElem?_eq_getElem hil
    rw [hxo] at hx
    simp at hx
    obtain ⟨hx', rfl⟩ := hx
    rw [hx'] at hxo
    have k36 := h36 v (by rw [← hx']; exact List.getElem_mem hil)
    have k47 := h47 v.so
    have kf := find_tkE v.nm ((q.fr.take i).map Vr.nm)
    have kp := put_tkE v.nm ((q.fr.take i).map Vr.nm)
    have ke := cont_nm v.nm (q.fr.take i)
    unfold tkP at kp
    rw [ke] at kf kp
    have w1 := wrap_succ (i := i) (by omega)
    have kn := snm_nil v.so
    have tk := take_succ_of hxo
    cases h1 : isId v.nm with
    | false =>
      rw [h1] at k36
      simp -implicitDefEqProofs [parG, c66b0, hil, hx', k36, h1, vrc]
    | true =>
      rw [h1] at k36
      by_cases h2 : v.so < 0
      · have kn' : (snm v.so == []) = true := by rw [kn]; simp [h2]
        simp -implicitDefEqProofs [parG, c66b0, hil, hx', k36, k47, strA, kn', h1, h2]
      · by_cases h3 : 3 < v.so
        · have kn' : (snm v.so == []) = true := by rw [kn]; simp [h3]
          simp -implicitDefEqProofs [parG, c66b0, hil, hx', k36, k47, strA, kn', h1, h2, h3]
        · have kn' : (snm v.so == []) = false := by rw [kn]; simp; omega
          cases h4 : (q.fr.take i).any (fun o => o.nm == v.nm) with
          | true =>
            rw [h4] at kf
            simp -implicitDefEqProofs at kf
            simp -implicitDefEqProofs [parG, c66b0, hil, hx', k36, k47, strA, kn', h1, h2, h3, h4, kf, lkpA, keyK]
          | false =>
            rw [h4] at kf kp
            simp -implicitDefEqProofs at kf kp
            rw [tk]
            simp -implicitDefEqProofs [parG, c66b0, hil, hx', k36, k47, strA, kn', h1, h2, h3, h4, kf, kp, lkpA, insA, keyK, w1, qsc]
  · rintro st rfl
    simp -implicitDefEqProofs [c66b0]
theorem ev66 (q : Qn) (hb : q.fr.length < big) (hN : q.fr.length < N) (h36 : ∀ v ∈ q.fr, ∀ M, cl 36 [.str v.nm] M = some (.bool (isId v.nm), M)) (h47 : ∀ k M, cl 47 [.int .i64 k] M = some (.str (snm k), M))
    (h38 : ∀ M, cl 38 [av q.bd] M = some (.int .i64 (chk q.bd), M)) :
    pureA G false cl yl N c66 [qsv q] = some (.int .i64 (cqE q), none) := by
  unfold cqE
  by_cases h8 : 8 < q.fr.length
  · have h8' : (8 : Int) < (q.fr.length : Int) := by omega
    simp -implicitDefEqProofs [c66, h8, h8']
  · have h8' : ¬ (8 : Int) < (q.fr.length : Int) := by omega
    obtain ⟨e, ⟨ts, M, mks⟩, h1, h2, rfl, h3⟩ := loop66 (G := G) (cl := cl) (yl := yl) (N := N) q hb hN h36 h47
    rw [parG_all q.fr q.fr [] rfl]
    simp only [List.length_nil]
    simp -implicitDefEqProofs [qsc] at h1
    cases hr : (q.fr.zipIdx 0).findSome? (parG q.fr) with
    | none =>
      rw [hr] at h3
      obtain ⟨rfl, ⟨X, rfl⟩, h5⟩ := h3
      simp at h5
      simp -implicitDefEqProofs [c66, h8, h8', h1, h5, h38, qsc]
    | some r =>
      rw [hr] at h3
      obtain ⟨rfl, h3⟩ := h3
      simp at h3
      have hr0 : r ≠ 0 := by
        obtain ⟨x, -, hx⟩ := List.exists_of_findSome?_eq_some hr
        unfold parG at hx
        split at hx
        · cases hx; decide
        · split at hx
          · cases hx; decide
          · split at hx
            · cases hx; decide
            · cases hx
      simp -implicitDefEqProofs [c66, h8, h8', h1, h3, hr0]
end
structure Fro (p : Nat) (O O' : List Obj) : Prop where
  len : O.length ≤ O'.length
  get : ∀ i, i < O.length → i ≠ p → O'[i]? = O[i]?
theorem Fro.refl (p : Nat) (O : List Obj) : Fro p O O := ⟨Nat.le_refl _, fun _ _ _ => rfl⟩
theorem Fro.trans {p : Nat} {O O1 O2 : List Obj} (h : Fro p O O1) (k : Fro p O1 O2) : Fro p O O2 :=
  ⟨Nat.le_trans h.len k.len, fun i hi hp => (k.get i (Nat.lt_of_lt_of_le hi h.len) hp).trans (h.get i hi hp)⟩
theorem Fro.app (p : Nat) (O X : List Obj) : Fro p O (O ++ X) := ⟨by simp, fun i hi _ => List.getElem?_append_left hi⟩
theorem Fro.set (p : Nat) (O : List Obj) (x : Obj) : Fro p O (O.set p x) := ⟨by simp, fun i hi hp => List.getElem?_set_ne (by omega)⟩
theorem Fro.old {p : Nat} {O O' : List Obj} (h : Fro p O O') {i : Nat} {x : Obj} (hi : O[i]? = some x) (hp : i ≠ p) : O'[i]? = some x := by
  rw [h.get i (List.getElem?_eq_some_iff.1 hi).1 hp]; exact hi
structure TkAt (O : List Obj) (c p id tq : Nat) (tk : List Str) : Prop where
  c : O[c]? = some (.cells [.ptr p 0])
  p : O[p]? = some (.cells [.ptr id 0, .map tq, .int .i64 0])
  tq : O[tq]? = some (.map (tkE tk))
theorem TkAt.app {O : List Obj} {c p id tq : Nat} {tk : List Str} (h : TkAt O c p id tq tk) (X : List Obj) : TkAt (O ++ X) c p id tq tk :=
  ⟨get_old h.c X, get_old h.p X, get_old h.tq X⟩
theorem TkAt.nec {O : List Obj} {c p id tq : Nat} {tk : List Str} (h : TkAt O c p id tq tk) : c ≠ tq ∧ p ≠ tq := by
  refine ⟨fun e => ?_, fun e => ?_⟩
  · have := h.c; rw [e, h.tq] at this; simp at this
  · have := h.p; rw [e, h.tq] at this; simp at this
theorem TkAt.fro {O O' : List Obj} {c p id tq : Nat} {tk tk' : List Str} (h : TkAt O c p id tq tk) (k : Fro tq O O') (ht : O'[tq]? = some (.map (tkE tk'))) : TkAt O' c p id tq tk' :=
  ⟨k.old h.c h.nec.1, k.old h.p h.nec.2, ht⟩
def Puts (cl : Caller) (f : Nat) (ags : List AV) (tq n : Nat) (tk : List Str) (O : List Obj) (R : List Arr) : Prop :=
  ∃ O' tk', cl f ags ⟨O, R⟩ = some (.tup [], ⟨O', R⟩) ∧ Fro tq O O' ∧ O'[tq]? = some (.map (tkE tk')) ∧ tk'.length ≤ tk.length + n
section
variable {G : Nat → Option AV} {cl : Caller} {yl : Nat → List AV → Mem → Option (AV × Mem)} {N : Nat}
theorem ev68 {O : List Obj} {R : List Arr} {c p id tq : Nat} {tk : List Str} (h : TkAt O c p id tq tk) (s : Str) :
    callA G false cl yl N c68 [.str s, .ptr c 0] ⟨O, R⟩ = some (.tup [], ⟨O.set tq (.map (tkE (tkP tk s))), R⟩) := by
  obtain ⟨h1, h2, h3⟩ := h
  have hp := put_tkE s tk
  simp -implicitDefEqProofs [c68, h1, h2, h3, hp, insA, keyK, resV]
theorem loop69a (ns : List Str) {O : List Obj} {R : List Arr} {c p id tq q : Nat} {tk : List Str} (h : TkAt O c p id tq tk) (hb : ns.length < big) (hN : ns.length < N)
    (h68 : ∀ s O R tk, TkAt O c p id tq tk → cl 68 [.str s, .ptr c 0] ⟨O, R⟩ = some (.tup [], ⟨O.set tq (.map (tkE (tkP tk s))), R⟩)) :
    ∃ e s', iter false (evalC G false cl yl N c69b0) ⟨[1, 2, 9, 10, 11], [(11, none)], true⟩ O.length R.length N ⟨[(1, .fn 68 [] [.ptr c 0]), (2, .ptr q 0), (9, .slc .shared (ns.map .str)), (10, .int .i64 ns.length), (11, .int .i64 0)], ⟨O, R⟩, []⟩ = some (e, s') ∧ e ≠ .normal ∧
      (e = .exit 0 ∧ s'.mks = [] ∧ look 1 s'.ts = .fn 68 [] [.ptr c 0] ∧ look 2 s'.ts = .ptr q 0 ∧ ∃ O1 tk1, s'.m = ⟨O1, R⟩ ∧ Fro tq O O1 ∧ O1[tq]? = some (.map (tkE tk1)) ∧ tk1.length ≤ tk.length + ns.length) := by
  unfold big at hb
  refine (iter_inv (mu := false) (step := evalC G false cl yl N c69b0) (an := ⟨[1, 2, 9, 10, 11], [(11, none)], true⟩) (k := O.length) (m := R.length) (N := N) ns (fun _ => (none : Option Unit))
    (fun i st => ∃ O1 tk1, st = ⟨[(1, .fn 68 [] [.ptr c 0]), (2, .ptr q 0), (9, .slc .shared (ns.map .str)), (10, .int .i64 ns.length), (11, .int .i64 (i : Int))], ⟨O1, R⟩, []⟩ ∧ Fro tq O O1 ∧ O1[tq]? = some (.map (tkE tk1)) ∧ tk1.length ≤ tk.length + i)
    (fun r e s' => e = .exit 0 ∧ s'.mks = [] ∧ look 1 s'.ts = .fn 68 [] [.ptr c 0] ∧ look 2 s'.ts = .ptr q 0 ∧ ∃ O1 tk1, s'.m = ⟨O1, R⟩ ∧ Fro tq O O1 ∧ O1[tq]? = some (.map (tkE tk1)) ∧ tk1.length ≤ tk.length + ns.length) hN ⟨O, tk, rfl, .refl _ _, h.tq, by omega⟩ ?_ ?_)
  · rintro i s st hx hi ⟨O1, tk1, rfl, hF, hT, hl⟩
    have hx' := (List.getElem?_eq_some_iff.1 hx).2
    have k := h68 s O1 R tk1 (h.fro hF hT)
    have w1 := wrap_succ (i := i) (by omega)
    have hlt := (List.getElem?_eq_some_iff.1 hT).1
    have fin : ∃ O2 tk2, (⟨[(1, .fn 68 [] [.ptr c 0]), (2, .ptr q 0), (9, .slc .shared (ns.map .str)), (10, .int .i64 ns.length), (11, .int .i64 ((i + 1 : Nat) : Int))], ⟨O1.set tq (.map (tkE (tkP tk1 s))), R⟩, []⟩ : St) = ⟨[(1, .fn 68 [] [.ptr c 0]), (2, .ptr q 0), (9, .slc .shared (ns.map .str)), (10, .int .i64 ns.length), (11, .int .i64 ((i + 1 : Nat) : Int))], ⟨O2, R⟩, []⟩ ∧ Fro tq O O2 ∧ O2[tq]? = some (.map (tkE tk2)) ∧ tk2.length ≤ tk.length + (i + 1) :=
      ⟨_, tkP tk1 s, rfl, hF.trans (.set _ _ _), by simp [hlt], by have := tkP_len tk1 s; omega⟩
    simp -implicitDefEqProofs [c69b0, hi, hx', k, w1]
    simpa using fin
  · rintro st ⟨O1, tk1, rfl, hF, hT, hl⟩
    simp -implicitDefEqProofs [c69b0]
    exact ⟨hF, tk1, hT, hl⟩
theorem loop69b (l : List Nd) {O : List Obj} {R : List Arr} {c p id tq : Nat} {tk : List Str} (h : TkAt O c p id tq tk) (hb : l.length < big) (hN : l.length < N)
    (h69 : ∀ x ∈ l, ∀ O R tk, TkAt O c p id tq tk → Puts cl 69 [av x, .fn 68 [] [.ptr c 0]] tq (nmc x) tk O R) :
    ∃ e s', iter false (evalC G false cl yl N c69b1) ⟨[1, 20, 21, 22], [(22, none)], true⟩ O.length R.length N ⟨[(1, .fn 68 [] [.ptr c 0]), (20, .slc .shared (avL l)), (21, .int .i64 l.length), (22, .int .i64 0)], ⟨O, R⟩, []⟩ = some (e, s') ∧ e ≠ .normal ∧
      (e = .exit 2 ∧ s'.mks = [] ∧ ∃ O1 tk1, s'.m = ⟨O1, R⟩ ∧ Fro tq O O1 ∧ O1[tq]? = some (.map (tkE tk1)) ∧ tk1.length ≤ tk.length + nmcL l) := by
  unfold big at hb
  have hT : ∀ (l : List Nd) (i : Nat) (x : Nd), l[i]? = some x → nmcL (l.take (i + 1)) = nmcL (l.take i) + nmc x := by
    intro l
    induction l with
    | nil => intro i x h; simp at h
    | cons y l ih =>
      intro i x h
      cases i with
      | zero => simp at h; subst h; simp [nmcL]
      | succ i => simp at h; simp [nmcL, ih i x h]; omega
  refine (iter_inv (mu := false) (step := evalC G false cl yl N c69b1) (an := ⟨[1, 20, 21, 22], [(22, none)], true⟩) (k := O.length) (m := R.length) (N := N) l (fun _ => (none : Option Unit))
    (fun i st => ∃ O1 tk1, st = ⟨[(1, .fn 68 [] [.ptr c 0]), (20, .slc .shared (avL l)), (21, .int .i64 l.length), (22, .int .i64 (i : Int))], ⟨O1, R⟩, []⟩ ∧ Fro tq O O1 ∧ O1[tq]? = some (.map (tkE tk1)) ∧ tk1.length ≤ tk.length + nmcL (l.take i))
    (fun r e s' => e = .exit 2 ∧ s'.mks = [] ∧ ∃ O1 tk1, s'.m = ⟨O1, R⟩ ∧ Fro tq O O1 ∧ O1[tq]? = some (.map (tkE tk1)) ∧ tk1.length ≤ tk.length + nmcL l) hN ⟨O, tk, rfl, .refl _ _, h.tq, by simp [nmcL]⟩ ?_ ?_)
  · rintro i x st hx hi ⟨O1, tk1, rfl, hF, hTk, hl⟩
    have hx' := (List.getElem?_eq_some_iff.1 hx).2
    have hlt := (List.getElem?_eq_some_iff.1 hTk).1
    obtain ⟨O2, tk2, k, hF2, hT2, hl2⟩ := h69 x (mem_of_get hx) (O1 ++ [.cells (ndc x)]) R tk1 ((h.fro hF hTk).app _)
    have w1 := wrap_succ (i := i) (by omega)
    have ht := hT l i x hx
    have fin : ∃ tk2, Fro tq O O2 ∧ O2[tq]? = some (.map (tkE tk2)) ∧ tk2.length ≤ tk.length + nmcL (l.take (i + 1)) :=
      ⟨tk2, (hF.trans (.app _ _ _)).trans hF2, hT2, by omega⟩
    obtain ⟨a1, a2, a3, a4⟩ := fin
    simp -implicitDefEqProofs [c69b1, hi, hx', k, w1]
    exact ⟨a2, a1, a3, a4⟩
  · rintro st ⟨O1, tk1, rfl, hF, hTk, hl⟩
    rw [List.take_length] at hl
    simp -implicitDefEqProofs [c69b1]
    exact ⟨hF, tk1, hTk, hl⟩
theorem ev69 (n : Nd) {O : List Obj} {R : List Arr} {c p id tq : Nat} {tk : List Str} (h : TkAt O c p id tq tk) (hb1 : n.ns.length < big) (hN1 : n.ns.length < N) (hb2 : n.l.length < big) (hN2 : n.l.length < N)
    (h68 : ∀ s O R tk, TkAt O c p id tq tk → cl 68 [.str s, .ptr c 0] ⟨O, R⟩ = some (.tup [], ⟨O.set tq (.map (tkE (tkP tk s))), R⟩))
    (h69 : ∀ x ∈ n.l, ∀ O R tk, TkAt O c p id tq tk → Puts cl 69 [av x, .fn 68 [] [.ptr c 0]] tq (nmc x) tk O R) :
    ∃ O' tk', callA G false cl yl N c69 [av n, .fn 68 [] [.ptr c 0]] ⟨O, R⟩ = some (.tup [], ⟨O', R⟩) ∧ Fro tq O O' ∧ O'[tq]? = some (.map (tkE tk')) ∧ tk'.length ≤ tk.length + nmc n := by
  obtain ⟨e, ⟨ts, M, mks⟩, a1, a2, rfl, rfl, a3, a4, O1, tk1, rfl, hF1, hT1, hl1⟩ := loop69a (G := G) (cl := cl) (yl := yl) (N := N) n.ns (O := O ++ [.cells (ndc n)]) (R := R) (q := O.length) (h.app _) hb1 hN1 h68
  have hq : O1[O.length]? = some (.cells (ndc n)) := hF1.old (by simp) (by have := (List.getElem?_eq_some_iff.1 h.tq).1; omega)
  obtain ⟨e, ⟨ts2, M, mks⟩, b1, b2, rfl, rfl, O2, tk2, rfl, hF2, hT2, hl2⟩ := loop69b (G := G) (cl := cl) (yl := yl) (N := N) n.l (O := O1) (R := R) ((h.app _).fro hF1 hT1) hb2 hN2 h69
  refine ⟨O2, tk2, ?_, ((Fro.app _ _ _).trans hF1).trans hF2, hT2, by rw [nmc_eq]; omega⟩
  simp at a1 a3 a4
  simp -implicitDefEqProofs [c69, a1, a3, a4, hq, b1, resV]
end
def msz (a : Nat) : Int := ((min a 1073741824 : Nat) : Int)
theorem msz_add (a b : Nat) : (if (1073741824 : Int) < msz a + msz b then (1073741824 : Int) else msz a + msz b) = msz (a + b) := by
  unfold msz; split <;> omega
theorem msz_max (a b : Nat) : (if msz a < msz b then msz b else msz a) = msz (max a b) := by
  unfold msz; split <;> omega
theorem msz_succ (a : Nat) : (if (1073741824 : Int) < msz a + 1 then (1073741824 : Int) else msz a + 1) = msz (a + 1) := by
  unfold msz; split <;> omega
theorem msz_wrap (a b : Nat) : wrapF .i64 (msz a + msz b) = msz a + msz b := by
  unfold msz; exact wrap_id (by omega) (by omega)
theorem msz_wrap1 (a : Nat) : wrapF .i64 (msz a + 1) = msz a + 1 := by
  unfold msz; exact wrap_id (by omega) (by omega)
theorem msz_one : msz 1 = 1 := rfl
theorem msz_zero : msz 0 = 0 := rfl
theorem msz_le {a b : Nat} (h : ¬ msz a > (b : Int)) (hb : b < 1073741824) : a ≤ b := by unfold msz at h; omega
def knV (a : Nat × Nat) : AV := .agg [.int .i64 (msz a.1), .int .i64 (msz a.2)]
def knE (kn : Kn) : List (AV × AV) := kn.map fun p => (.str p.1, knV p.2)
theorem find_knE (x : Str) : ∀ kn : Kn, ∃ r, find (.str x) (knE kn) = some r ∧ r.getD (knV (0, 0)) = knV (knf kn x)
  | [] => ⟨none, rfl, rfl⟩
  | p :: kn => by
    obtain ⟨r, h1, h2⟩ := find_knE x kn
    unfold knE at h1 ⊢
    simp only [List.map_cons, find, eqK]
    unfold knf at h2 ⊢
    rw [List.find?_cons]
    cases h : x == p.1 with
    | true =>
      have : (p.1 == x) = true := by simp at h ⊢; exact h.symm
      simp only [this]
      exact ⟨_, rfl, rfl⟩
    | false =>
      have : (p.1 == x) = false := by simp at h ⊢; exact fun e => h e.symm
      simp only [this]
      exact ⟨r, h1, h2⟩
theorem put_knE (x : Str) (a : Nat × Nat) : ∀ kn : Kn, x ∉ kn.map (·.1) → put (.str x) (knV a) (knE kn) = some (knE (kn ++ [(x, a)]))
  | [], _ => rfl
  | p :: kn, h => by
    have hne : x ≠ p.1 := fun e => h (by simp [e])
    have ih := put_knE x a kn (fun hm => h (by simp at hm ⊢; exact .inr hm))
    unfold knE at ih ⊢
    have : (x == p.1) = false := by simp [hne]
    simp only [List.map_cons, put, eqK, this, ih, List.cons_append]
structure MsAt (O : List Obj) (a b m : Nat) (kn : Kn) : Prop where
  fa : O[a]? = some (.cells [.map m])
  fb : O[b]? = some (.cells [.fn 123 [] [.ptr a 0, .ptr b 0]])
  fm : O[m]? = some (.map (knE kn))
theorem MsAt.app {O : List Obj} {a b m : Nat} {kn : Kn} (h : MsAt O a b m kn) (X : List Obj) : MsAt (O ++ X) a b m kn := ⟨get_old h.fa X, get_old h.fb X, get_old h.fm X⟩
theorem eszL_take {kn : Kn} : ∀ (l : List Nd) (i : Nat) (x : Nd), l[i]? = some x → eszL kn (l.take (i + 1)) = eszL kn (l.take i) + esz kn x ∧ edpL kn (l.take (i + 1)) = max (edpL kn (l.take i)) (edp kn x)
  | [], i, x, h => by simp at h
  | y :: l, 0, x, h => by simp at h; subst h; simp [eszL, edpL]
  | y :: l, i + 1, x, h => by
    simp at h
    obtain ⟨h1, h2⟩ := eszL_take (kn := kn) l i x h
    simp [eszL, edpL, h1, h2]
    omega
section
variable {G : Nat → Option AV} {cl : Caller} {yl : Nat → List AV → Mem → Option (AV × Mem)} {N : Nat}
theorem loop123 (l : List Nd) (kn : Kn) {O : List Obj} {R : List Arr} {a b m : Nat} (h : MsAt O a b m kn) (hb : l.length < big) (hN : l.length < N)
    (hc : ∀ x ∈ l, ∀ X, Gr (cl 123 [av x, .ptr a 0, .ptr b 0] ⟨O ++ X, R⟩) (.tup [.int .i64 (msz (esz kn x)), .int .i64 (msz (edp kn x))]) (O ++ X) R) :
    ∃ e s', iter false (evalC G false cl yl N c123b0) ⟨[2, 7, 8, 27, 28, 29], [(7, none), (8, none), (29, none)], true⟩ O.length R.length N ⟨[(2, .ptr b 0), (7, .int .i64 1), (8, .int .i64 0), (27, .slc .shared (avL l)), (28, .int .i64 l.length), (29, .int .i64 0)], ⟨O, R⟩, []⟩ = some (e, s') ∧ e ≠ .normal ∧
      (e = .exit 0 ∧ s'.mks = [] ∧ (∃ X, s'.m = ⟨O ++ X, R⟩) ∧ look 7 s'.ts = .int .i64 (msz (1 + eszL kn l)) ∧ look 8 s'.ts = .int .i64 (msz (edpL kn l))) := by
  unfold big at hb
  refine (iter_inv (mu := false) (step := evalC G false cl yl N c123b0) (an := ⟨[2, 7, 8, 27, 28, 29], [(7, none), (8, none), (29, none)], true⟩) (k := O.length) (m := R.length) (N := N) l (fun _ => (none : Option Unit))
    (fun i st => ∃ X, st = ⟨[(2, .ptr b 0), (7, .int .i64 (msz (1 + eszL kn (l.take i)))), (8, .int .i64 (msz (edpL kn (l.take i)))), (27, .slc .shared (avL l)), (28, .int .i64 l.length), (29, .int .i64 (i : Int))], ⟨O ++ X, R⟩, []⟩)
    (fun r e s' => e = .exit 0 ∧ s'.mks = [] ∧ (∃ X, s'.m = ⟨O ++ X, R⟩) ∧ look 7 s'.ts = .int .i64 (msz (1 + eszL kn l)) ∧ look 8 s'.ts = .int .i64 (msz (edpL kn l))) hN ⟨[], by simp [eszL, edpL]; exact ⟨rfl, rfl⟩⟩ ?_ ?_)
  · rintro i x st hx hi ⟨X, rfl⟩
    have hx' := (List.getElem?_eq_some_iff.1 hx).2
    obtain ⟨Y, k⟩ := hc x (mem_of_get hx) (X ++ [.cells (ndc x)])
    have hB := fun r => get_old h.fb r
    have w1 := wrap_succ (i := i) (by omega)
    obtain ⟨t1, t2⟩ := eszL_take (kn := kn) l i x hx
    have e1 := msz_add (1 + eszL kn (l.take i)) (esz kn x)
    have e2 := msz_max (edpL kn (l.take i)) (edp kn x)
    have e3 := msz_wrap (1 + eszL kn (l.take i)) (esz kn x)
    rw [t1, t2, ← Nat.add_assoc]
    simp -implicitDefEqProofs at k
    simp -implicitDefEqProofs [c123b0, hi, hx', hB, k, w1, e1, e2, e3]
  · rintro st ⟨X, rfl⟩
    rw [List.take_length]
    simp -implicitDefEqProofs [c123b0]
theorem ev123 (n : Nd) (kn : Kn) {O : List Obj} {R : List Arr} {a b m : Nat} (h : MsAt O a b m kn) (hv : n.op = 10 → n.ns ≠ []) (hb : n.l.length < big) (hN : n.l.length < N)
    (hc : ∀ x ∈ n.l, ∀ X, Gr (cl 123 [av x, .ptr a 0, .ptr b 0] ⟨O ++ X, R⟩) (.tup [.int .i64 (msz (esz kn x)), .int .i64 (msz (edp kn x))]) (O ++ X) R) :
    Gr (callA G false cl yl N c123 [av n, .ptr a 0, .ptr b 0] ⟨O, R⟩) (.tup [.int .i64 (msz (esz kn n)), .int .i64 (msz (edp kn n))]) O R := by
  have hA := fun r => get_old h.fa r
  have hM := fun r => get_old h.fm r
  have es : esz kn n = if n.op = 10 then (knf kn (hdS n.ns)).1 else 1 + eszL kn n.l := by cases n; rfl
  have ed : edp kn n = if n.op = 10 then (knf kn (hdS n.ns)).2 else edpL kn n.l + 1 := by cases n; rfl
  rw [es, ed]
  by_cases h10 : n.op = 10
  · obtain ⟨s, xs, hn⟩ := List.exists_cons_of_ne_nil (hv h10)
    obtain ⟨r, f1, f2⟩ := find_knE s kn
    simp only [h10, if_true, hn, hdS]
    unfold Gr
    cases r with
    | none =>
      simp only [Option.getD_none] at f2
      have f3 : (AV.agg [.int .i64 0, .int .i64 0]) = .agg [.int .i64 (msz (knf kn s).1), .int .i64 (msz (knf kn s).2)] := f2
      simp only [AV.agg.injEq, List.cons.injEq, AV.int.injEq, true_and, and_true] at f3
      apply Exists.intro
      simp -implicitDefEqProofs [c123, h10, hn, hA, hM, f1, lkpA, keyK, ← f3.1, ← f3.2]
      rfl
    | some v =>
      simp only [Option.getD_some] at f2
      subst f2
      apply Exists.intro
      simp -implicitDefEqProofs [c123, h10, hn, hA, hM, f1, lkpA, keyK, knV]
      rfl
  · have h10' : (n.op == 10) = false := by simp [h10]
    obtain ⟨e, ⟨ts, M, mks⟩, k1, -, rfl, rfl, ⟨X, rfl⟩, k7, k8⟩ := loop123 (G := G) (cl := cl) (yl := yl) (N := N) n.l kn (h.app [.cells (ndc n)]) hb hN (fun x hx Y => by rw [List.append_assoc]; exact hc x hx _)
    have e4 := msz_wrap1 (edpL kn n.l)
    have e5 := msz_succ (edpL kn n.l)
    simp at k1 k7 k8
    simp only [h10, if_false]
    unfold Gr
    apply Exists.intro
    simp -implicitDefEqProofs [c123, h10, h10', k1, k7, k8, e4, e5]
    rfl
end
section
variable {G : Nat → Option AV} {cl : Caller} {yl : Nat → List AV → Mem → Option (AV × Mem)} {N : Nat}
theorem knA_take {w : List Mc} {i : Nat} {d : Mc} (h : w[i]? = some d) : knA [] (w.take (i + 1)) = knA [] (w.take i) ++ [(d.nm, esz (knA [] (w.take i)) d.bd, edp (knA [] (w.take i)) d.bd)] := by
  rw [take_succ_of h, knA_append]; rfl
theorem loop67 (w : List Mc) (sp : Sp) (hw : Wf w) {O : List Obj} {R : List Arr} (hb : w.length < big) (hN : w.length < N)
    (hc : ∀ d ∈ w, ∀ kn O', MsAt O' (O.length + 1) (O.length + 2) O.length kn → Gr (cl 123 [av d.bd, .ptr (O.length + 1) 0, .ptr (O.length + 2) 0] ⟨O', R⟩) (.tup [.int .i64 (msz (esz kn d.bd)), .int .i64 (msz (edp kn d.bd))]) O' R) :
    ∃ e s', iter false (evalC G false cl yl N c67b0) ⟨[3, 4, 14, 15, 16], [(16, none)], true⟩ (O.length + 3) R.length N ⟨[(3, .ptr (O.length + 1) 0), (4, .ptr (O.length + 2) 0), (14, .slc sp (w.map mcv)), (15, .int .i64 w.length), (16, .int .i64 0)], ⟨O ++ [.map [], .cells [.map O.length], .cells [.fn 123 [] [.ptr (O.length + 1) 0, .ptr (O.length + 2) 0]]], R⟩, []⟩ = some (e, s') ∧ e ≠ .normal ∧
      (e = .exit 0 ∧ s'.mks = [] ∧ look 4 s'.ts = .ptr (O.length + 2) 0 ∧ ∃ X, s'.m = ⟨O ++ (.map (knE (knw w)) :: .cells [.map O.length] :: .cells [.fn 123 [] [.ptr (O.length + 1) 0, .ptr (O.length + 2) 0]] :: X), R⟩) := by
  unfold big at hb
  refine (iter_inv (mu := false) (step := evalC G false cl yl N c67b0) (an := ⟨[3, 4, 14, 15, 16], [(16, none)], true⟩) (k := O.length + 3) (m := R.length) (N := N) w (fun _ => (none : Option Unit))
    (fun i st => ∃ X, st = ⟨[(3, .ptr (O.length + 1) 0), (4, .ptr (O.length + 2) 0), (14, .slc sp (w.map mcv)), (15, .int .i64 w.length), (16, .int .i64 (i : Int))], ⟨O ++ (.map (knE (knA [] (w.take i))) :: .cells [.map O.length] :: .cells [.fn 123 [] [.ptr (O.length + 1) 0, .ptr (O.length + 2) 0]] :: X), R⟩, []⟩)
    (fun r e s' => e = .exit 0 ∧ s'.mks = [] ∧ look 4 s'.ts = .ptr (O.length + 2) 0 ∧ ∃ X, s'.m = ⟨O ++ (.map (knE (knw w)) :: .cells [.map O.length] :: .cells [.fn 123 [] [.ptr (O.length + 1) 0, .ptr (O.length + 2) 0]] :: X), R⟩) hN ⟨[], rfl⟩ ?_ ?_)
  · rintro i d st hx hi ⟨X, rfl⟩
    have hx' := (List.getElem?_eq_some_iff.1 hx).2
    have w1 := wrap_succ (i := i) (by omega)
    have hd := mem_of_get hx
    have hM : MsAt (O ++ (.map (knE (knA [] (w.take i))) :: .cells [.map O.length] :: .cells [.fn 123 [] [.ptr (O.length + 1) 0, .ptr (O.length + 2) 0]] :: (X ++ [.cells (mcc d)]))) (O.length + 1) (O.length + 2) O.length (knA [] (w.take i)) := ⟨by simp, by simp, by simp⟩
    obtain ⟨Y, hY⟩ := hc d hd (knA [] (w.take i)) _ hM
    have hwd : w = w.take i ++ d :: w.drop (i + 1) := by
      rw [← hx', ← List.drop_eq_getElem_cons hi, List.take_append_drop]
    have hn : d.nm ∉ (knA [] (w.take i)).map (·.1) := by
      rw [knA_names]
      simpa using fnd_nm.1 (may_md (hw _ _ _ hwd)).new
    have hp := put_knE d.nm (esz (knA [] (w.take i)) d.bd, edp (knA [] (w.take i)) d.bd) _ hn
    rw [knA_take hx]
    generalize knA [] (w.take i) = kn at *
    unfold knV at hp
    simp only at hp
    simp -implicitDefEqProofs [mcc_eq] at hY
    simp -implicitDefEqProofs [c67b0, hi, hx', w1, mcc_eq, hY, hp, insA, keyK]
  · rintro st ⟨X, rfl⟩
    rw [List.take_length]
    simp -implicitDefEqProofs [c67b0, knw]
theorem ev67 (w : List Mc) (hw : Wf w) {O : List Obj} {R : List Arr} {id : Nat} (hs : SetR O id w) (hb : w.length < big) (hN : w.length < N)
    (hc : ∀ d ∈ w, ∀ kn O', MsAt O' (O.length + 1) (O.length + 2) O.length kn → Gr (cl 123 [av d.bd, .ptr (O.length + 1) 0, .ptr (O.length + 2) 0] ⟨O', R⟩) (.tup [.int .i64 (msz (esz kn d.bd)), .int .i64 (msz (edp kn d.bd))]) O' R) :
    ∃ X, callA G false cl yl N c67 [.ptr id 0] ⟨O, R⟩ = some (.fn 123 [] [.ptr (O.length + 1) 0, .ptr (O.length + 2) 0], ⟨O ++ X, R⟩) ∧ MsAt (O ++ X) (O.length + 1) (O.length + 2) O.length (knw w) := by
  obtain ⟨sp, hg⟩ := hs
  have hg' := fun r => get_old hg r
  obtain ⟨e, ⟨ts, M, mks⟩, k1, -, rfl, rfl, k4, X, rfl⟩ := loop67 (G := G) (cl := cl) (yl := yl) (N := N) w sp hw hb hN hc
  refine ⟨.map (knE (knw w)) :: .cells [.map O.length] :: .cells [.fn 123 [] [.ptr (O.length + 1) 0, .ptr (O.length + 2) 0]] :: X, ?_, ⟨by simp, by simp, by simp⟩⟩
  simp at k1 k4
  simp -implicitDefEqProofs [c67, hg', k1, k4]
theorem loop40s (sp : Sp) (ps : List Vr) {O : List Obj} {R : List Arr} (hb : ps.length < big) (hN : ps.length < N)
    (h97 : ∀ c v X, cells c = some [c] → cl 97 [c, vrv v] ⟨O ++ X, R⟩ = some (.fn 158 [] [.ptr ((O ++ X).length + 1) 0, .ptr (O ++ X).length 0], ⟨O ++ X ++ [.cells [c], .cells (vrc v)], R⟩)) :
    ∃ e s', iter false (evalC G false cl yl N c40b0) ⟨[3, 6, 7, 8], [(3, none), (8, none)], true⟩ O.length R.length N ⟨[(3, .fn 98 [] []), (6, .slc sp (ps.map vrv)), (7, .int .i64 ps.length), (8, .int .i64 0)], ⟨O, R⟩, []⟩ = some (e, s') ∧ e ≠ .normal ∧
      (e = .exit 0 ∧ s'.mks = [] ∧ ∃ X c, s'.m = ⟨O ++ X, R⟩ ∧ look 3 s'.ts = c ∧ Sc (O ++ X) c ps) := by
  unfold big at hb
  refine (iter_inv (mu := false) (step := evalC G false cl yl N c40b0) (an := ⟨[3, 6, 7, 8], [(3, none), (8, none)], true⟩) (k := O.length) (m := R.length) (N := N) ps (fun _ => (none : Option Unit))
    (fun i st => ∃ X c, st = ⟨[(3, c), (6, .slc sp (ps.map vrv)), (7, .int .i64 ps.length), (8, .int .i64 (i : Int))], ⟨O ++ X, R⟩, []⟩ ∧ Sc (O ++ X) c (ps.take i))
    (fun r e s' => e = .exit 0 ∧ s'.mks = [] ∧ ∃ X c, s'.m = ⟨O ++ X, R⟩ ∧ look 3 s'.ts = c ∧ Sc (O ++ X) c ps) hN ⟨[], .fn 98 [] [], by simp, .nil⟩ ?_ ?_)
  · rintro i v st hx hi ⟨X, c, rfl, hc⟩
    have k := h97 c v (X ++ [.cells (vrc v)]) hc.cells
    have hx' := (List.getElem?_eq_some_iff.1 hx).2
    have w1 := wrap_succ (i := i) (by omega)
    have s97 := sc97 (hc.grow [.cells (vrc v)]) v
    obtain ⟨f, cap, rfl⟩ := hc.fn
    simp -implicitDefEqProofs [vrc] at k
    rw [take_succ_of hx]
    simp -implicitDefEqProofs [vrc] at s97
    simp -implicitDefEqProofs [c40b0, hi, hx', k, w1, vrc]
    exact ⟨_, _, ⟨rfl, rfl⟩, s97⟩
  · rintro st ⟨X, c, rfl, hc⟩
    rw [List.take_length] at hc
    simp -implicitDefEqProofs [c40b0]
    first | exact hc | exact ⟨_, rfl, hc⟩
theorem ev40s (sp : Sp) (ps : List Vr) {O : List Obj} {R : List Arr} (hb : ps.length < big) (hN : ps.length < N)
    (h97 : ∀ c v X, cells c = some [c] → cl 97 [c, vrv v] ⟨O ++ X, R⟩ = some (.fn 158 [] [.ptr ((O ++ X).length + 1) 0, .ptr (O ++ X).length 0], ⟨O ++ X ++ [.cells [c], .cells (vrc v)], R⟩)) :
    ∃ c X, callA G false cl yl N c40 [.slc sp (ps.map vrv)] ⟨O, R⟩ = some (c, ⟨O ++ X, R⟩) ∧ Sc (O ++ X) c ps := by
  obtain ⟨e, ⟨ts, M, mks⟩, h1, h2, rfl, rfl, X, c, rfl, h4, h5⟩ := loop40s (G := G) (cl := cl) (yl := yl) (N := N) sp ps hb hN h97
  refine ⟨c, X, ?_, h5⟩
  obtain ⟨f, cap, rfl⟩ := h5.fn
  simp at h4
  cases sp <;> simp -implicitDefEqProofs [c40, h1, h4]
def rn (a : Option (List (Str × Str))) (s : Str) : Str := match a with
  | none => s
  | some m => ren m s
inductive AsV (O : List Obj) : AV → Option (List (Str × Str)) → Prop
  | nil : AsV O .nilm none
  | map {q : Nat} {m : List (Str × Str)} (h : O[q]? = some (.map (asE m))) : AsV O (.map q) (some m)
theorem AsV.cells {O : List Obj} {v : AV} {a : Option (List (Str × Str))} (h : AsV O v a) : cells v = some [v] := by cases h <;> rfl
theorem AsV.app {O : List Obj} {v : AV} {a : Option (List (Str × Str))} (h : AsV O v a) (X : List Obj) : AsV (O ++ X) v a := by
  cases h with
  | nil => exact .nil
  | map h => exact .map (get_old h X)
theorem AsV.fro {O O' : List Obj} {p : Nat} {v : AV} {a : Option (List (Str × Str))} {cs : List AV} (h : AsV O v a) (k : Fro p O O') (hp : O[p]? = some (.cells cs)) : AsV O' v a := by
  cases h with
  | nil => exact .nil
  | map h => exact .map (k.old h (fun e => by rw [e, hp] at h; cases h))
theorem rn_lk (a : Option (List (Str × Str))) (s : Str) {O : List Obj} {R : List Arr} {v : AV} (h : AsV O v a) :
    ∃ y b, lkpA (.str []) true v (.str s) ⟨O, R⟩ = some (.tup [.str y, .bool b], ⟨O, R⟩) ∧ rn a s = if b then y else s := by
  cases h with
  | nil => exact ⟨[], false, rfl, rfl⟩
  | map h =>
    rename_i q m
    have hf := find_asE s m
    cases hl : lkS m s with
    | none => exact ⟨[], false, by simp [lkpA, h, hf, hl], by simp [rn, ren, hl]⟩
    | some y => exact ⟨y, true, by simp [lkpA, h, hf, hl], by simp [rn, ren, hl]⟩
theorem ev124 (a : Option (List (Str × Str))) (s : Str) {O : List Obj} {R : List Arr} {q : Nat} {v : AV} (hq : O[q]? = some (.cells [v])) (h : AsV O v a) :
    callA G true cl yl N c124 [.str s, .ptr q 0] ⟨O, R⟩ = some (.str (rn a s), ⟨O, R⟩) := by
  obtain ⟨y, b, h1, h2⟩ := rn_lk a s (R := R) h
  rw [h2]
  cases b with
  | true => simp -implicitDefEqProofs [c124, hq, h1, keyK]
  | false => simp -implicitDefEqProofs [c124, hq, h1, keyK]
theorem ev126 (m : List (Str × Str)) {O : List Obj} {R : List Arr} {q : Nat} (hq : O[q]? = some (.map (asE m))) :
    callA G true cl yl N c126 [.map q] ⟨O, R⟩ = some (.map O.length, ⟨O ++ [.map (asE m)], R⟩) := by
  simp -implicitDefEqProofs [c126, hq]
structure Mk (O : List Obj) (p id tq c : Nat) (tk : List Str) : Prop where
  p : O[p]? = some (.cells [.ptr id 0, .map tq, .int .i64 (c : Nat)])
  tq : O[tq]? = some (.map (tkE tk))
theorem Mk.ne {O : List Obj} {p id tq c : Nat} {tk : List Str} (h : Mk O p id tq c tk) : tq ≠ p := by
  intro e
  have := h.p
  rw [← e, h.tq] at this
  cases this
theorem Mk.app {O : List Obj} {p id tq c : Nat} {tk : List Str} (h : Mk O p id tq c tk) (X : List Obj) : Mk (O ++ X) p id tq c tk := ⟨get_old h.p X, get_old h.tq X⟩
theorem loop127 (tk : List Str) (n : Nat) {O : List Obj} {R : List Arr} {p id tq c : Nat} (h : Mk O p id tq c tk) (h1 : c < n) (h2 : zz n ∉ tk) (h3 : ∀ i, c < i → i < n → zz i ∈ tk) (hn : n < big) (hN : n - c < N)
    (h179 : ∀ i : Nat, i < big → ∀ M, cl 179 [.int .i64 (i : Nat)] M = some (.str (Lib.decDigits i), M)) (k m : Nat) :
    ∃ e s', iter true (evalC G true cl yl N c127b0) ⟨[0], [], true⟩ k m N ⟨[(2, .str []), (0, .ptr p 0)], ⟨O, R⟩, []⟩ = some (e, s') ∧ e ≠ .normal ∧
      (e = .ret ∧ s'.mks = [] ∧ look 2 s'.ts = .str (zz n) ∧ s'.m = ⟨O.set p (.cells [.ptr id 0, .map tq, .int .i64 (n : Nat)]), R⟩) := by
  have hne := h.ne
  obtain ⟨hp, ht⟩ := h
  have hlt := (List.getElem?_eq_some_iff.1 hp).1
  have g1 : ∀ x, (O.set p x)[p]? = some x := fun x => List.getElem?_set_self hlt
  have g2 : ∀ x, (O.set p x)[tq]? = some (.map (tkE tk)) := fun x => by rw [List.getElem?_set_ne (by omega)]; exact ht
  have g0 : O.set p (.cells [.ptr id 0, .map tq, .int .i64 (c : Nat)]) = O := by
    apply List.ext_getElem?
    intro j
    by_cases hj : j = p
    · subst hj; rw [g1]; exact hp.symm
    · rw [List.getElem?_set_ne (by omega)]
  have fs : ∀ (L : List Nat) (d : Nat), ((List.range d).findSome? (fun i => if i + 1 = n - c then some () else none) = if n - c ≤ d then some () else none) := by
    intro _ d
    induction d with
    | zero => simp; omega
    | succ d ih =>
      rw [List.range_succ, List.findSome?_append, ih]
      by_cases hd : n - c ≤ d
      · simp [hd]; omega
      · by_cases he : d + 1 = n - c
        · simp [hd, he]
        · simp [hd, he]; omega
  have main := iter_inv (mu := true) (step := evalC G true cl yl N c127b0) (an := ⟨[0], [], true⟩) (k := k) (m := m) (N := N) (List.range (n - c)) (fun i => if i + 1 = n - c then some () else none)
    (fun i s => ∃ ts, s = ⟨ts, ⟨O.set p (.cells [.ptr id 0, .map tq, .int .i64 ((c + i : Nat) : Int)]), R⟩, []⟩ ∧ look 0 ts = .ptr p 0 ∧ i < n - c)
    (fun r e s' => e = .ret ∧ s'.mks = [] ∧ look 2 s'.ts = .str (zz n) ∧ s'.m = ⟨O.set p (.cells [.ptr id 0, .map tq, .int .i64 (n : Nat)]), R⟩) (s0 := ⟨[(2, .str []), (0, .ptr p 0)], ⟨O, R⟩, []⟩) (by simpa using hN) ⟨_, by rw [Nat.add_zero, g0], rfl, by omega⟩ ?_ ?_
  · obtain ⟨e, s', q1, q2, q3, q4, q5, q6⟩ := main
    exact ⟨e, s', q1, q2, q3, q4, q5, q6⟩
  · rintro i x s hx hi ⟨ts, rfl, l0, hin⟩
    have hxi : x = i := by
      rw [List.getElem?_range hin] at hx
      simpa using hx.symm
    subst hxi
    unfold big at hn
    have w1 : wrapF .i64 ((c : Int) + (x : Int) + 1) = ((c + x + 1 : Nat) : Int) := by rw [wrap_id (by omega) (by omega)]; omega
    have hd := h179 (c + x + 1) (by unfold big; omega)
    have hf := find_tkE (zz (c + x + 1)) tk
    have hz : 122 :: Lib.decDigits (c + x + 1) = zz (c + x + 1) := rfl
    have hlen : (Lib.decDigits (c + x + 1)).length + 1 ≤ 9223372036854775807 := by
      have := dd_len 9 (c + x + 1) (by omega)
      omega
    have hlen' : 1 + (Lib.decDigits (c + x + 1)).length ≤ 9223372036854775807 := by omega
    by_cases he : x + 1 = n - c
    · have en : c + x + 1 = n := by omega
      rw [en] at hd hf hz w1 hlen hlen'
      have hc : tk.contains (zz n) = false := by simpa using h2
      rw [hc] at hf
      simp only [Bool.false_eq_true, if_false] at hf
      rw [if_pos he]
      simp -implicitDefEqProofs [c127b0, l0, g1, g2, w1, hd, strA, hlen, hlen', hz, hf, lkpA, keyK, List.set_set]
    · have hc : tk.contains (zz (c + x + 1)) = true := by simpa using h3 (c + x + 1) (by omega) (by omega)
      rw [hc] at hf
      simp only [if_true] at hf
      rw [if_neg he]
      have hin' : x + 1 < n - c := by omega
      simp -implicitDefEqProofs at hd w1
      simp -implicitDefEqProofs [c127b0, l0, g1, g2, w1, hd, strA, hlen, hlen', hz, hf, lkpA, keyK, List.set_set]
      exact ⟨_, ⟨rfl, by rw [Int.add_assoc]⟩, by simpa using l0, hin'⟩
  · rintro s ⟨ts, rfl, l0, hin⟩
    rw [List.length_range] at hin
    omega
theorem ev127 (tk : List Str) {O : List Obj} {R : List Arr} {p id tq c : Nat} (h : Mk O p id tq c tk) (hb : c + tk.length + 1 < big) (hN : tk.length + 1 < N)
    (h179 : ∀ i : Nat, i < big → ∀ M, cl 179 [.int .i64 (i : Nat)] M = some (.str (Lib.decDigits i), M)) :
    ∃ n, c < n ∧ n ≤ c + tk.length + 1 ∧ callA G true cl yl N c127 [.ptr p 0] ⟨O, R⟩ = some (.str (zz n), ⟨O.set p (.cells [.ptr id 0, .map tq, .int .i64 (n : Nat)]), R⟩) := by
  obtain ⟨n, h1, h2, h3, h4⟩ := zz_first tk c
  obtain ⟨e, ⟨ts, M, mks⟩, k1, -, rfl, rfl, k2, rfl⟩ := loop127 (G := G) (cl := cl) (yl := yl) (N := N) tk n (R := R) h h1 h3 h4 (by omega) (by omega) h179 O.length R.length
  refine ⟨n, h1, h2, ?_⟩
  simp at k2
  simp -implicitDefEqProofs [c127, k1, k2]
end
def c71t3 : CCode := (.seq (.reg [⟨some 62, (.load (.ag 6) (.tmp 4)), none⟩, ⟨some 13, (.alloc [(.int .i64 0), (.slc .full []), (.int .i64 0), (.int .i64 0), (.int .i64 0), (.slc .full [])]), none⟩, ⟨none, (.store 6 (.tmp 13) (.tmp 62)), none⟩]) (.seq (.reg [⟨some 63, (.faddr 1 .sc (.tmp 4)), none⟩, ⟨some 64, (.load .sc (.tmp 63)), none⟩, ⟨some 65, (.call (.fn 125) [(.tmp 64)]), none⟩, ⟨some 66, (.faddr 1 .sc (.tmp 13)), none⟩, ⟨none, (.store 1 (.tmp 66) (.tmp 65)), none⟩, ⟨some 67, (.faddr 5 .sc (.tmp 13)), none⟩, ⟨none, (.store 1 (.tmp 67) (.const (.slc .full []))), none⟩]) (.seq (.seq (.reg [⟨some 68, (.load (.ag 6) (.tmp 4)), none⟩, ⟨some 69, (.call (.fn 96) [(.tmp 68)]), none⟩, ⟨some 70, (.mov (.tmp 69)), none⟩, ⟨some 71, (.load .sc (.tmp 5)), some (70, true)⟩, ⟨some 72, (.isnil 2 true (.tmp 71)), some (70, true)⟩, ⟨some 73, (.pick (.tmp 70) (.tmp 72) (.const (.bool false))), none⟩]) (.cond (.tmp 73) (.seq (.reg [⟨some 74, (.load .sc (.tmp 5)), none⟩, ⟨some 75, (.call (.fn 126) [(.tmp 74)]), none⟩, ⟨none, (.store 1 (.tmp 5) (.tmp 75)), none⟩]) (.drg [⟨⟨some 76, (.load .sc (.tmp 5)), none⟩, .light 0 1, [(5, none)]⟩, ⟨⟨some 77, (.faddr 1 .sc (.tmp 4)), none⟩, .light 0 1, [(4, none)]⟩, ⟨⟨some 78, (.load .sc (.tmp 77)), none⟩, .light 0 1, [(77, some 1)]⟩, ⟨⟨some 79, (.iaddrS .sc (.tmp 78) (.const (.int .i64 0))), none⟩, .light 0 1, [(78, some 2)]⟩, ⟨⟨some 80, (.load .sc (.tmp 79)), none⟩, .light 0 1, [(79, some 3)]⟩, ⟨⟨some 81, (.mov (.tmp 0)), none⟩, .light 0 0, [(0, none)]⟩, ⟨⟨some 82, (.call (.fn 127) [(.tmp 81)]), none⟩, .heavy, [(81, some 5)]⟩, ⟨⟨none, (.ins true (.tmp 76) (.tmp 80) (.tmp 82)), none⟩, .heavy, [(76, some 0), (80, some 4), (82, some 6)]⟩])) .skip)) (.seq (.seq (.reg [⟨some 83, (.faddr 1 .sc (.tmp 4)), none⟩, ⟨some 84, (.load .sc (.tmp 83)), none⟩, ⟨some 85, (.len 1 (.tmp 84)), none⟩, ⟨some 86, (.mov (.const (.int .i64 0))), none⟩]) (.block 2 (.loop ⟨[0, 4, 5, 6, 13, 84, 85, 86], [(86, none)], true⟩ c71b1))) (.seq (.seq (.reg [⟨some 104, (.faddr 5 .sc (.tmp 4)), none⟩, ⟨some 105, (.load .sc (.tmp 104)), none⟩, ⟨some 106, (.len 1 (.tmp 105)), none⟩, ⟨some 107, (.mov (.const (.int .i64 0))), none⟩]) (.block 4 (.loop ⟨[0, 5, 6, 13, 105, 106, 107], [(13, some 5), (107, none)], true⟩ c71b2))) (.seq (.reg [⟨some 121, (.load (.ag 6) (.tmp 13)), none⟩, ⟨none, (.store 6 (.tmp 6) (.tmp 121)), none⟩]) .ret))))))
def c71t5 : CCode := (.seq (.seq (.reg [⟨some 68, (.load (.ag 6) (.tmp 4)), none⟩, ⟨some 69, (.call (.fn 96) [(.tmp 68)]), none⟩, ⟨some 70, (.mov (.tmp 69)), none⟩, ⟨some 71, (.load .sc (.tmp 5)), some (70, true)⟩, ⟨some 72, (.isnil 2 true (.tmp 71)), some (70, true)⟩, ⟨some 73, (.pick (.tmp 70) (.tmp 72) (.const (.bool false))), none⟩]) (.cond (.tmp 73) (.seq (.reg [⟨some 74, (.load .sc (.tmp 5)), none⟩, ⟨some 75, (.call (.fn 126) [(.tmp 74)]), none⟩, ⟨none, (.store 1 (.tmp 5) (.tmp 75)), none⟩]) (.drg [⟨⟨some 76, (.load .sc (.tmp 5)), none⟩, .light 0 1, [(5, none)]⟩, ⟨⟨some 77, (.faddr 1 .sc (.tmp 4)), none⟩, .light 0 1, [(4, none)]⟩, ⟨⟨some 78, (.load .sc (.tmp 77)), none⟩, .light 0 1, [(77, some 1)]⟩, ⟨⟨some 79, (.iaddrS .sc (.tmp 78) (.const (.int .i64 0))), none⟩, .light 0 1, [(78, some 2)]⟩, ⟨⟨some 80, (.load .sc (.tmp 79)), none⟩, .light 0 1, [(79, some 3)]⟩, ⟨⟨some 81, (.mov (.tmp 0)), none⟩, .light 0 0, [(0, none)]⟩, ⟨⟨some 82, (.call (.fn 127) [(.tmp 81)]), none⟩, .heavy, [(81, some 5)]⟩, ⟨⟨none, (.ins true (.tmp 76) (.tmp 80) (.tmp 82)), none⟩, .heavy, [(76, some 0), (80, some 4), (82, some 6)]⟩])) .skip)) (.seq (.seq (.reg [⟨some 83, (.faddr 1 .sc (.tmp 4)), none⟩, ⟨some 84, (.load .sc (.tmp 83)), none⟩, ⟨some 85, (.len 1 (.tmp 84)), none⟩, ⟨some 86, (.mov (.const (.int .i64 0))), none⟩]) (.block 2 (.loop ⟨[0, 4, 5, 6, 13, 84, 85, 86], [(86, none)], true⟩ c71b1))) (.seq (.seq (.reg [⟨some 104, (.faddr 5 .sc (.tmp 4)), none⟩, ⟨some 105, (.load .sc (.tmp 104)), none⟩, ⟨some 106, (.len 1 (.tmp 105)), none⟩, ⟨some 107, (.mov (.const (.int .i64 0))), none⟩]) (.block 4 (.loop ⟨[0, 5, 6, 13, 105, 106, 107], [(13, some 5), (107, none)], true⟩ c71b2))) (.seq (.reg [⟨some 121, (.load (.ag 6) (.tmp 13)), none⟩, ⟨none, (.store 6 (.tmp 6) (.tmp 121)), none⟩]) .ret))))
def c71t6 : CCode := (.seq (.seq (.reg [⟨some 83, (.faddr 1 .sc (.tmp 4)), none⟩, ⟨some 84, (.load .sc (.tmp 83)), none⟩, ⟨some 85, (.len 1 (.tmp 84)), none⟩, ⟨some 86, (.mov (.const (.int .i64 0))), none⟩]) (.block 2 (.loop ⟨[0, 4, 5, 6, 13, 84, 85, 86], [(86, none)], true⟩ c71b1))) (.seq (.seq (.reg [⟨some 104, (.faddr 5 .sc (.tmp 4)), none⟩, ⟨some 105, (.load .sc (.tmp 104)), none⟩, ⟨some 106, (.len 1 (.tmp 105)), none⟩, ⟨some 107, (.mov (.const (.int .i64 0))), none⟩]) (.block 4 (.loop ⟨[0, 5, 6, 13, 105, 106, 107], [(13, some 5), (107, none)], true⟩ c71b2))) (.seq (.reg [⟨some 121, (.load (.ag 6) (.tmp 13)), none⟩, ⟨none, (.store 6 (.tmp 6) (.tmp 121)), none⟩]) .ret)))
def c71t7 : CCode := (.seq (.seq (.reg [⟨some 104, (.faddr 5 .sc (.tmp 4)), none⟩, ⟨some 105, (.load .sc (.tmp 104)), none⟩, ⟨some 106, (.len 1 (.tmp 105)), none⟩, ⟨some 107, (.mov (.const (.int .i64 0))), none⟩]) (.block 4 (.loop ⟨[0, 5, 6, 13, 105, 106, 107], [(13, some 5), (107, none)], true⟩ c71b2))) (.seq (.reg [⟨some 121, (.load (.ag 6) (.tmp 13)), none⟩, ⟨none, (.store 6 (.tmp 6) (.tmp 121)), none⟩]) .ret))
def c71t8 : CCode := (.seq (.reg [⟨some 121, (.load (.ag 6) (.tmp 13)), none⟩, ⟨none, (.store 6 (.tmp 6) (.tmp 121)), none⟩]) .ret)
@[simp] theorem iter_t_succ {step : St → Option (Ex × St)} {an : Ann} {k m n : Nat} {s s' : St} (h : step s = some (.normal, s')) : iter true step an k m (n + 1) s = iter true step an k m n s' := by
  simp only [iter, h, tidy, if_true]
theorem iter_t_stop {step : St → Option (Ex × St)} {an : Ann} {k m n : Nat} {s s' : St} {e : Ex} (h : step s = some (e, s')) (he : e ≠ .normal) : iter true step an k m (n + 1) s = some (e, s') := by
  simp only [iter, h]
  cases e <;> first | exact absurd rfl he | rfl
section
variable {G : Nat → Option AV} {cl : Caller} {yl : Nat → List AV → Mem → Option (AV × Mem)} {N N0 : Nat}
theorem it71 (l : List Nd) (x : Nd) (op so nn mm : Int) (nv kv kv' : AV) {p q5 q6 q13 i : Nat} {v : AV} {O O1 : List Obj} {R R1 R2 : List Arr} {c0 c1 c2 c3 c4 c5 : AV} {ts : Slots}
    (hx : l[i]? = some x) (hb : l.length < big) (h5 : O[q5]? = some (.cells [v])) (h13 : O[q13]? = some (.cells (nc6 op so nn mm nv kv))) (hkv : cells kv' = some [kv'])
    (hcall : cl 71 [.ptr p 0, av x, v] ⟨O ++ [.cells (ndc x)], R⟩ = some (.agg [c0, c1, c2, c3, c4, c5], ⟨O1, R1⟩)) (h13' : O1[q13]? = some (.cells (nc6 op so nn mm nv kv)))
    (happ : appM 40 (.ag 6) 80 kv (.osl R1.length 0 0 1) ⟨O1, R1 ++ [.wr 0 40 (.ag 6) [c0, c1, c2, c3, c4, c5]]⟩ = some (kv', ⟨O1, R2⟩))
    (l0 : look 0 ts = .ptr p 0) (l5 : look 5 ts = .ptr q5 0) (l6 : look 6 ts = .ptr q6 0) (l13 : look 13 ts = .ptr q13 0) (l105 : look 105 ts = .slc .shared (avL l)) (l106 : look 106 ts = .int .i64 l.length) (l107 : look 107 ts = .int .i64 (i : Nat)) :
    ∃ ts', evalC G true cl yl N0 c71b2 ⟨ts, ⟨O, R⟩, []⟩ = some (.normal, ⟨ts', ⟨O1.set q13 (.cells (nc6 op so nn mm nv kv')), R2⟩, []⟩) ∧
      look 0 ts' = .ptr p 0 ∧ look 5 ts' = .ptr q5 0 ∧ look 6 ts' = .ptr q6 0 ∧ look 13 ts' = .ptr q13 0 ∧ look 105 ts' = .slc .shared (avL l) ∧ look 106 ts' = .int .i64 l.length ∧ look 107 ts' = .int .i64 ((i + 1 : Nat) : Int) := by
  unfold big at hb
  obtain ⟨hil, hx'⟩ := List.getElem?_eq_some_iff.1 hx
  have w1 := wrap_succ (i := i) (by omega)
  have g5 := fun X => get_old h5 X
  have g13 := fun X => get_old h13 X
  unfold nc6 at g13 h13' ⊢
  simp -implicitDefEqProofs [c71b2, l0, l5, l6, l13, l105, l106, l107, hil, hx', w1, g5, g13, hcall, h13', happ, hkv, flat]
theorem it71e (l : List Nd) {O : List Obj} {R : List Arr} {ts : Slots} (l106 : look 106 ts = .int .i64 l.length) (l107 : look 107 ts = .int .i64 (l.length : Nat)) :
    evalC G true cl yl N0 c71b2 ⟨ts, ⟨O, R⟩, []⟩ = some (.exit 4, ⟨(108, .bool false) :: ts, ⟨O, R⟩, []⟩) := by
  simp -implicitDefEqProofs [c71b2, l106, l107]
theorem setAt_same' {α : Type} (C : List α) (i : Nat) (x : α) (h : C[i]? = some x) : C.take i ++ x :: C.drop (i + 1) = C := by
  obtain ⟨hlt, hx⟩ := List.getElem?_eq_some_iff.1 h
  rw [← hx, ← List.drop_eq_getElem_cons hlt, List.take_append_drop]
theorem rn_next (a : Option (List (Str × Str))) {ns : List Str} {i : Nat} {x : Str} (hx : ns[i]? = some x) :
    (((ns.take i).map (rn a) ++ ns.drop i).map AV.str).take i ++ .str (rn a x) :: (((ns.take i).map (rn a) ++ ns.drop i).map AV.str).drop (i + 1) = ((ns.take (i + 1)).map (rn a) ++ ns.drop (i + 1)).map AV.str ∧ (((ns.take i).map (rn a) ++ ns.drop i).map AV.str)[i]? = some (.str x) := by
  obtain ⟨hlt, hx'⟩ := List.getElem?_eq_some_iff.1 hx
  have hd : ns.drop i = x :: ns.drop (i + 1) := by rw [List.drop_eq_getElem_cons hlt, hx']
  have hl : (((ns.take i).map (rn a)).map AV.str).length = i := by simp; omega
  have e : ((ns.take i).map (rn a) ++ ns.drop i).map AV.str = ((ns.take i).map (rn a)).map AV.str ++ .str x :: (ns.drop (i + 1)).map AV.str := by rw [hd]; simp
  have e2 : ((ns.take (i + 1)).map (rn a) ++ ns.drop (i + 1)).map AV.str = ((ns.take i).map (rn a)).map AV.str ++ .str (rn a x) :: (ns.drop (i + 1)).map AV.str := by
    rw [List.take_add_one, hx]; simp
  rw [e, e2]
  constructor
  · rw [List.take_left' hl, ← List.drop_drop, List.drop_left' hl]; simp
  · rw [List.getElem?_append_right (by omega), hl]; simp
theorem loop71n (ns : List Str) (a : Option (List (Str × Str))) (v nv : AV) {p q4 q5 q6 q13 lo : Nat} {op so nn mm : Int} {kv : AV} {O : List Obj} {R : List Arr} {ts : Slots} (hb : ns.length < big) (hN : ns.length < N)
    (hv : AsV O v a) (h5 : O[q5]? = some (.cells [v])) (h13 : O[q13]? = some (.cells (nc6 op so nn mm nv kv))) (hnm : NmAt R ns lo R.length nv)
    (l0 : look 0 ts = .ptr p 0) (l4 : look 4 ts = .ptr q4 0) (l5 : look 5 ts = .ptr q5 0) (l6 : look 6 ts = .ptr q6 0) (l13 : look 13 ts = .ptr q13 0) (l84 : look 84 ts = .slc .shared (ns.map .str)) (l85 : look 85 ts = .int .i64 ns.length) (l86 : look 86 ts = .int .i64 0) (k m : Nat) :
    ∃ ts' R', iter true (evalC G true cl yl N c71b1) ⟨[0, 4, 5, 6, 13, 84, 85, 86], [(86, none)], true⟩ k m N ⟨ts, ⟨O, R⟩, []⟩ = some (.exit 2, ⟨ts', ⟨O, R'⟩, []⟩) ∧
      look 0 ts' = .ptr p 0 ∧ look 4 ts' = .ptr q4 0 ∧ look 5 ts' = .ptr q5 0 ∧ look 6 ts' = .ptr q6 0 ∧ look 13 ts' = .ptr q13 0 ∧ R'.length = R.length ∧ NmAt R' (ns.map (rn a)) lo R.length nv ∧ ∀ i, i ≠ lo → R'[i]? = R[i]? := by
  unfold big at hb
  have main := iter_inv (mu := true) (step := evalC G true cl yl N c71b1) (an := ⟨[0, 4, 5, 6, 13, 84, 85, 86], [(86, none)], true⟩) (k := k) (m := m) (N := N) ns (fun _ => (none : Option Unit))
    (fun i s => ∃ ts Ri, s = ⟨ts, ⟨O, Ri⟩, []⟩ ∧ look 0 ts = .ptr p 0 ∧ look 4 ts = .ptr q4 0 ∧ look 5 ts = .ptr q5 0 ∧ look 6 ts = .ptr q6 0 ∧ look 13 ts = .ptr q13 0 ∧ look 84 ts = .slc .shared (ns.map .str) ∧ look 85 ts = .int .i64 ns.length ∧ look 86 ts = .int .i64 (i : Nat) ∧
      Ri.length = R.length ∧ NmAt Ri ((ns.take i).map (rn a) ++ ns.drop i) lo R.length nv ∧ ∀ i, i ≠ lo → Ri[i]? = R[i]?)
    (fun r e s => e = .exit 2 ∧ ∃ ts Ri, s = ⟨ts, ⟨O, Ri⟩, []⟩ ∧ look 0 ts = .ptr p 0 ∧ look 4 ts = .ptr q4 0 ∧ look 5 ts = .ptr q5 0 ∧ look 6 ts = .ptr q6 0 ∧ look 13 ts = .ptr q13 0 ∧ Ri.length = R.length ∧ NmAt Ri (ns.map (rn a)) lo R.length nv ∧ ∀ i, i ≠ lo → Ri[i]? = R[i]?)
    (s0 := ⟨ts, ⟨O, R⟩, []⟩) hN ⟨ts, R, rfl, l0, l4, l5, l6, l13, l84, l85, l86, rfl, by simpa using hnm, fun _ _ => rfl⟩ ?_ ?_
  · obtain ⟨e, s', h1, -, rfl, ts', R', rfl, h2⟩ := main
    exact ⟨ts', R', h1, h2⟩
  · rintro i x s hx hi ⟨ts, Ri, rfl, k0, k4, k5, k6, k13, k84, k85, k86, hlen, hnm, hoth⟩
    have hx' := (List.getElem?_eq_some_iff.1 hx).2
    have w1 := wrap_succ (i := i) (by omega)
    obtain ⟨y, b, h1, h2⟩ := rn_lk a x (R := Ri) hv
    obtain ⟨n1, n2⟩ := rn_next a hx
    have hle : i ≤ ns.length := by omega
    have e5 : (nc6 op so nn mm nv kv)[1]? = some nv := rfl
    rcases hnm with ⟨he, -, -⟩ | ⟨hne, hlo, rfl, hrow⟩
    · exfalso
      have := congrArg List.length he
      simp at this
      omega
    · have hll : ((ns.take i).map (rn a) ++ ns.drop i).length = ns.length := by simp; omega
      rw [hll] at h13 e5
      rw [hll]
      have hro : ∀ O, rowOf ⟨O, Ri⟩ lo 0 = some (9, .sc, ((ns.take i).map (rn a) ++ ns.drop i).map AV.str) := fun O => rowOf_eq hrow
      have hlt : lo < Ri.length := (List.getElem?_eq_some_iff.1 hrow).1
      have hll2 : ((ns.take (i + 1)).map (rn a) ++ ns.drop (i + 1)).length = ns.length := by simp; omega
      generalize hC : ((ns.take i).map (rn a) ++ ns.drop i).map AV.str = C at hro n1 n2 hrow
      have hCl : C.length = ns.length := by rw [← hC, List.length_map, hll]
      have hi1 : i + 1 ≤ C.length := by omega
      have hii : (i : Int) < (ns.length : Int) := by omega
      unfold nc6 at h13
      cases b with
      | true =>
        simp only [if_true] at h2
        have fin : NmAt (Ri.set lo (.wr 0 9 .sc (C.take i ++ .str y :: C.drop (i + 1)))) ((ns.take (i + 1)).map (rn a) ++ ns.drop (i + 1)) lo R.length (.osl lo 0 0 ns.length) := by
          refine .inr ⟨fun e => ?_, hlo, by rw [hll2], ?_⟩
          · rw [e] at hll2; simp at hll2; omega
          · rw [← h2, n1, List.getElem?_set_self hlt]
        have oth : ∀ j, j ≠ lo → (Ri.set lo (.wr 0 9 .sc (C.take i ++ .str y :: C.drop (i + 1))))[j]? = R[j]? := fun j hj => by
          rw [List.getElem?_set_ne (by omega)]; exact hoth j hj
        simp -implicitDefEqProofs [c71b1, k0, k4, k5, k6, k13, k84, k85, k86, hi, hx', w1, h5, h1, keyK, h13, hro, hii, hi1, hlen]
        refine ⟨_, _, ⟨rfl, rfl⟩, by simpa using k0, by simpa using k4, by simpa using k5, by simpa using k6, by simpa using k13, by simpa using k84, by simpa using k85, by simp, by simpa using hlen, ?_, oth⟩
        simpa using fin
      | false =>
        simp only [Bool.false_eq_true, if_false] at h2
        have fin : NmAt Ri ((ns.take (i + 1)).map (rn a) ++ ns.drop (i + 1)) lo R.length (.osl lo 0 0 ns.length) := by
          have e : ((ns.take (i + 1)).map (rn a) ++ ns.drop (i + 1)).map AV.str = C := by
            rw [← n1, h2, ← hC]
            have := setAt_same' (((ns.take i).map (rn a) ++ ns.drop i).map AV.str) i (.str x) (by rw [hC]; exact n2)
            exact this
          refine .inr ⟨fun e => ?_, hlo, by rw [hll2], ?_⟩
          · rw [e] at hll2; simp at hll2; omega
          · rw [e]; exact hrow
        simp -implicitDefEqProofs [c71b1, k0, k4, k5, k6, k13, k84, k85, k86, hi, hx', w1, h5, h1, keyK, hlen]
        refine ⟨_, _, ⟨rfl, rfl⟩, by simpa using k0, by simpa using k4, by simpa using k5, by simpa using k6, by simpa using k13, by simpa using k84, by simpa using k85, by simp, by simpa using hlen, ?_, hoth⟩
        simpa using fin
  · rintro s ⟨ts, Ri, rfl, k0, k4, k5, k6, k13, k84, k85, k86, hlen, hnm, hoth⟩
    rw [List.take_length, List.drop_length, List.append_nil] at hnm
    simp -implicitDefEqProofs [c71b1, k0, k4, k5, k6, k13, k84, k85, k86, hlen]
    exact ⟨_, _, ⟨rfl, rfl⟩, by simpa using k0, by simpa using k4, by simpa using k5, by simpa using k6, by simpa using k13, hlen, hnm, hoth⟩
end
abbrev wr6 (g : Nat) (cs : List AV) : Arr := .wr g 40 (.ag 6) cs
theorem app0 (O : List Obj) (A : List Arr) (c0 c1 c2 c3 c4 c5 : AV) :
    appM 40 (.ag 6) 80 (.slc .full []) (.osl A.length 0 0 1) ⟨O, A ++ [wr6 0 [c0, c1, c2, c3, c4, c5]]⟩ = some (.osl (A.length + 1) 0 0 1, ⟨O, A ++ [wr6 0 [c0, c1, c2, c3, c4, c5], wr6 0 [c0, c1, c2, c3, c4, c5]]⟩) := by
  have r : rowOf ⟨O, A ++ [wr6 0 [c0, c1, c2, c3, c4, c5]]⟩ A.length 0 = some (40, .ag 6, [c0, c1, c2, c3, c4, c5]) := rowOf_eq (by simp)
  simp [appM, srcOf, r]
theorem app1 (O : List Obj) (A : List Arr) (b : Nat) (c0 c1 c2 c3 c4 c5 d0 d1 d2 d3 d4 d5 : AV) (hb : A[b]? = some (wr6 0 [d0, d1, d2, d3, d4, d5])) :
    appM 40 (.ag 6) 80 (.osl b 0 0 1) (.osl A.length 0 0 1) ⟨O, A ++ [wr6 0 [c0, c1, c2, c3, c4, c5]]⟩ = some (.osl b 1 0 2, ⟨O, (A ++ [wr6 0 [c0, c1, c2, c3, c4, c5]]).set b (wr6 1 [d0, d1, d2, d3, d4, d5, c0, c1, c2, c3, c4, c5])⟩) := by
  have r : rowOf ⟨O, A ++ [wr6 0 [c0, c1, c2, c3, c4, c5]]⟩ A.length 0 = some (40, .ag 6, [c0, c1, c2, c3, c4, c5]) := rowOf_eq (by simp)
  have r2 : rowOf ⟨O, A ++ [wr6 0 [c0, c1, c2, c3, c4, c5]]⟩ b 0 = some (40, .ag 6, [d0, d1, d2, d3, d4, d5]) := rowOf_eq (get_old hb _)
  simp [appM, srcOf, r, r2]
theorem ld_mk0 {op so nn mm : Int} {ns : List Str} {R0 : List Arr} {lo : Nat} {nv : AV} (h : NmAt R0 ns lo R0.length nv) :
    Ld R0 (.mk op ns so nn mm []) lo R0.length (.agg (nc6 op so nn mm nv (.slc .full []))) := by
  simp only [Ld]
  exact ⟨nv, .slc .full [], R0.length, 0, [], rfl, h, Nat.le_refl _, .inl ⟨rfl, rfl⟩, rfl⟩
theorem NmAt.app {R0 X : List Arr} {ns : List Str} {lo m : Nat} {nv : AV} (h : NmAt R0 ns lo m nv) (hm : m ≤ R0.length) : NmAt (R0 ++ X) ns lo m nv :=
  h.frame fun i _ hi => List.getElem?_append_left (by omega)
theorem Ld.app {R0 X : List Arr} {n : Nd} {lo hi : Nat} {v : AV} (h : Ld R0 n lo hi v) (hm : hi ≤ R0.length) : Ld (R0 ++ X) n lo hi v :=
  Ld.frame n (fun i _ hi => List.getElem?_append_left (by omega)) h
theorem NmAt.lo_le {R0 : List Arr} {ns : List Str} {lo m : Nat} {nv : AV} (h : NmAt R0 ns lo m nv) : lo ≤ m := by
  rcases h with ⟨_, _, h⟩ | ⟨_, h, _⟩ <;> omega
theorem ld_mk1 {op so nn mm : Int} {ns : List Str} {R0 Y : List Arr} {lo : Nat} {nv : AV} {a : Nd} {c0 c1 c2 c3 c4 c5 : AV} (T : Arr) (h : NmAt R0 ns lo R0.length nv) (ha : Ld (R0 ++ Y) a R0.length (R0 ++ Y).length (.agg [c0, c1, c2, c3, c4, c5])) :
    Ld (R0 ++ Y ++ [T, wr6 0 [c0, c1, c2, c3, c4, c5]]) (.mk op ns so nn mm [a]) lo (R0 ++ Y ++ [T, wr6 0 [c0, c1, c2, c3, c4, c5]]).length (.agg (nc6 op so nn mm nv (.osl ((R0 ++ Y).length + 1) 0 0 1))) := by
  have hl : (R0 ++ Y ++ [T, wr6 0 [c0, c1, c2, c3, c4, c5]]).length = R0.length + Y.length + 2 := by simp; omega
  have hl2 : (R0 ++ Y).length = R0.length + Y.length := by simp
  have hlo := h.lo_le
  simp only [Ld]
  refine ⟨nv, _, R0.length, (R0 ++ Y).length + 1, [.agg [c0, c1, c2, c3, c4, c5]], rfl, ?_, by omega, .inr ⟨0, rfl, rfl, ?_, by omega, by omega⟩, ?_⟩
  · rw [List.append_assoc]; exact h.app (Nat.le_refl _)
  · exact (get_new (R0 ++ Y) [T, wr6 0 [c0, c1, c2, c3, c4, c5]] 1).trans (by simp [flC, celL])
  · simp only [LdL]
    exact ⟨_, [], R0.length, (R0 ++ Y).length, rfl, Nat.le_refl _, by omega, by omega, .inr (by omega), ha.app (Nat.le_refl _), rfl⟩
theorem ld_mk2 {op so nn mm : Int} {ns : List Str} {R0 Y Y2 : List Arr} {lo : Nat} {nv : AV} {a b : Nd} {c0 c1 c2 c3 c4 c5 d0 d1 d2 d3 d4 d5 : AV} (T W T2 : Arr) (h : NmAt R0 ns lo R0.length nv) (ha : Ld (R0 ++ Y) a R0.length (R0 ++ Y).length (.agg [c0, c1, c2, c3, c4, c5]))
    (hb : Ld (R0 ++ Y ++ [T, W] ++ Y2) b (R0 ++ Y ++ [T, W]).length (R0 ++ Y ++ [T, W] ++ Y2).length (.agg [d0, d1, d2, d3, d4, d5])) :
    Ld (R0 ++ Y ++ [T, wr6 1 [c0, c1, c2, c3, c4, c5, d0, d1, d2, d3, d4, d5]] ++ Y2 ++ [T2]) (.mk op ns so nn mm [a, b]) lo (R0 ++ Y ++ [T, wr6 1 [c0, c1, c2, c3, c4, c5, d0, d1, d2, d3, d4, d5]] ++ Y2 ++ [T2]).length (.agg (nc6 op so nn mm nv (.osl ((R0 ++ Y).length + 1) 1 0 2))) := by
  generalize hW : wr6 1 [c0, c1, c2, c3, c4, c5, d0, d1, d2, d3, d4, d5] = W'
  have hl : (R0 ++ Y ++ [T, W'] ++ Y2 ++ [T2]).length = R0.length + Y.length + 2 + Y2.length + 1 := by simp; omega
  have hl2 : (R0 ++ Y).length = R0.length + Y.length := by simp
  have hl3 : (R0 ++ Y ++ [T, W]).length = R0.length + Y.length + 2 := by simp; omega
  have hl3' : (R0 ++ Y ++ [T, W']).length = R0.length + Y.length + 2 := by simp; omega
  have hl4 : (R0 ++ Y ++ [T, W] ++ Y2).length = R0.length + Y.length + 2 + Y2.length := by rw [List.length_append, hl3]
  have hlo := h.lo_le
  rw [hl3, hl4] at hb
  simp only [Ld]
  refine ⟨nv, _, R0.length, (R0 ++ Y).length + 1, [.agg [c0, c1, c2, c3, c4, c5], .agg [d0, d1, d2, d3, d4, d5]], rfl, ?_, by omega, .inr ⟨1, rfl, rfl, ?_, by omega, by omega⟩, ?_⟩
  · simp only [List.append_assoc]; exact h.app (Nat.le_refl _)
  · rw [List.append_assoc (R0 ++ Y ++ [T, W']), List.append_assoc (R0 ++ Y)]
    exact (get_new (R0 ++ Y) ([T, W'] ++ (Y2 ++ [T2])) 1).trans (by simp [flC, celL, ← hW])
  · simp only [LdL]
    refine ⟨_, _, R0.length, (R0 ++ Y).length, rfl, Nat.le_refl _, by omega, by omega, .inr (by omega), ?_, _, [], R0.length + Y.length + 2, R0.length + Y.length + 2 + Y2.length, rfl, by omega, by omega, by omega, .inl (by omega), ?_, rfl⟩
    · rw [List.append_assoc, List.append_assoc]; exact ha.app (Nat.le_refl _)
    · refine Ld.frame b (fun i h1 h2 => ?_) hb
      have r1 := List.getElem?_append_right (l₁ := R0 ++ Y ++ [T, W]) (l₂ := Y2) (i := i) (by omega)
      have r2 := List.getElem?_append_right (l₁ := R0 ++ Y ++ [T, W']) (l₂ := Y2 ++ [T2]) (i := i) (by omega)
      rw [List.append_assoc, r2, r1, hl3, hl3', List.getElem?_append_left (by omega)]
section
variable {G : Nat → Option AV} {cl : Caller} {yl : Nat → List AV → Mem → Option (AV × Mem)} {N : Nat}
theorem evE71 (op so nn mm : Int) (nv kv : AV) {q6 q13 : Nat} {z : List AV} {O : List Obj} {R : List Arr} {ts : Slots} (h13 : O[q13]? = some (.cells (nc6 op so nn mm nv kv))) (h6 : O[q6]? = some (.cells z)) (hz : z.length = 6)
    (l6 : look 6 ts = .ptr q6 0) (l13 : look 13 ts = .ptr q13 0) : ∃ ts', evalC G true cl yl N c71t8 ⟨ts, ⟨O, R⟩, []⟩ = some (.ret, ⟨ts', ⟨O.set q6 (.cells (nc6 op so nn mm nv kv)), R⟩, []⟩) ∧ look 6 ts' = .ptr q6 0 := by
  have hd : z.drop 6 = [] := List.drop_eq_nil_of_le (by omega)
  unfold nc6 at h13 ⊢
  simp -implicitDefEqProofs [c71t8, l6, l13, h13, h6, hz, hd]
theorem evD0 (n : Nd) (hn : n.l = []) (op so nn mm : Int) (nv kv : AV) {q4 q6 q13 : Nat} {z : List AV} {O : List Obj} {R : List Arr} {ts : Slots} (hN : 3 ≤ N) (h4 : O[q4]? = some (.cells (ndc n))) (h13 : O[q13]? = some (.cells (nc6 op so nn mm nv kv))) (h6 : O[q6]? = some (.cells z)) (hz : z.length = 6)
    (l4 : look 4 ts = .ptr q4 0) (l6 : look 6 ts = .ptr q6 0) (l13 : look 13 ts = .ptr q13 0) :
    ∃ ts', evalC G true cl yl N c71t7 ⟨ts, ⟨O, R⟩, []⟩ = some (.ret, ⟨ts', ⟨O.set q6 (.cells (nc6 op so nn mm nv kv)), R⟩, []⟩) ∧ look 6 ts' = .ptr q6 0 := by
  obtain ⟨N, rfl⟩ : ∃ m, N = m + 3 := ⟨N - 3, by omega⟩
  obtain ⟨ts', e1, e2⟩ := evE71 (G := G) (cl := cl) (yl := yl) (N := N + 3) op so nn mm nv kv (R := R) (ts := (108, .bool false) :: (107, .int .i64 0) :: (106, .int .i64 0) :: (105, .slc .shared []) :: (104, .ptr q4 5) :: ts) h13 h6 hz (by simpa using l6) (by simpa using l13)
  have e0 : avL [] = [] := rfl
  refine ⟨ts', ?_, e2⟩
  unfold c71t8 at e1
  simp -implicitDefEqProofs at e1
  simp -implicitDefEqProofs [c71t7, c71b2, iter, l4, h4, hn, e0]
  exact e1
theorem evD1 (n a : Nd) (hn : n.l = [a]) (op so nn mm : Int) (nv : AV) {p q4 q5 q6 q13 : Nat} {v : AV} {z : List AV} {O O1 : List Obj} {R R1 : List Arr} {c0 c1 c2 c3 c4 c5 : AV} {ts : Slots} (hN : 3 ≤ N) (hne : q6 ≠ q13) (h4 : O[q4]? = some (.cells (ndc n))) (h5 : O[q5]? = some (.cells [v])) (h13 : O[q13]? = some (.cells (nc6 op so nn mm nv (.slc .full []))))
    (hcall : cl 71 [.ptr p 0, av a, v] ⟨O ++ [.cells (ndc a)], R⟩ = some (.agg [c0, c1, c2, c3, c4, c5], ⟨O1, R1⟩)) (h13' : O1[q13]? = some (.cells (nc6 op so nn mm nv (.slc .full [])))) (h6 : O1[q6]? = some (.cells z)) (hz : z.length = 6)
    (l0 : look 0 ts = .ptr p 0) (l4 : look 4 ts = .ptr q4 0) (l5 : look 5 ts = .ptr q5 0) (l6 : look 6 ts = .ptr q6 0) (l13 : look 13 ts = .ptr q13 0) :
    ∃ ts', evalC G true cl yl N c71t7 ⟨ts, ⟨O, R⟩, []⟩ = some (.ret, ⟨ts', ⟨(O1.set q13 (.cells (nc6 op so nn mm nv (.osl (R1.length + 1) 0 0 1)))).set q6 (.cells (nc6 op so nn mm nv (.osl (R1.length + 1) 0 0 1))), R1 ++ [wr6 0 [c0, c1, c2, c3, c4, c5], wr6 0 [c0, c1, c2, c3, c4, c5]]⟩, []⟩) ∧ look 6 ts' = .ptr q6 0 := by
  obtain ⟨N, rfl⟩ : ∃ m, N = m + 3 := ⟨N - 3, by omega⟩
  have hlt := (List.getElem?_eq_some_iff.1 h13').1
  obtain ⟨ts1, e1, k0, k5, k6, k13, k105, k106, k107⟩ := it71 (G := G) (yl := yl) (N0 := N + 3) [a] a op so nn mm nv (.slc .full []) (.osl (R1.length + 1) 0 0 1) (i := 0) rfl (by simp; decide) h5 h13 rfl hcall h13' (app0 O1 R1 c0 c1 c2 c3 c4 c5)
    (ts := (107, .int .i64 0) :: (106, .int .i64 1) :: (105, .slc .shared (avL [a])) :: (104, .ptr q4 5) :: ts) (by simpa using l0) (by simpa using l5) (by simpa using l6) (by simpa using l13) rfl rfl rfl
  have e2 := it71e (G := G) (cl := cl) (yl := yl) (N0 := N + 3) [a] (O := O1.set q13 (.cells (nc6 op so nn mm nv (.osl (R1.length + 1) 0 0 1)))) (R := R1 ++ [wr6 0 [c0, c1, c2, c3, c4, c5], wr6 0 [c0, c1, c2, c3, c4, c5]]) k106 k107
  obtain ⟨ts', e3, e4⟩ := evE71 (G := G) (cl := cl) (yl := yl) (N := N + 3) op so nn mm nv (.osl (R1.length + 1) 0 0 1) (q6 := q6) (q13 := q13) (O := O1.set q13 (.cells (nc6 op so nn mm nv (.osl (R1.length + 1) 0 0 1)))) (R := R1 ++ [wr6 0 [c0, c1, c2, c3, c4, c5], wr6 0 [c0, c1, c2, c3, c4, c5]]) (ts := (108, .bool false) :: ts1) (List.getElem?_set_self hlt) (by rw [List.getElem?_set_ne (by omega)]; exact h6) hz (by simpa using k6) (by simpa using k13)
  refine ⟨ts', ?_, e4⟩
  have ea : avL [a] = [av a] := rfl
  have ei : ∀ k m, iter true (evalC G true cl yl (N + 3) c71b2) ⟨[0, 5, 6, 13, 105, 106, 107], [(13, some 5), (107, none)], true⟩ k m (N + 3) ⟨(107, .int .i64 0) :: (106, .int .i64 1) :: (105, .slc .shared (avL [a])) :: (104, .ptr q4 5) :: ts, ⟨O, R⟩, []⟩ = some (.exit 4, ⟨(108, .bool false) :: ts1, ⟨O1.set q13 (.cells (nc6 op so nn mm nv (.osl (R1.length + 1) 0 0 1))), R1 ++ [wr6 0 [c0, c1, c2, c3, c4, c5], wr6 0 [c0, c1, c2, c3, c4, c5]]⟩, []⟩) := fun k m => by
    rw [iter_t_succ e1]
    exact iter_t_stop e2 (by simp)
  rw [ea] at ei
  unfold c71t8 at e3
  simp -implicitDefEqProofs at e3
  simp -implicitDefEqProofs [c71t7, l4, h4, hn, ea, ei]
  exact e3
theorem evD2 (n a b : Nd) (hn : n.l = [a, b]) (op so nn mm : Int) (nv : AV) {p q4 q5 q6 q13 : Nat} {v : AV} {z : List AV} {O O1 O2 : List Obj} {R R1 R2 : List Arr} {c0 c1 c2 c3 c4 c5 d0 d1 d2 d3 d4 d5 : AV} {ts : Slots} (hN : 3 ≤ N) (hne : q6 ≠ q13) (hne5 : q5 ≠ q13) (h4 : O[q4]? = some (.cells (ndc n))) (h5 : O[q5]? = some (.cells [v])) (h13 : O[q13]? = some (.cells (nc6 op so nn mm nv (.slc .full []))))
    (hcall : cl 71 [.ptr p 0, av a, v] ⟨O ++ [.cells (ndc a)], R⟩ = some (.agg [c0, c1, c2, c3, c4, c5], ⟨O1, R1⟩)) (h13' : O1[q13]? = some (.cells (nc6 op so nn mm nv (.slc .full [])))) (h5' : O1[q5]? = some (.cells [v]))
    (hcall2 : cl 71 [.ptr p 0, av b, v] ⟨O1.set q13 (.cells (nc6 op so nn mm nv (.osl (R1.length + 1) 0 0 1))) ++ [.cells (ndc b)], R1 ++ [wr6 0 [c0, c1, c2, c3, c4, c5], wr6 0 [c0, c1, c2, c3, c4, c5]]⟩ = some (.agg [d0, d1, d2, d3, d4, d5], ⟨O2, R2⟩))
    (h13'' : O2[q13]? = some (.cells (nc6 op so nn mm nv (.osl (R1.length + 1) 0 0 1)))) (hrow : R2[R1.length + 1]? = some (wr6 0 [c0, c1, c2, c3, c4, c5])) (h6 : O2[q6]? = some (.cells z)) (hz : z.length = 6)
    (l0 : look 0 ts = .ptr p 0) (l4 : look 4 ts = .ptr q4 0) (l5 : look 5 ts = .ptr q5 0) (l6 : look 6 ts = .ptr q6 0) (l13 : look 13 ts = .ptr q13 0) :
    ∃ ts', evalC G true cl yl N c71t7 ⟨ts, ⟨O, R⟩, []⟩ = some (.ret, ⟨ts', ⟨(O2.set q13 (.cells (nc6 op so nn mm nv (.osl (R1.length + 1) 1 0 2)))).set q6 (.cells (nc6 op so nn mm nv (.osl (R1.length + 1) 1 0 2))), (R2 ++ [wr6 0 [d0, d1, d2, d3, d4, d5]]).set (R1.length + 1) (wr6 1 [c0, c1, c2, c3, c4, c5, d0, d1, d2, d3, d4, d5])⟩, []⟩) ∧ look 6 ts' = .ptr q6 0 := by
  obtain ⟨N, rfl⟩ : ∃ m, N = m + 3 := ⟨N - 3, by omega⟩
  have hlt' := (List.getElem?_eq_some_iff.1 h13').1
  have hlt := (List.getElem?_eq_some_iff.1 h13'').1
  obtain ⟨ts1, e1, k0, k5, k6, k13, k105, k106, k107⟩ := it71 (G := G) (yl := yl) (N0 := N + 3) [a, b] a op so nn mm nv (.slc .full []) (.osl (R1.length + 1) 0 0 1) (i := 0) rfl (by simp; decide) h5 h13 rfl hcall h13' (app0 O1 R1 c0 c1 c2 c3 c4 c5)
    (ts := (107, .int .i64 0) :: (106, .int .i64 2) :: (105, .slc .shared (avL [a, b])) :: (104, .ptr q4 5) :: ts) (by simpa using l0) (by simpa using l5) (by simpa using l6) (by simpa using l13) rfl rfl rfl
  obtain ⟨ts2, e2, m0, m5, m6, m13, m105, m106, m107⟩ := it71 (G := G) (yl := yl) (N0 := N + 3) [a, b] b op so nn mm nv (.osl (R1.length + 1) 0 0 1) (.osl (R1.length + 1) 1 0 2) (i := 1) (q5 := q5) (q13 := q13) rfl (by simp; decide) (O := O1.set q13 (.cells (nc6 op so nn mm nv (.osl (R1.length + 1) 0 0 1)))) (by rw [List.getElem?_set_ne (by omega)]; exact h5') (List.getElem?_set_self hlt') rfl hcall2 h13'' (app1 O2 R2 (R1.length + 1) d0 d1 d2 d3 d4 d5 c0 c1 c2 c3 c4 c5 hrow) k0 k5 k6 k13 k105 k106 k107
  generalize (R2 ++ [wr6 0 [d0, d1, d2, d3, d4, d5]]).set (R1.length + 1) (wr6 1 [c0, c1, c2, c3, c4, c5, d0, d1, d2, d3, d4, d5]) = RF at e2 ⊢
  have e3 := it71e (G := G) (cl := cl) (yl := yl) (N0 := N + 3) [a, b] (O := O2.set q13 (.cells (nc6 op so nn mm nv (.osl (R1.length + 1) 1 0 2)))) (R := RF) m106 m107
  obtain ⟨ts', e4, e5⟩ := evE71 (G := G) (cl := cl) (yl := yl) (N := N + 3) op so nn mm nv (.osl (R1.length + 1) 1 0 2) (q6 := q6) (q13 := q13) (O := O2.set q13 (.cells (nc6 op so nn mm nv (.osl (R1.length + 1) 1 0 2)))) (R := RF) (ts := (108, .bool false) :: ts2) (List.getElem?_set_self hlt) (by rw [List.getElem?_set_ne (by omega)]; exact h6) hz (by simpa using m6) (by simpa using m13)
  refine ⟨ts', ?_, e5⟩
  have ea : avL [a, b] = [av a, av b] := rfl
  have ei : ∀ k m, iter true (evalC G true cl yl (N + 3) c71b2) ⟨[0, 5, 6, 13, 105, 106, 107], [(13, some 5), (107, none)], true⟩ k m (N + 3) ⟨(107, .int .i64 0) :: (106, .int .i64 2) :: (105, .slc .shared (avL [a, b])) :: (104, .ptr q4 5) :: ts, ⟨O, R⟩, []⟩ = some (.exit 4, ⟨(108, .bool false) :: ts2, ⟨O2.set q13 (.cells (nc6 op so nn mm nv (.osl (R1.length + 1) 1 0 2))), RF⟩, []⟩) := fun k m => by
    rw [iter_t_succ e1, iter_t_succ e2]
    exact iter_t_stop e3 (by simp)
  rw [ea] at ei
  unfold c71t8 at e4
  simp -implicitDefEqProofs at e4
  simp -implicitDefEqProofs [c71t7, l4, h4, hn, ea, ei]
  exact e4
end
end Go.Proofs.Ae
