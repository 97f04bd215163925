/- Further functions: what they answer, and what that means. -/
import Derived.Test.YtjkmcceipabejaaGreatDoorN
set_option linter.unusedSimpArgs false
set_option linter.unusedVariables false
set_option linter.unusedSectionVars false
namespace Go.Proofs.Ae
open Go Go.RowKit
section
variable {G : Nat → Option AV} {cl : Caller} {yl : Nat → List AV → Mem → Option (AV × Mem)} {N : Nat}
theorem ev130 (a b : List Str) (ha : a.length < big) (hN : a.length < N) : pureA G false cl yl N c130 [.slc .shared (a.map .str), .slc .shared (b.map .str)] = some (.bool (a == b), none) := by
  unfold big at ha
  by_cases hl : a.length = b.length
  · have k : ((a.length : Int) != (b.length : Int)) = false := by simp; omega
    have hz : (a.zip b).length = a.length := by simp [hl]
    have l1 := iter_find (mu := false) (step := evalC G false cl yl N c130b0) (an := ⟨[0, 1, 12, 13], [(13, none)], false⟩) (k := 0) (m := 0) (N := N) (a.zip b) (fun p => if p.1 == p.2 then none else some ())
      (fun i => ⟨[(0, .slc .shared (a.map .str)), (1, .slc .shared (b.map .str)), (12, .int .i64 a.length), (13, .int .i64 (i : Int))], ⟨[], []⟩, []⟩) (fun _ e s' => e = .ret ∧ look 4 s'.ts = .bool false ∧ s'.mks = []) (.exit 0)
      ⟨[(14, .bool false), (0, .slc .shared (a.map .str)), (1, .slc .shared (b.map .str)), (12, .int .i64 a.length), (13, .int .i64 a.length)], ⟨[], []⟩, []⟩ (by rw [hz]; omega) (by simp) ?_ ?_
    · rw [strs_zip _ _ hl]
      cases hf : (a.zip b).findSome? (fun p => if p.1 == p.2 then none else some ()) with
      | none =>
        rw [hf] at l1
        simp at l1
        simp -implicitDefEqProofs [c130, k, l1]
      | some r =>
        rw [hf] at l1
        obtain ⟨e, s', q1, -, rfl, q2, q3⟩ := l1
        simp at q1
        simp -implicitDefEqProofs [c130, k, q1, q2, q3]
    · intro i p hp hi
      obtain ⟨x, y⟩ := p
      obtain ⟨p1, p2⟩ := zip_get hp
      rw [hz] at hi
      have hib : i < b.length := by omega
      have w1 := wrap_succ (i := i) (by omega)
      have hx' := (List.getElem?_eq_some_iff.1 p1).2
      have hy' := (List.getElem?_eq_some_iff.1 p2).2
      simp only at hx' hy'
      cases hs : x == y <;> simp -implicitDefEqProofs [c130b0, strA, hi, hib, hx', hy', hs, w1]
    · rw [hz]; simp -implicitDefEqProofs [c130b0]
  · have k : ((a.length : Int) != (b.length : Int)) = true := by simp; omega
    have : (a == b) = false := by
      cases h : a == b with
      | false => rfl
      | true => exact absurd (by rw [eq_of_beq h]) hl
    simp -implicitDefEqProofs [c130, k, this]
theorem ev131 (a b : List Nd) (ha : a.length < big) (hN : a.length < N) (hc : ∀ x ∈ a, ∀ y ∈ b, ∀ M, cl 77 [av x, av y] M = some (.bool (sameN x y), M)) :
    pureA G false cl yl N c131 [.slc .shared (avL a), .slc .shared (avL b), .fn 77 [] []] = some (.bool (sameL a b), none) := by
  unfold big at ha
  by_cases hl : a.length = b.length
  · have k : ((a.length : Int) != (b.length : Int)) = false := by simp; omega
    have hz : (a.zip b).length = a.length := by simp [hl]
    have l1 := iter_find (mu := false) (step := evalC G false cl yl N c131b0) (an := ⟨[1, 2, 15, 16, 17], [(17, none)], false⟩) (k := 0) (m := 0) (N := N) (a.zip b) (fun p => if sameN p.1 p.2 then none else some ())
      (fun i => ⟨[(1, .slc .shared (avL b)), (2, .fn 77 [] []), (15, .slc .shared (avL a)), (16, .int .i64 a.length), (17, .int .i64 (i : Int))], ⟨[], []⟩, []⟩) (fun _ e s' => e = .ret ∧ look 6 s'.ts = .bool false ∧ s'.mks = []) (.exit 0)
      ⟨[(18, .bool false), (1, .slc .shared (avL b)), (2, .fn 77 [] []), (15, .slc .shared (avL a)), (16, .int .i64 a.length), (17, .int .i64 a.length)], ⟨[], []⟩, []⟩ (by rw [hz]; omega) (by simp) ?_ ?_
    · rw [sameL_zip _ _ hl]
      cases hf : (a.zip b).findSome? (fun p => if sameN p.1 p.2 then none else some ()) with
      | none =>
        rw [hf] at l1
        simp at l1
        simp -implicitDefEqProofs [c131, k, l1]
      | some r =>
        rw [hf] at l1
        obtain ⟨e, s', q1, -, rfl, q2, q3⟩ := l1
        simp at q1
        simp -implicitDefEqProofs [c131, k, q1, q2, q3]
    · intro i p hp hi
      obtain ⟨x, y⟩ := p
      obtain ⟨p1, p2⟩ := zip_get hp
      rw [hz] at hi
      have hib : i < b.length := by omega
      have w1 := wrap_succ (i := i) (by omega)
      have hc' := hc x (mem_of_get p1) y (mem_of_get p2)
      have hx' := (List.getElem?_eq_some_iff.1 p1).2
      have hy' := (List.getElem?_eq_some_iff.1 p2).2
      simp only at hx' hy'
      cases hs : sameN x y <;> simp -implicitDefEqProofs [c131b0, hi, hib, hx', hy', hc', hs, w1]
    · rw [hz]; simp -implicitDefEqProofs [c131b0]
  · have k : ((a.length : Int) != (b.length : Int)) = true := by simp; omega
    have : sameL a b = false := by
      cases h : sameL a b with
      | false => rfl
      | true => exact absurd (by rw [(sameL_iff _ _).1 h]) hl
    simp -implicitDefEqProofs [c131, k, this]
theorem ev77 (a b : Nd) (h56 : ∀ M, cl 130 [.slc .shared (a.ns.map .str), .slc .shared (b.ns.map .str)] M = some (.bool (a.ns == b.ns), M))
    (h57 : ∀ M, cl 131 [.slc .shared (avL a.l), .slc .shared (avL b.l), .fn 77 [] []] M = some (.bool (sameL a.l b.l), M)) :
    pureA G false cl yl N c77 [av a, av b] = some (.bool (sameN a b), none) := by
  rw [sameN_eq]
  cases h1 : (a.op == b.op) with
  | false => simp -implicitDefEqProofs [c77, h1]
  | true =>
    cases h2 : (a.so == b.so) with
    | false => simp -implicitDefEqProofs [c77, h1, h2]
    | true =>
      cases h3 : (a.nn == b.nn) with
      | false => simp -implicitDefEqProofs [c77, h1, h2, h3]
      | true =>
        cases h4 : (a.mm == b.mm) with
        | false => simp -implicitDefEqProofs [c77, h1, h2, h3, h4]
        | true =>
          cases h5 : (a.ns == b.ns) with
          | false =>
            rw [h5] at h56
            simp -implicitDefEqProofs [c77, h1, h2, h3, h4, h56]
          | true =>
            rw [h5] at h56
            simp -implicitDefEqProofs [c77, h1, h2, h3, h4, h56, h57]
def nfl (b : Bool) : Sp := if b then .full else .shared
theorem any_contains (s : Str) : ∀ l : List Str, l.contains s = !(l.all fun x => !(s == x))
  | [] => rfl
  | x :: l => by simp only [List.contains_cons, List.all_cons, any_contains s l]; cases s == x <;> simp
end
section
variable {P : Program} {G : Nat → Option AV}
theorem repL_plain {U U' : Nat → Nat} {w w' : World} {bs : List (Option Nat)} {rs : List BA} : ∀ {cs : List AV} {vs : List Value}, plainL cs = true → RepL U w bs rs cs vs → RepL U' w' [] [] cs vs
  | [], _, _, .nil => .nil
  | x :: cs, _, hp, .cons h h1 t => by
    cases x with
    | int k n => cases h; exact .cons .int h1 (repL_plain (by simpa [plainL] using hp) t)
    | bool b => cases h; exact .cons .bool h1 (repL_plain (by simpa [plainL] using hp) t)
    | str s => cases h; exact .cons .str h1 (repL_plain (by simpa [plainL] using hp) t)
    | undef => simp [plainL] at hp
    | ptr => simp [plainL] at hp
    | nilp => simp [plainL] at hp
    | eptr => simp [plainL] at hp
    | slc => simp [plainL] at hp
    | osl => simp [plainL] at hp
    | apt => simp [plainL] at hp
    | map => simp [plainL] at hp
    | nilm => simp [plainL] at hp
    | fn => simp [plainL] at hp
    | yld => simp [plainL] at hp
    | iface => simp [plainL] at hp
    | nili => simp [plainL] at hp
    | agg => simp [plainL] at hp
    | tup => simp [plainL] at hp
def atRow (f0 : Nat) (orc : List AV → Ores) (cl : Caller) : Caller := fun f ags M => match Nat.beq f f0 with
  | true => match ags with
    | [.osl a g off n] => match deep M 4000 (.osl a g off n) with
      | some (.slc .shared es) => match flat es with
        | some cs => match plainL cs with
          | true => match orc [.slc .shared es] with
            | some (.slc .shared es', some (.app k ty sz)) => match eqAL es' es with
              | true => if k = es.length ∧ 0 < k then takeV false (.slc .shared es, some (.app k ty sz)) M else none
              | false => none
            | _ => none
          | false => none
        | none => none
      | _ => none
    | ags => cl f ags M
  | false => cl f ags M
theorem atRow_ok {f0 : Nat} {orc : List AV → Ores} {cl : Caller} (ho : ∀ ags r, orc ags = some r → OrcAt P G f0 ags r) (hc : CallerOK P G cl) : CallerOK P G (atRow f0 orc cl) := by
  intro f ags M v M' h base U bs es w args hG hV hH
  unfold atRow at h
  split at h
  · rename_i hb
    have := Nat.eq_of_beq_eq_true hb
    subst this
    split at h
    · rename_i a g off n
      split at h
      · rename_i els hd
        split at h
        · rename_i cs hf
          split at h
          · rename_i hp
            split at h
            · rename_i es' k ty sz ho'
              split at h
              · rename_i he
                have := eqAL_eq he
                subst this
                split at h
                · rename_i hk
                  obtain ⟨hk, hk0⟩ := hk
                  cases hV with
                  | cons hx ht =>
                    cases ht
                    have hx' := (deep_ok hH 4000).1 _ _ _ hx hd
                    have hG' : GRel (frz U es M.arrs) w G := by
                      intro g v hg
                      obtain ⟨c, vs, k1, k2, k3, k4⟩ := hG g v hg
                      exact ⟨c, vs, k1, k2.mono (frz_up hH) (fun _ _ => rfl) (BsLe.refl _).weak (AsLe.refl _), k3.mono (frz_up hH) (fun _ _ => rfl), k4⟩
                    obtain ⟨q1, q2⟩ := ho _ _ ho' (frz U es M.arrs) [] [] w _ hG' (.cons hx' .nil) (fun b hb => (frz_other hH (.inr hb)).trans (hH.fr b hb))
                    refine ⟨q1, Calls.mono q2 ?_⟩
                    rintro e w' ⟨x, U', rfl, hP⟩
                    refine ⟨x, rfl, ?_⟩
                    have hold : ∀ b, b < w.heap.size → (fun b => if b < w.heap.size then U b else U' b) b = U b := fun b hb => by simp only [hb, if_true]
                    have hnew : ∀ b, w.heap.size ≤ b → (fun b => if b < w.heap.size then U b else U' b) b = U' b := fun b hb => by simp only [Nat.not_lt.2 hb, if_false]
                    obtain ⟨e, hr1, hr2, hr3⟩ := hP.row .shared _ k ty sz rfl rfl
                    have hen : e.nil = false ∧ x = e.val 0 k := by
                      rcases hr3 with h | ⟨h, -⟩
                      · exact h
                      · rcases hr1.2 with ⟨-, h0⟩ | ⟨h1, -⟩
                        · omega
                        · rw [h] at h1; cases h1
                    obtain ⟨hn, rfl⟩ := hen
                    have hbk : w.heap.size ≤ e.b := by
                      rcases hr1.2 with ⟨h, -⟩ | ⟨-, h, -⟩
                      · rw [hn] at h; cases h
                      · exact h
                    have hrow : RowNew (fun b => if b < w.heap.size then U b else U' b) w w' e k ty sz es'.length (e.val 0 k) := by
                      refine ⟨⟨hr1.1, ?_⟩, hr2, .inl ⟨hn, rfl⟩⟩
                      rcases hr1.2 with h | ⟨x1, x2, x3, x4, x5, x6, x7, x8, x9⟩
                      · exact .inl h
                      · exact .inr ⟨x1, x2, x3, x4, x5, x6, x7, (hnew _ hbk).trans x8, x9⟩
                    have hrep : Rep (fun b => if b < w.heap.size then U b else U' b) w' [] [] (.slc .shared es') (e.val 0 k) := by
                      have h0 := hP.rep
                      simp only at h0
                      generalize hv : e.val 0 k = val at h0
                      cases h0 with
                      | slcN h => simp at hk; omega
                      | slc hf' hL hR hz hs hcap =>
                        rename_i cs' vs p sz' cap
                        rw [hf] at hf'
                        cases hf'
                        refine .slc hf (repL_plain hp hL) ?_ hz trivial hcap
                        intro i u hi
                        obtain ⟨z1, z2⟩ := hR i u hi
                        refine ⟨z1, ?_⟩
                        have hpb : p.block = e.b := by
                          unfold BA.val at hv
                          rw [hn] at hv
                          simp only [Bool.false_eq_true, if_false, Value.slice.injEq, Option.some.injEq] at hv
                          rw [← hv.1]
                        rw [hpb] at z2 ⊢
                        rw [hnew _ hbk]
                        exact z2
                    have hP' : PGood U w (.slc .shared es', some (.app k ty sz)) (e.val 0 k) (fun b => if b < w.heap.size then U b else U' b) w' := by
                      refine ⟨hP.below, hold, fun b hb => (hnew b (Nat.le_trans hP.below.size hb)).trans (hP.fr b hb), hrep, ?_⟩
                      intro sp es0 n0 ty0 sz0 e1 e2
                      cases e1
                      cases e2
                      exact ⟨e, hrow⟩
                    exact take_false hH hP' h
                · cases h
              · cases h
            · cases h
          · cases h
        · cases h
      · cases h
    · exact hc _ _ _ _ _ h base U bs es w args hG hV hH
  · exact hc _ _ _ _ _ h base U bs es w args hG hV hH
def inPl (G : Nat → Option AV) (mu : Bool) (N f0 : Nat) (cf : CFn) (c1 : Caller) (y1 : Nat → List AV → Mem → Option (AV × Mem)) (cl : Caller) : Caller := fun f ags M => match Nat.beq f f0 with
  | true => callA G mu c1 y1 N cf ags M
  | false => cl f ags M
theorem inPl_ok {mu : Bool} {N f0 : Nat} {cf : CFn} {c1 : Caller} {y1 : Nat → List AV → Mem → Option (AV × Mem)} {cl : Caller} (hm : P.follows .mixedOrders = true) (hk : KIs P) (hf : FnOK P f0 cf) (h1 : CallerOK P G c1) (hy : YielderOK P G y1) (hc : CallerOK P G cl) : CallerOK P G (inPl G mu N f0 cf c1 y1 cl) := by
  intro f ags M v M' h base U bs es w args hG hV hH
  unfold inPl at h
  split at h
  · rename_i hb
    have := Nat.eq_of_beq_eq_true hb
    subst this
    exact call_ok (codes_ok hm hk h1 hy).1 hf h hG hV hH
  · exact hc _ _ _ _ _ h base U bs es w args hG hV hH
def twoC (s : Nat → Bool) (c1 c2 : Caller) : Caller := fun f ags M => match s f with
  | true => c1 f ags M
  | false => c2 f ags M
theorem twoC_ok {s : Nat → Bool} {c1 c2 : Caller} (h1 : CallerOK P G c1) (h2 : CallerOK P G c2) : CallerOK P G (twoC s c1 c2) := by
  intro f ags M v M' h
  unfold twoC at h
  split at h
  · exact h1 _ _ _ _ _ h
  · exact h2 _ _ _ _ _ h
end
def rwV (g : Nat) (ps : List Vr) : Arr := .wr g 74 (.ag 2) (ps.flatMap vrc)
theorem fm_len (ps : List Vr) : (ps.flatMap vrc).length = ps.length * 2 := by
  induction ps with
  | nil => rfl
  | cons v ps ih => simp [List.flatMap_cons, ih, vrc]; omega
theorem fm_at : ∀ {ps : List Vr} {i : Nat} {v : Vr}, ps[i]? = some v → ((ps.flatMap vrc).drop (i * 2)).take 2 = vrc v
  | [], i, v, h => by simp at h
  | u :: ps, 0, v, h => by simp at h; subst h; rfl
  | u :: ps, i + 1, v, h => by
    have e : (i + 1) * 2 = i * 2 + 2 := by omega
    rw [List.flatMap_cons, e]
    have : ((vrc u ++ ps.flatMap vrc).drop (i * 2 + 2)) = (ps.flatMap vrc).drop (i * 2) := by
      rw [Nat.add_comm, ← List.drop_drop]; rfl
    rw [this]
    exact fm_at (by simpa using h)
theorem row_get {R : List Arr} {a g : Nat} {ps : List Vr} (h : R[a]? = some (rwV g ps)) (O : List Obj) : rowOf ⟨O, R⟩ a g = some (74, .ag 2, ps.flatMap vrc) := by
  unfold rowOf; rw [h]; simp [rwV]
theorem sub_at {ps : List Vr} {i : Nat} {v : Vr} (h : ps[i]? = some v) : sub (.ag 2) (i * 2) (ps.flatMap vrc) = some (vrv v) := by
  have hi := (List.getElem?_eq_some_iff.1 h).1
  simp only [sub, fm_len]
  rw [if_pos (by omega), fm_at h]
  rfl
theorem row_at {R : List Arr} {a g i : Nat} {ps : List Vr} {v : Vr} (h : R[a]? = some (rwV g ps)) (hv : ps[i]? = some v) : ∃ cs : List AV, (∀ O, rowOf ⟨O, R⟩ a g = some (74, .ag 2, cs)) ∧ i * 2 + 2 ≤ cs.length ∧ (cs.drop (i * 2)).take 2 = vrc v :=
  ⟨_, row_get h, by have := (List.getElem?_eq_some_iff.1 hv).1; rw [fm_len]; omega, fm_at hv⟩
theorem agg_vrc (v : Vr) : AV.agg (vrc v) = vrv v := rfl
section
variable {G : Nat → Option AV} {cl : Caller} {yl : Nat → List AV → Mem → Option (AV × Mem)} {N : Nat}
theorem loop153o (ps : List Vr) (n : Nat) (hn : n ≤ ps.length) (hn0 : 0 < n) (v : Vr) {O : List Obj} {R : List Arr} {p a g : Nat} (hr : R[a]? = some (rwV g ps)) (hb : ps.length < big) (hN : ps.length < N)
    (h92 : ∀ o X, cl 92 [vrv o, .ptr p 0] ⟨O ++ X, R⟩ = some (.bool (o.nm == v.nm), ⟨O ++ X ++ [.cells (vrc o)], R⟩)) :
    ∃ e s', iter false (evalC G false cl yl N c153b0) ⟨[0, 1, 7, 8], [(8, none)], true⟩ O.length R.length N ⟨[(0, .osl a g 0 n), (1, .fn 92 [] [.ptr p 0]), (7, .int .i64 n), (8, .int .i64 0)], ⟨O, R⟩, []⟩ = some (e, s') ∧ e ≠ .normal ∧
      (s'.mks = [] ∧ (∃ X, s'.m = ⟨O ++ X, R⟩) ∧ match (ps.take n).findSome? (dupG v.nm) with
        | none => e = .exit 0
        | some _ => e = .ret ∧ ∃ j : Nat, look 4 s'.ts = .int .i64 j) := by
  unfold big at hb
  refine iter_inv (mu := false) (step := evalC G false cl yl N c153b0) (an := ⟨[0, 1, 7, 8], [(8, none)], true⟩) (k := O.length) (m := R.length) (N := N) (ps.take n) (dupG v.nm)
    (fun i s => ∃ X, s = ⟨[(0, .osl a g 0 n), (1, .fn 92 [] [.ptr p 0]), (7, .int .i64 n), (8, .int .i64 (i : Int))], ⟨O ++ X, R⟩, []⟩)
    (fun r e s' => s'.mks = [] ∧ (∃ X, s'.m = ⟨O ++ X, R⟩) ∧ match r with
        | none => e = .exit 0
        | some _ => e = .ret ∧ ∃ j : Nat, look 4 s'.ts = .int .i64 j) (by simp; omega) ⟨[], by simp⟩ ?_ ?_
  · rintro i o s hx hi ⟨X, rfl⟩
    have hin : i < n := by simp at hi; omega
    have hx0 : ps[i]? = some o := by rw [List.getElem?_take] at hx; simpa [hin] using hx
    have w1 := wrap_succ (i := i) (by omega)
    have k := h92 o X
    have hs2 := sub_at hx0
    have hrow := row_get hr (O ++ X)
    cases hs : o.nm == v.nm with
    | true =>
      rw [hs] at k
      simp -implicitDefEqProofs at k
      simp -implicitDefEqProofs [dupG, c153b0, hin, hrow, hs2, hs, w1, k, -sub_ag]
      exact ⟨i, rfl⟩
    | false =>
      rw [hs] at k
      simp -implicitDefEqProofs at k
      simp -implicitDefEqProofs [dupG, c153b0, hin, hrow, hs2, hs, w1, k, -sub_ag]
  · rintro s ⟨X, rfl⟩
    have hl : (ps.take n).length = n := by simp; omega
    rw [hl]
    simp -implicitDefEqProofs [c153b0]
theorem ev153o (ps : List Vr) (n : Nat) (hn : n ≤ ps.length) (hn0 : 0 < n) (v : Vr) {O : List Obj} {R : List Arr} {p a g : Nat} (hr : R[a]? = some (rwV g ps)) (hb : ps.length < big) (hN : ps.length < N)
    (h92 : ∀ o X, cl 92 [vrv o, .ptr p 0] ⟨O ++ X, R⟩ = some (.bool (o.nm == v.nm), ⟨O ++ X ++ [.cells (vrc o)], R⟩)) :
    ∃ i : Int, (0 ≤ i ↔ (ps.take n).any (fun o => o.nm == v.nm) = true) ∧ Gr (callA G false cl yl N c153 [.osl a g 0 n, .fn 92 [] [.ptr p 0]] ⟨O, R⟩) (.int .i64 i) O R := by
  obtain ⟨e, ⟨ts, M, mks⟩, h1, h2, rfl, ⟨X, rfl⟩, h3⟩ := loop153o (G := G) (cl := cl) (yl := yl) ps n hn hn0 v hr hb hN h92
  have hrow := row_get hr O
  rw [← dupG_all]
  cases hf : (ps.take n).findSome? (dupG v.nm) with
  | none =>
    rw [hf] at h3
    subst h3
    refine ⟨-1, by simp, X, ?_⟩
    simp -implicitDefEqProofs [c153, hrow, h1]
  | some _ =>
    rw [hf] at h3
    obtain ⟨rfl, j, h3⟩ := h3
    simp at h3
    refine ⟨j, by simp, X, ?_⟩
    simp -implicitDefEqProofs [c153, hrow, h1, h3]
theorem ev91o (P : AV) (b : Bool) {O : List Obj} {R : List Arr} {p : Nat}
    (h153 : ∃ i : Int, (0 ≤ i ↔ b = true) ∧ Gr (cl 153 [P, .fn 92 [] [.ptr p 0]] ⟨O, R⟩) (.int .i64 i) O R) :
    Gr (callA G false cl yl N c91 [P, .fn 92 [] [.ptr p 0]] ⟨O, R⟩) (.bool b) O R := by
  obtain ⟨i, hi, X, hX⟩ := h153
  refine ⟨X, ?_⟩
  cases b with
  | true =>
    have : 0 ≤ i := hi.2 rfl
    simp -implicitDefEqProofs [c91, hX, this]
  | false =>
    have : ¬ 0 ≤ i := fun h => by have := hi.1 h; cases this
    simp -implicitDefEqProofs [c91, hX, this]
def headP (a g i : Nat) : AV := if i = 0 then .slc .shared [] else .osl a g 0 i
theorem loop37o (ps : List Vr) (hne : ps ≠ []) {O : List Obj} {R : List Arr} {a g : Nat} (hr : R[a]? = some (rwV g ps)) (hb : ps.length < big) (hN : ps.length < N) (h36 : ∀ v ∈ ps, ∀ M, cl 36 [.str v.nm] M = some (.bool (isId v.nm), M))
    (h91 : ∀ (i : Nat) (v : Vr) (X : List Obj), i ≤ ps.length → Gr (cl 91 [headP a g i, .fn 92 [] [.ptr (O ++ X).length 0]] ⟨O ++ X ++ [.cells (vrc v)], R⟩) (.bool ((ps.take i).any (fun o => o.nm == v.nm))) (O ++ X ++ [.cells (vrc v)]) R) :
    ∃ e s', iter false (evalC G false cl yl N c37b0) ⟨[0, 8, 9, 10], [(10, none)], true⟩ O.length R.length N ⟨[(0, .osl a g 0 ps.length), (8, .osl a g 0 ps.length), (9, .int .i64 ps.length), (10, .int .i64 0)], ⟨O, R⟩, []⟩ = some (e, s') ∧ e ≠ .normal ∧
      (s'.mks = [] ∧ (∃ X, s'.m = ⟨O ++ X, R⟩) ∧ match (ps.zipIdx 0).findSome? (parG ps) with
        | none => e = .exit 0
        | some r => e = .ret ∧ look 2 s'.ts = .int .i64 r) := by
  unfold big at hb
  have hpl : 0 < ps.length := List.length_pos_iff.2 hne
  refine iter_inv (mu := false) (step := evalC G false cl yl N c37b0) (an := ⟨[0, 8, 9, 10], [(10, none)], true⟩) (k := O.length) (m := R.length) (N := N) (ps.zipIdx 0) (parG ps)
    (fun i st => ∃ X, st = ⟨[(0, .osl a g 0 ps.length), (8, .osl a g 0 ps.length), (9, .int .i64 ps.length), (10, .int .i64 (i : Int))], ⟨O ++ X, R⟩, []⟩)
    (fun r e s' => s'.mks = [] ∧ (∃ X, s'.m = ⟨O ++ X, R⟩) ∧ match r with
        | none => e = .exit 0
        | some r => e = .ret ∧ look 2 s'.ts = .int .i64 r) (by simpa using hN) ⟨[], by simp⟩ ?_ ?_
  · rintro i ⟨v, j⟩ st hx hi ⟨X, rfl⟩
    rw [List.getElem?_zipIdx] at hx
    have hil : i < ps.length := by simpa using hi
    have hx0 : ps[i]? = some ps[i] := List.getElem?_eq_getElem hil
    rw [hx0] at hx
    simp at hx
    obtain ⟨hx', rfl⟩ := hx
    rw [hx'] at hx0
    have k36 := h36 v (by rw [← hx']; exact List.getElem_mem hil)
    obtain ⟨Y, hY⟩ := h91 i v X (by omega)
    have w1 := wrap_succ (i := i) (by omega)
    have hle : i ≤ ps.length := by omega
    have hs2 := sub_at hx0
    have hrow := fun Z => row_get hr (O ++ Z)
    simp -implicitDefEqProofs [vrc] at hY
    cases h1 : isId v.nm with
    | false =>
      rw [h1] at k36
      simp -implicitDefEqProofs [parG, c37b0, hil, hrow, hs2, k36, h1, -sub_ag]
    | true =>
      rw [h1] at k36
      by_cases h2 : v.so < 0
      · simp -implicitDefEqProofs [parG, c37b0, hil, hrow, hs2, k36, h1, h2, -sub_ag]
      · by_cases h3 : 3 < v.so
        · simp -implicitDefEqProofs [parG, c37b0, hil, hrow, hs2, k36, h1, h2, h3, -sub_ag]
        · by_cases hi0 : i = 0
          · subst hi0
            simp -implicitDefEqProofs [headP] at hY
            have w1' : wrapF .i64 1 = 1 := rfl
            simp -implicitDefEqProofs [parG, c37b0, hil, hrow, hs2, k36, h1, h2, h3, hY, hle, hpl, w1, w1', -sub_ag]
          · have hip : 0 < i := by omega
            have hY' := hY
            simp only [headP, hi0, if_false] at hY
            cases h4 : (ps.take i).any (fun o => o.nm == v.nm) with
            | true =>
              rw [h4] at hY
              simp -implicitDefEqProofs [parG, c37b0, hil, hrow, hs2, k36, h1, h2, h3, h4, hY, hle, hip, -sub_ag]
            | false =>
              rw [h4] at hY
              simp -implicitDefEqProofs [parG, c37b0, hil, hrow, hs2, k36, h1, h2, h3, h4, hY, hle, hip, w1, -sub_ag]
  · rintro st ⟨X, rfl⟩
    simp -implicitDefEqProofs [c37b0]
theorem ev37o (ps : List Vr) (hne : ps ≠ []) {O : List Obj} {R : List Arr} {a g : Nat} (hr : R[a]? = some (rwV g ps)) (hb : ps.length < big) (hN : ps.length < N) (h36 : ∀ v ∈ ps, ∀ M, cl 36 [.str v.nm] M = some (.bool (isId v.nm), M))
    (h91 : ∀ (i : Nat) (v : Vr) (X : List Obj), i ≤ ps.length → Gr (cl 91 [headP a g i, .fn 92 [] [.ptr (O ++ X).length 0]] ⟨O ++ X ++ [.cells (vrc v)], R⟩) (.bool ((ps.take i).any (fun o => o.nm == v.nm))) (O ++ X ++ [.cells (vrc v)]) R) :
    Gr (callA G false cl yl N c37 [.osl a g 0 ps.length] ⟨O, R⟩) (.int .i64 (parE ps)) O R := by
  have hrow := row_get hr O
  unfold parE
  by_cases h6 : 6 < ps.length
  · have h6' : (6 : Int) < (ps.length : Int) := by omega
    refine ⟨[], ?_⟩
    simp -implicitDefEqProofs [c37, hrow, h6, h6']
  · have h6' : ¬ (6 : Int) < (ps.length : Int) := by omega
    obtain ⟨e, ⟨ts, M, mks⟩, h1, h2, rfl, ⟨X, rfl⟩, h3⟩ := loop37o (G := G) (cl := cl) (yl := yl) (N := N) ps hne hr hb hN h36 h91
    rw [parG_all ps ps [] rfl]
    simp only [h6, if_false, List.length_nil]
    refine ⟨X, ?_⟩
    cases hf : (ps.zipIdx 0).findSome? (parG ps) with
    | none =>
      rw [hf] at h3
      subst h3
      simp -implicitDefEqProofs [c37, hrow, h6', h1]
    | some r =>
      rw [hf] at h3
      obtain ⟨rfl, h3⟩ := h3
      simp at h3
      simp -implicitDefEqProofs [c37, hrow, h6', h1, h3]
theorem loop40o (ps : List Vr) {O : List Obj} {R : List Arr} {a g : Nat} (hr : R[a]? = some (rwV g ps)) (hb : ps.length < big) (hN : ps.length < N)
    (h97 : ∀ c v X, cells c = some [c] → cl 97 [c, vrv v] ⟨O ++ X, R⟩ = some (.fn 158 [] [.ptr ((O ++ X).length + 1) 0, .ptr (O ++ X).length 0], ⟨O ++ X ++ [.cells [c], .cells (vrc v)], R⟩)) :
    ∃ e s', iter false (evalC G false cl yl N c40b0) ⟨[3, 6, 7, 8], [(3, none), (8, none)], true⟩ O.length R.length N ⟨[(3, .fn 98 [] []), (6, .osl a g 0 ps.length), (7, .int .i64 ps.length), (8, .int .i64 0)], ⟨O, R⟩, []⟩ = some (e, s') ∧ e ≠ .normal ∧
      (e = .exit 0 ∧ s'.mks = [] ∧ ∃ X c, s'.m = ⟨O ++ X, R⟩ ∧ look 3 s'.ts = c ∧ Sc (O ++ X) c ps) := by
  unfold big at hb
  refine (iter_inv (mu := false) (step := evalC G false cl yl N c40b0) (an := ⟨[3, 6, 7, 8], [(3, none), (8, none)], true⟩) (k := O.length) (m := R.length) (N := N) ps (fun _ => (none : Option Unit))
    (fun i st => ∃ X c, st = ⟨[(3, c), (6, .osl a g 0 ps.length), (7, .int .i64 ps.length), (8, .int .i64 (i : Int))], ⟨O ++ X, R⟩, []⟩ ∧ Sc (O ++ X) c (ps.take i))
    (fun r e s' => e = .exit 0 ∧ s'.mks = [] ∧ ∃ X c, s'.m = ⟨O ++ X, R⟩ ∧ look 3 s'.ts = c ∧ Sc (O ++ X) c ps) hN ⟨[], .fn 98 [] [], by simp, .nil⟩ ?_ ?_)
  · rintro i v st hx hi ⟨X, c, rfl, hc⟩
    have k := h97 c v (X ++ [.cells (vrc v)]) hc.cells
    have w1 := wrap_succ (i := i) (by omega)
    have s97 := sc97 (hc.grow [.cells (vrc v)]) v
    obtain ⟨cs, hrow, hc1, hc2⟩ := row_at hr hx
    obtain ⟨f, cap, rfl⟩ := hc.fn
    simp -implicitDefEqProofs [vrc] at k
    rw [take_succ_of hx]
    simp -implicitDefEqProofs [vrc] at s97
    have hv2 : vrc v = [.str v.nm, .int .i64 v.so] := rfl
    rw [hv2] at hc2
    simp -implicitDefEqProofs [c40b0, hi, hrow, hc1, hc2, k, w1]
    exact ⟨_, _, ⟨rfl, rfl⟩, s97⟩
  · rintro st ⟨X, c, rfl, hc⟩
    rw [List.take_length] at hc
    simp -implicitDefEqProofs [c40b0]
    first | exact hc | exact ⟨_, rfl, hc⟩
theorem ev40o (ps : List Vr) {O : List Obj} {R : List Arr} {a g : Nat} (hr : R[a]? = some (rwV g ps)) (hb : ps.length < big) (hN : ps.length < N)
    (h97 : ∀ c v X, cells c = some [c] → cl 97 [c, vrv v] ⟨O ++ X, R⟩ = some (.fn 158 [] [.ptr ((O ++ X).length + 1) 0, .ptr (O ++ X).length 0], ⟨O ++ X ++ [.cells [c], .cells (vrc v)], R⟩)) :
    ∃ c X, callA G false cl yl N c40 [.osl a g 0 ps.length] ⟨O, R⟩ = some (c, ⟨O ++ X, R⟩) ∧ Sc (O ++ X) c ps := by
  obtain ⟨e, ⟨ts, M, mks⟩, h1, h2, rfl, rfl, X, c, rfl, h4, h5⟩ := loop40o (G := G) (cl := cl) (yl := yl) (N := N) ps hr hb hN h97
  have hrow := row_get hr O
  refine ⟨c, X, ?_, h5⟩
  obtain ⟨f, cap, rfl⟩ := h5.fn
  simp at h4
  simp -implicitDefEqProofs [c40, hrow, h1, h4]
end
def mco (m : Mc) (P : AV) : List AV := [.str m.nm, P, .int .i64 m.bd.op, .slc .shared (m.bd.ns.map .str), .int .i64 m.bd.so, .int .i64 m.bd.nn, .int .i64 m.bd.mm, .slc .shared (avL m.bd.l)]
def PRow (R : List Arr) (P : AV) (ps : List Vr) : Prop := (ps = [] ∧ P = .slc .full []) ∨ (ps ≠ [] ∧ ∃ a g, P = .osl a g 0 ps.length ∧ R[a]? = some (rwV g ps))
theorem PRow.grow {R : List Arr} {P : AV} {ps : List Vr} (h : PRow R P ps) (Y : List Arr) : PRow (R ++ Y) P ps := by
  rcases h with h | ⟨h0, a, g, h1, h2⟩
  · exact .inl h
  · exact .inr ⟨h0, a, g, h1, get_old h2 Y⟩
theorem PRow.cells {R : List Arr} {P : AV} {ps : List Vr} (h : PRow R P ps) : cells P = some [P] := by
  rcases h with ⟨-, rfl⟩ | ⟨-, a, g, rfl, -⟩ <;> rfl
theorem pure_mco {m : Mc} {P : AV} (h : pureV P = some (.slc .shared (m.ps.map vrv))) : pureV (.agg (mco m P)) = some (mcv m) := by
  rw [mcv_eq]
  simp [mco, pureV, pureL, h]
section
variable {G : Nat → Option AV} {cl : Caller} {yl : Nat → List AV → Mem → Option (AV × Mem)} {N : Nat}
theorem ev41o (m : Mc) {O : List Obj} {R : List Arr} {P : AV} (hP : PRow R P m.ps)
    (h70f : ∀ M, cl 70 [.slc .full []] M = some (.slc .full [], M))
    (h70 : ∀ X a g, m.ps ≠ [] → R[a]? = some (rwV g m.ps) → cl 70 [.osl a g 0 m.ps.length] ⟨O ++ X, R⟩ = some (.slc (.own R.length) (m.ps.map vrv), ⟨O ++ X, R ++ [.app m.ps.length 74 2]⟩))
    (h99 : ∀ M, cl 99 [av m.bd] M = some (av m.bd, M)) :
    ∃ P' X Y, callA G false cl yl N c41 [.agg (mco m P)] ⟨O, R⟩ = some (.agg (mco m P'), ⟨O ++ X, R ++ Y⟩) ∧ pureV P' = some (.slc .shared (m.ps.map vrv)) := by
  rcases hP with ⟨h0, rfl⟩ | ⟨h0, a, g, rfl, hr⟩
  · suffices h : ∃ X, callA G false cl yl N c41 [.agg (mco m (.slc .full []))] ⟨O, R⟩ = some (.agg (mco m (.slc .full [])), ⟨O ++ X, R⟩) by
      obtain ⟨X, h⟩ := h
      exact ⟨_, X, [], by rw [List.append_nil]; exact h, by rw [h0]; rfl⟩
    apply Exists.intro
    simp -implicitDefEqProofs [c41, mco, h70f, h99, ndc_eq]
    rfl
  · suffices h : ∃ X, callA G false cl yl N c41 [.agg (mco m (.osl a g 0 m.ps.length))] ⟨O, R⟩ = some (.agg (mco m (.slc (.own R.length) (m.ps.map vrv))), ⟨O ++ X, R ++ [.app m.ps.length 74 2]⟩) by
      obtain ⟨X, h⟩ := h
      exact ⟨_, X, _, h, rfl⟩
    have k := h70 [.cells (mco m (.osl a g 0 m.ps.length)), .cells [.str [], .slc .full [], .int .i64 0, .slc .full [], .int .i64 0, .int .i64 0, .int .i64 0, .slc .full []]] a g h0 hr
    simp -implicitDefEqProofs [mco] at k
    apply Exists.intro
    simp -implicitDefEqProofs [c41, mco, k, h99, ndc_eq]
    rfl
structure Cs12p (cl : Caller) (w : List Mc) (m : Mc) (P : AV) (id : Nat) (O : List Obj) (R : List Arr) : Prop where
  h15 : ∀ X, Gr (cl 15 [.ptr id 0, .str m.nm] ⟨O ++ X, R⟩) (lup w m.nm) (O ++ X) R
  h36 : ∀ M, cl 36 [.str m.nm] M = some (.bool (isId m.nm), M)
  h37 : ∀ X, Gr (cl 37 [P] ⟨O ++ X, R⟩) (.int .i64 (parE m.ps)) (O ++ X) R
  h38 : ∀ M, cl 38 [av m.bd] M = some (.int .i64 (chk m.bd), M)
  h40 : ∀ X, ∃ c Y, cl 40 [P] ⟨O ++ X, R⟩ = some (c, ⟨O ++ X ++ Y, R⟩) ∧ Sc (O ++ X ++ Y) c m.ps
  h39 : chk m.bd = 0 → parE m.ps = 0 → ∀ X c, Sc (O ++ X) c m.ps → Gr (cl 39 [.ptr id 0, av m.bd, c, .bool true] ⟨O ++ X, R⟩) (.int .i64 (wlk w true m.bd m.ps)) (O ++ X) R
  h41 : ∀ X, ∃ P' X' Y', cl 41 [.agg (mco m P)] ⟨O ++ X, R⟩ = some (.agg (mco m P'), ⟨O ++ X ++ X', R ++ Y'⟩) ∧ pureV P' = some (.slc .shared (m.ps.map vrv))
theorem ev12p_no (w : List Mc) (m : Mc) {P : AV} {id : Nat} {a : Option Nat} {O : List Obj} {R : List Arr} (hs : SetAt O R id a w) (h : Cs12p cl w m P id O R) (hm : may w m ≠ 0) :
    Gr (callA G false cl yl N c12 [.ptr id 0, .agg (mco m P)] ⟨O, R⟩) (.int .i64 (may w m)) O R := by
  obtain ⟨h15, h36, h37, h38, h40, h39, h41⟩ := h
  obtain ⟨sp, hg⟩ := hs.get
  have hg' := fun r => get_old hg r
  obtain ⟨Y, hY⟩ := h15 [.cells (mco m P)]
  obtain ⟨dc, hdc, hl⟩ := lup_agg w m.nm
  rw [hl] at hY
  unfold may at hm ⊢
  simp -implicitDefEqProofs [mco] at hY
  by_cases c1 : 64 ≤ w.length
  · have c1' : (64 : Int) ≤ (w.length : Int) := by omega
    simp only [c1, if_true]
    unfold Gr; apply Exists.intro
    simp -implicitDefEqProofs [c12, mco, hY, hdc, hg', c1']
    rfl
  · have c1' : ¬ (64 : Int) ≤ (w.length : Int) := by omega
    simp only [c1, if_false] at hm ⊢
    cases c2 : isId m.nm with
    | false =>
      rw [c2] at h36
      simp only [if_true]
      unfold Gr; apply Exists.intro
      simp -implicitDefEqProofs [c12, mco, hY, hdc, hg', c1', h36]
      rfl
    | true =>
      rw [c2] at h36 hm
      simp only [Bool.true_eq_false, if_false] at hm ⊢
      cases c3 : (fnd w m.nm).isSome with
      | true =>
        rw [c3] at hY
        simp only [if_true]
        unfold Gr; apply Exists.intro
        simp -implicitDefEqProofs [c12, mco, hY, hdc, hg', c1', h36]
        rfl
      | false =>
        rw [c3] at hY hm
        simp only [Bool.false_eq_true, if_false] at hm ⊢
        obtain ⟨V, hV⟩ := h37 (.cells (mco m P) :: (Y ++ [.cells dc]))
        by_cases c4 : parE m.ps = 0
        · rw [c4] at hV
          simp only [c4, if_true] at hm ⊢
          by_cases c5 : chk m.bd = 0
          · rw [c5] at h38
            simp only [c5, if_true] at hm ⊢
            obtain ⟨c, Z, hZ, hc⟩ := h40 ((.cells (mco m P) :: (Y ++ [.cells dc])) ++ V)
            obtain ⟨Q, hQ⟩ := h39 c5 c4 (((.cells (mco m P) :: (Y ++ [.cells dc])) ++ V) ++ Z) c (by rw [← List.append_assoc]; exact hc)
            simp -implicitDefEqProofs [mco] at hV hZ hQ
            have hm' : (wlk w true m.bd m.ps == 0) = false := by simp [hm]
            unfold Gr; apply Exists.intro
            simp -implicitDefEqProofs [c12, mco, hY, hdc, hg', c1', h36, hV, h38, hZ, hQ, hm']
            rfl
          · simp only [c5, if_false] at hm ⊢
            have c5' : (chk m.bd == 0) = false := by simp [c5]
            simp -implicitDefEqProofs [mco] at hV
            unfold Gr; apply Exists.intro
            simp -implicitDefEqProofs [c12, mco, hY, hdc, hg', c1', h36, hV, h38, c5']
            rfl
        · simp only [c4, if_false]
          have c4' : (parE m.ps == 0) = false := by simp [c4]
          simp -implicitDefEqProofs [mco] at hV
          unfold Gr; apply Exists.intro
          simp -implicitDefEqProofs [c12, mco, hY, hdc, hg', c1', h36, hV, c4']
          rfl
theorem ev12p_yes (w : List Mc) (m : Mc) {P : AV} {id : Nat} {a : Option Nat} {O : List Obj} {R : List Arr} (hs : SetAt O R id a w) (h : Cs12p cl w m P id O R) (hm : may w m = 0) :
    ∃ O' R' a', callA G false cl yl N c12 [.ptr id 0, .agg (mco m P)] ⟨O, R⟩ = some (.int .i64 0, ⟨O', R'⟩) ∧ Added O R id a (w ++ [m]) O' R' a' := by
  obtain ⟨h15, h36, h37, h38, h40, h39, h41⟩ := h
  obtain ⟨Y, hY⟩ := h15 [.cells (mco m P)]
  obtain ⟨dc, hdc, hl⟩ := lup_agg w m.nm
  rw [hl] at hY
  unfold may at hm
  simp -implicitDefEqProofs [mco] at hY
  by_cases c1 : 64 ≤ w.length
  · simp [c1] at hm
  · have c1' : ¬ (64 : Int) ≤ (w.length : Int) := by omega
    simp only [c1, if_false] at hm
    cases c2 : isId m.nm with
    | false => simp [c2] at hm
    | true =>
      rw [c2] at h36 hm
      simp only [Bool.true_eq_false, if_false] at hm
      cases c3 : (fnd w m.nm).isSome with
      | true => simp [c3] at hm
      | false =>
        rw [c3] at hY hm
        simp only [Bool.false_eq_true, if_false] at hm
        obtain ⟨V, hV⟩ := h37 (.cells (mco m P) :: (Y ++ [.cells dc]))
        by_cases c4 : parE m.ps = 0
        · rw [c4] at hV
          simp only [c4, if_true] at hm
          by_cases c5 : chk m.bd = 0
          · rw [c5] at h38
            simp only [c5, if_true] at hm
            obtain ⟨c, Z, hZ, hc⟩ := h40 ((.cells (mco m P) :: (Y ++ [.cells dc])) ++ V)
            obtain ⟨Q, hQ⟩ := h39 c5 c4 (((.cells (mco m P) :: (Y ++ [.cells dc])) ++ V) ++ Z) c (by rw [← List.append_assoc]; exact hc)
            rw [hm] at hQ
            obtain ⟨P', X', Y', h41, hP'⟩ := h41 ((((.cells (mco m P) :: (Y ++ [.cells dc])) ++ V) ++ Z) ++ Q)
            have hsz := szOk_mcvL w
            have hsm := szOk_mcv m []
            have hq1 : (w.length + 1) * 120 ≤ 140737488355328 := by omega
            have hq2 : w.length + 1 ≤ 140737488355328 := by omega
            simp -implicitDefEqProofs [mco] at hV hZ hQ hsm h41
            cases hs with
            | nil hg =>
              have hg' := fun r => get_old hg r
              have hlt : id < O.length := (List.getElem?_eq_some_iff.1 hg).1
              have hst := fun r x => set_old (l := O) hlt r x
              obtain ⟨X, hX⟩ : ∃ X, callA G false cl yl N c12 [.ptr id 0, .agg (mco m P)] ⟨O, R⟩ = some (.int .i64 0, ⟨O.set id (.cells [.slc (.own (R ++ Y').length) [mcv m]]) ++ X, R ++ Y' ++ [.app 1 42 8]⟩) := by
                apply Exists.intro
                simp -implicitDefEqProofs [c12, mco, hY, hdc, hg', c1', h36, hV, h38, hZ, hQ, hst, hsm, h41, hP']
                rfl
              refine ⟨_, _, some (R ++ Y').length, hX, ?_⟩
              refine ⟨.own (a := (R ++ Y').length) ?_ (by simp), ?_, ?_, .inr ⟨rfl, _, by simp, rfl⟩⟩
              · exact get_old (by simp [hlt]) _
              · intro i o hi ho
                refine get_old ?_ _
                rw [List.getElem?_set_ne (by omega)]
                exact ho
              · intro b r hb hr
                exact get_old (get_old hr _) _
            | own hg hr =>
              rename_i a
              have hg' := fun r => get_old hg r
              have hr' := fun r => get_old hr r
              have hlt : id < O.length := (List.getElem?_eq_some_iff.1 hg).1
              have hla : a < R.length := (List.getElem?_eq_some_iff.1 hr).1
              have hst := fun r x => set_old (l := O) hlt r x
              have hst2 := fun r x => set_old (l := R) hla r x
              obtain ⟨X, hX⟩ : ∃ X, callA G false cl yl N c12 [.ptr id 0, .agg (mco m P)] ⟨O, R⟩ = some (.int .i64 0, ⟨O.set id (.cells [.slc (.own a) ((w ++ [m]).map mcv)]) ++ X, R.set a (.app (w ++ [m]).length 42 8) ++ Y'⟩) := by
                apply Exists.intro
                simp -implicitDefEqProofs [c12, mco, hY, hdc, hg', c1', h36, hV, h38, hZ, hQ, hst, hst2, hsm, h41, hP', hr', hsz, hq1, hq2]
                rfl
              refine ⟨_, _, some a, hX, ?_⟩
              refine ⟨.own (a := a) ?_ (get_old (by simp [hla]) _), ?_, ?_, .inl rfl⟩
              · exact get_old (by simp [hlt]) _
              · intro i o hi ho
                refine get_old ?_ _
                rw [List.getElem?_set_ne (by omega)]
                exact ho
              · intro b r hb hr'
                refine get_old ?_ _
                rw [List.getElem?_set_ne (by intro e; exact hb (by rw [e]))]
                exact hr'
          · simp [c5] at hm
        · simp [c4] at hm
end
@[simp] theorem cells_osl (a g o n : Nat) : cells (.osl a g o n) = some [.osl a g o n] := rfl
theorem flat_vrs : ∀ l : List Vr, flat (l.map vrv) = some (l.flatMap vrc)
  | [] => rfl
  | v :: l => by simp [flat, flat_vrs l, List.flatMap_cons, vrc]
theorem plain_vrs : ∀ l : List Vr, plainL (l.flatMap vrc) = true
  | [] => rfl
  | v :: l => by rw [List.flatMap_cons]; simp only [vrc, List.cons_append, List.nil_append, plainL]; exact plain_vrs l
def qco (q : Qn) (P : AV) : List AV := [P, .int .i64 q.bd.op, .slc .shared (q.bd.ns.map .str), .int .i64 q.bd.so, .int .i64 q.bd.nn, .int .i64 q.bd.mm, .slc .shared (avL q.bd.l)]
def PRowF (r0 : Nat) (R : List Arr) (P : AV) (ps : List Vr) : Prop := (ps = [] ∧ P = .slc .full []) ∨ (ps ≠ [] ∧ ∃ a g, r0 ≤ a ∧ P = .osl a g 0 ps.length ∧ R[a]? = some (rwV g ps))
theorem PRowF.row {r0 : Nat} {R : List Arr} {P : AV} {ps : List Vr} (h : PRowF r0 R P ps) : PRow R P ps := by
  rcases h with h | ⟨h0, a, g, -, h1, h2⟩
  · exact .inl h
  · exact .inr ⟨h0, a, g, h1, h2⟩
theorem PRowF.cells {r0 : Nat} {R : List Arr} {P : AV} {ps : List Vr} (h : PRowF r0 R P ps) : cells P = some [P] := h.row.cells
theorem set_ge {α : Type} {R Y : List α} {a : Nat} (h : R.length ≤ a) (x : α) : (R ++ Y).set a x = R ++ Y.set (a - R.length) x := List.set_append_right _ _ h
section
variable {G : Nat → Option AV} {cl : Caller} {yl : Nat → List AV → Mem → Option (AV × Mem)} {N : Nat}
def z7 : List AV := [.slc .full [], .int .i64 0, .slc .full [], .int .i64 0, .int .i64 0, .int .i64 0, .slc .full []]
def S25 (q : Qn) (O : List Obj) (R : List Arr) (l : List Vr) (i : Nat) (st : St) : Prop :=
  ∃ Y P, look 1 st.ts = .ptr O.length 0 ∧ look 2 st.ts = .ptr (O.length + 1) 0 ∧ look 3 st.ts = .ptr (O.length + 2) 0 ∧ look 4 st.ts = .int .i64 (i : Int) ∧ st.mks = [] ∧ st.m = ⟨O ++ [.cells (qsc q), .cells z7, .cells (qco q P)], R ++ Y⟩ ∧ PRowF R.length (R ++ Y) P l
theorem loop25m (q : Qn) {O : List Obj} {R : List Arr} (hb : q.fr.length < big) (hN : q.fr.length < N) (k m : Nat) {s0 : St} (h0 : S25 q O R [] 0 s0) :
    ∃ e s', iter true (evalC G true cl yl N c25b0) ⟨[1, 2, 3, 4], [(3, some 0), (4, none)], false⟩ k m N s0 = some (e, s') ∧ e ≠ .normal ∧
      (e = .exit 0 ∧ s'.mks = [] ∧ look 2 s'.ts = .ptr (O.length + 1) 0 ∧ look 3 s'.ts = .ptr (O.length + 2) 0 ∧ ∃ Y P, s'.m = ⟨O ++ [.cells (qsc q), .cells z7, .cells (qco q P)], R ++ Y⟩ ∧ PRowF R.length (R ++ Y) P q.fr) := by
  unfold big at hb
  refine (iter_inv (mu := true) (step := evalC G true cl yl N c25b0) (an := ⟨[1, 2, 3, 4], [(3, some 0), (4, none)], false⟩) (k := k) (m := m) (N := N) q.fr (fun _ => (none : Option Unit))
    (fun i st => S25 q O R (q.fr.take i) i st)
    (fun r e s' => e = .exit 0 ∧ s'.mks = [] ∧ look 2 s'.ts = .ptr (O.length + 1) 0 ∧ look 3 s'.ts = .ptr (O.length + 2) 0 ∧ ∃ Y P, s'.m = ⟨O ++ [.cells (qsc q), .cells z7, .cells (qco q P)], R ++ Y⟩ ∧ PRowF R.length (R ++ Y) P q.fr) hN (by simpa using h0) ?_ ?_)
  · rintro i v ⟨ts, M, mks⟩ hx hi ⟨Y, P, p1, p2, p3, p4, rfl, rfl, hP⟩
    have hx' := (List.getElem?_eq_some_iff.1 hx).2
    have w1 := wrap_succ (i := i) (by omega)
    have hlen : (q.fr.take i).length = i := by simp; omega
    have hq : (i + 1) * 24 ≤ 140737488355328 := by omega
    have hq2 : i + 1 ≤ 140737488355328 := by omega
    simp only at p1 p2 p3 p4
    rw [take_succ_of hx]
    rcases hP with ⟨hl, rfl⟩ | ⟨hl, a, g, hra, rfl, hr⟩
    · have hi0 : i = 0 := by rw [hl] at hlen; simpa using hlen.symm
      subst hi0
      simp -implicitDefEqProofs [c25b0, p1, p2, p3, p4, qsc, qco, z7, flat, hi, hx', srcOf, rowOf, appM, S25]
      exact ⟨rfl, _, _, ⟨rfl, rfl⟩, .inr ⟨by simp, _, 0, by omega, rfl, by simp [rwV, vrc]⟩⟩
    · have hR1 := fun Z => get_old hr Z
      simp only [rwV, hlen] at hR1
      have hcl : ((q.fr.take i).flatMap vrc).length = i * 2 := by rw [fm_len, hlen]
      have hla : a < (R ++ Y).length := (List.getElem?_eq_some_iff.1 hr).1
      generalize hcs : (q.fr.take i).flatMap vrc = cs at *
      have hst := fun (Z : List Arr) (x : Arr) => set_ge (R := R) (Y := Z) hra x
      have hi0 : ¬ i = 0 := fun h => hl (by rw [h]; simp)
      rw [hlen]
      simp -implicitDefEqProofs at hR1
      simp -implicitDefEqProofs [c25b0, p1, p2, p3, p4, qsc, qco, z7, flat, hi, hx', srcOf, rowOf, appM, S25, hR1, hst, hcl, hq, hq2, w1]
      refine ⟨_, _, ⟨rfl, rfl⟩, .inr ⟨by simp, a, g + 1, hra, by simp [hlen], ?_⟩⟩
      rw [← hst, List.getElem?_set_self (by simp at hla ⊢; omega)]
      simp [rwV, List.flatMap_append, hcs, vrc]
  · rintro ⟨ts, M, mks⟩ ⟨Y, P, p1, p2, p3, p4, rfl, rfl, hP⟩
    rw [List.take_length] at hP
    simp only at p1 p2 p3 p4
    simp -implicitDefEqProofs [c25b0, p1, p2, p3, p4, qsc]
    exact ⟨Y, P, ⟨rfl, rfl⟩, hP⟩
end
section
variable {G : Nat → Option AV} {cl : Caller} {yl : Nat → List AV → Mem → Option (AV × Mem)} {N : Nat}
theorem ev25m (q : Qn) {O : List Obj} {R : List Arr} (hb : q.fr.length < big) (hN : q.fr.length < N) (h72 : ∀ M, cl 72 [av q.bd] M = some (av q.bd, M)) :
    ∃ X Y P, callA G true cl yl N c25 [qsv q] ⟨O, R⟩ = some (.agg (qco q P), ⟨O ++ X, R ++ Y⟩) ∧ PRowF R.length (R ++ Y) P q.fr := by
  obtain ⟨e, ⟨ts, M, mks⟩, h1, -, rfl, rfl, p2, p3, Y, P, rfl, hP⟩ := loop25m (G := G) (cl := cl) (yl := yl) (N := N) q (O := O) (R := R) hb hN (O.length + 3) R.length
    (s0 := ⟨[(4, .int .i64 0), (3, .ptr (O.length + 2) 0), (8, .agg (qco q (.slc .full []))), (7, av q.bd), (6, av q.bd), (5, .ptr O.length 1), (2, .ptr (O.length + 1) 0), (1, .ptr O.length 0), (0, qsv q)], ⟨O ++ [.cells (qsc q), .cells z7, .cells (qco q (.slc .full []))], R⟩, []⟩)
    ⟨[], .slc .full [], rfl, rfl, rfl, rfl, rfl, by simp, .inl ⟨rfl, rfl⟩⟩
  simp at p2 p3
  simp -implicitDefEqProofs [qsc, qco, z7] at h1
  suffices h : ∃ X, callA G true cl yl N c25 [qsv q] ⟨O, R⟩ = some (.agg (qco q P), ⟨O ++ X, R ++ Y⟩) by
    obtain ⟨X, h⟩ := h
    exact ⟨X, Y, P, h, hP⟩
  apply Exists.intro
  simp -implicitDefEqProofs [c25, h72, ndc_eq, qco, h1, p2, p3]
  rfl
theorem ev13m (m : Mc) {O : List Obj} {R : List Arr} (h25 : ∀ X, ∃ X' Y P, cl 25 [qsv ⟨m.ps, m.bd⟩] ⟨O ++ X, R⟩ = some (.agg (qco ⟨m.ps, m.bd⟩ P), ⟨O ++ X ++ X', R ++ Y⟩) ∧ PRowF R.length (R ++ Y) P m.ps) :
    ∃ X Y P, callA G true cl yl N c13 [mcv m] ⟨O, R⟩ = some (.agg (mco m P), ⟨O ++ X, R ++ Y⟩) ∧ PRowF R.length (R ++ Y) P m.ps := by
  obtain ⟨X', Y, P, k, hP⟩ := h25 [.cells (mcc m), .cells [.str [], .slc .full [], .int .i64 0, .slc .full [], .int .i64 0, .int .i64 0, .int .i64 0, .slc .full []]]
  have hc := hP.cells
  suffices h : ∃ X, callA G true cl yl N c13 [mcv m] ⟨O, R⟩ = some (.agg (mco m P), ⟨O ++ X, R ++ Y⟩) by
    obtain ⟨X, h⟩ := h
    exact ⟨X, Y, P, h, hP⟩
  simp -implicitDefEqProofs [mcc_eq, qco] at k
  apply Exists.intro
  simp -implicitDefEqProofs [c13, mcc_eq, agg_qnd, k, hc, mco]
  first | rfl | exact ⟨ndc_eq _, rfl⟩
theorem ev41m (m : Mc) {O : List Obj} {R : List Arr} (h0 : m.ps = [] → ∀ M, cl 70 [.slc .shared []] M = some (.slc .full [], M))
    (h70 : m.ps ≠ [] → ∀ M, cl 70 [.slc .shared (m.ps.map vrv)] M = some (.osl M.arrs.length 0 0 m.ps.length, ⟨M.objs, M.arrs ++ [rwV 0 m.ps]⟩)) (h99 : ∀ M, cl 99 [av m.bd] M = some (av m.bd, M)) :
    ∃ X Y P, callA G true cl yl N c41 [mcv m] ⟨O, R⟩ = some (.agg (mco m P), ⟨O ++ X, R ++ Y⟩) ∧ PRowF R.length (R ++ Y) P m.ps := by
  by_cases hp : m.ps = []
  · have k := h0 hp
    suffices h : ∃ X, callA G true cl yl N c41 [mcv m] ⟨O, R⟩ = some (.agg (mco m (.slc .full [])), ⟨O ++ X, R⟩) by
      obtain ⟨X, h⟩ := h
      exact ⟨X, [], _, by rw [List.append_nil]; exact h, .inl ⟨hp, rfl⟩⟩
    apply Exists.intro
    simp -implicitDefEqProofs [c41, mcc_eq, hp, k, h99, ndc_eq, mco]
    rfl
  · have k := h70 hp
    suffices h : ∃ X, callA G true cl yl N c41 [mcv m] ⟨O, R⟩ = some (.agg (mco m (.osl R.length 0 0 m.ps.length)), ⟨O ++ X, R ++ [rwV 0 m.ps]⟩) by
      obtain ⟨X, h⟩ := h
      exact ⟨X, _, _, h, .inr ⟨hp, R.length, 0, Nat.le_refl _, rfl, by simp⟩⟩
    apply Exists.intro
    simp -implicitDefEqProofs [c41, mcc_eq, k, h99, ndc_eq, mco]
    rfl
theorem ev45m {O : List Obj} {R : List Arr} {p : Nat} {x : Str} (m : Mc) (hp : O[p]? = some (.cells [.str x])) :
    callA G true cl yl N c45 [mcv m, .ptr p 0] ⟨O, R⟩ = some (.bool (m.nm == x), ⟨O ++ [.cells (mcc m)], R⟩) := by
  have hp' := fun r => get_old hp r
  simp -implicitDefEqProofs [c45, hp', strA, mcc_eq]
theorem loop44m (w : List Mc) (sp : Sp) (x : Str) {O : List Obj} {R : List Arr} {p : Nat} (hp : O[p]? = some (.cells [.str x])) (hb : w.length < big) (hN : w.length < N) (k m : Nat) {ts : Slots}
    (q0 : look 0 ts = .slc sp (w.map mcv)) (q1 : look 1 ts = .fn 45 [] [.ptr p 0]) (q7 : look 7 ts = .int .i64 w.length) (q8 : look 8 ts = .int .i64 0)
    (h45 : ∀ m X, cl 45 [mcv m, .ptr p 0] ⟨O ++ X, R⟩ = some (.bool (m.nm == x), ⟨O ++ X ++ [.cells (mcc m)], R⟩)) :
    ∃ e s', iter true (evalC G true cl yl N c44b0) ⟨[0, 1, 7, 8], [(8, none)], true⟩ k m N ⟨ts, ⟨O, R⟩, []⟩ = some (e, s') ∧ e ≠ .normal ∧
      (s'.mks = [] ∧ (∃ X, s'.m = ⟨O ++ X, R⟩) ∧ ((e = .exit 0 ∧ fix w x = -1) ∨ (e = .ret ∧ look 4 s'.ts = .int .i64 (fix w x)))) := by
  unfold big at hb
  have h := iter_inv (mu := true) (step := evalC G true cl yl N c44b0) (an := ⟨[0, 1, 7, 8], [(8, none)], true⟩) (k := k) (m := m) (N := N) (w.zipIdx 0) (fixG x)
    (fun i s => look 0 s.ts = .slc sp (w.map mcv) ∧ look 1 s.ts = .fn 45 [] [.ptr p 0] ∧ look 7 s.ts = .int .i64 w.length ∧ look 8 s.ts = .int .i64 (i : Int) ∧ s.mks = [] ∧ ∃ X, s.m = ⟨O ++ X, R⟩)
    (fun r e s' => s'.mks = [] ∧ (∃ X, s'.m = ⟨O ++ X, R⟩) ∧ match r with
      | none => e = .exit 0
      | some j => e = .ret ∧ look 4 s'.ts = .int .i64 (j : Int)) (s0 := ⟨ts, ⟨O, R⟩, []⟩) (by simpa using hN) ⟨q0, q1, q7, q8, rfl, [], by simp⟩ ?_ ?_
  · obtain ⟨e, s', h1, h2, h3, h4, h5⟩ := h
    refine ⟨e, s', h1, h2, h3, h4, ?_⟩
    rw [fixG_all] at h5
    unfold fix
    cases hf : w.findIdx? (fun m => m.nm == x) with
    | none => rw [hf] at h5; exact .inl ⟨h5, rfl⟩
    | some j => rw [hf] at h5; exact .inr h5
  · rintro i ⟨m, j⟩ ⟨ts, M, mks⟩ hx hi ⟨p0, p1, p7, p8, rfl, X, rfl⟩
    rw [List.getElem?_zipIdx] at hx
    have hil : i < w.length := by simpa using hi
    rw [List.getElem?_eq_getElem hil] at hx
    simp at hx
    obtain ⟨rfl, rfl⟩ := hx
    simp only at p0 p1 p7 p8
    have w1 := wrap_succ (i := i) (by omega)
    have k := h45 w[i] X
    cases hs : w[i].nm == x with
    | true =>
      rw [hs] at k
      simp -implicitDefEqProofs at k
      simp -implicitDefEqProofs [fixG, c44b0, p0, p1, p7, p8, hil, hs, w1, k]
    | false =>
      rw [hs] at k
      simp -implicitDefEqProofs at k
      simp -implicitDefEqProofs [fixG, c44b0, p0, p1, p7, p8, hil, hs, w1, k]
  · rintro ⟨ts, M, mks⟩ ⟨p0, p1, p7, p8, rfl, X, rfl⟩
    simp only at p0 p1 p7 p8
    simp -implicitDefEqProofs [c44b0, p7, p8]
theorem ev44m (w : List Mc) (sp : Sp) (x : Str) {O : List Obj} {R : List Arr} {p : Nat} (hp : O[p]? = some (.cells [.str x])) (hb : w.length < big) (hN : w.length < N)
    (h45 : ∀ m X, cl 45 [mcv m, .ptr p 0] ⟨O ++ X, R⟩ = some (.bool (m.nm == x), ⟨O ++ X ++ [.cells (mcc m)], R⟩)) :
    Gr (callA G true cl yl N c44 [.slc sp (w.map mcv), .fn 45 [] [.ptr p 0]] ⟨O, R⟩) (.int .i64 (fix w x)) O R := by
  obtain ⟨e, ⟨ts, M, mks⟩, h1, h2, rfl, ⟨X, rfl⟩, h3⟩ := loop44m (G := G) (cl := cl) (yl := yl) (N := N) w sp x (R := R) hp hb hN O.length R.length (ts := [(8, .int .i64 0), (7, .int .i64 w.length), (6, .slc sp (w.map mcv)), (4, .int .i64 0), (0, .slc sp (w.map mcv)), (1, .fn 45 [] [.ptr p 0])]) rfl rfl rfl rfl h45
  refine ⟨X, ?_⟩
  rcases h3 with ⟨rfl, h3⟩ | ⟨rfl, h3⟩
  · rw [h3]
    simp -implicitDefEqProofs [c44, h1]
  · simp at h3
    simp -implicitDefEqProofs [c44, h1, h3]
theorem ev15m (w : List Mc) (x : Str) {O : List Obj} {R : List Arr} {id : Nat} {a : Option Nat} (hs : SetAt O R id a w)
    (h44 : ∀ sp X p, (O ++ X)[p]? = some (.cells [.str x]) → Gr (cl 44 [.slc sp (w.map mcv), .fn 45 [] [.ptr p 0]] ⟨O ++ X, R⟩) (.int .i64 (fix w x)) (O ++ X) R)
    (h41 : ∀ d ∈ w, ∀ X, ∃ X' Y P, cl 41 [mcv d] ⟨O ++ X, R⟩ = some (.agg (mco d P), ⟨O ++ X ++ X', R ++ Y⟩) ∧ PRowF R.length (R ++ Y) P d.ps) :
    match fnd w x with
    | none => Gr (callA G true cl yl N c15 [.ptr id 0, .str x] ⟨O, R⟩) (.tup [mc0, .bool false]) O R
    | some d => ∃ X Y P, callA G true cl yl N c15 [.ptr id 0, .str x] ⟨O, R⟩ = some (.tup [.agg (mco d P), .bool true], ⟨O ++ X, R ++ Y⟩) ∧ PRowF R.length (R ++ Y) P d.ps := by
  obtain ⟨sp, hg⟩ := hs.get
  have hg' := fun r => get_old hg r
  obtain ⟨Z, hZ⟩ := h44 sp [.cells [.str x], .cells [.str [], .slc .full [], .int .i64 0, .slc .full [], .int .i64 0, .int .i64 0, .int .i64 0, .slc .full []]] O.length (by simp)
  cases hf : fnd w x with
  | none =>
    have h1 : fix w x < 0 := fix_none.2 hf
    simp -implicitDefEqProofs at hZ
    unfold Gr; apply Exists.intro
    simp -implicitDefEqProofs [c15, hg', hZ, h1, mc0]
    rfl
  | some d =>
    obtain ⟨j, hj, hd⟩ := fix_some hf
    rw [hj] at hZ
    have hj1 : j < w.length := (List.getElem?_eq_some_iff.1 hd).1
    have hd' : w[j] = d := (List.getElem?_eq_some_iff.1 hd).2
    have hp : ¬ (j : Int) < 0 := by omega
    obtain ⟨X', Y, P, k, hP⟩ := h41 d (List.mem_of_find?_eq_some hf) ([.cells [.str x], .cells [.str [], .slc .full [], .int .i64 0, .slc .full [], .int .i64 0, .int .i64 0, .int .i64 0, .slc .full []]] ++ Z)
    simp -implicitDefEqProofs [mco] at hZ k
    suffices h : ∃ X, callA G true cl yl N c15 [.ptr id 0, .str x] ⟨O, R⟩ = some (.tup [.agg (mco d P), .bool true], ⟨O ++ X, R ++ Y⟩) by
      obtain ⟨X, h⟩ := h
      exact ⟨X, Y, P, h, hP⟩
    apply Exists.intro
    simp -implicitDefEqProofs [c15, hg', hZ, hj1, hd', hp, k, mco]
    rfl
def NRowF (r0 : Nat) (R : List Arr) (P : AV) (l : List Str) : Prop := (l = [] ∧ P = .slc .full []) ∨ (l ≠ [] ∧ ∃ a g, r0 ≤ a ∧ P = .osl a g 0 l.length ∧ R[a]? = some (.wr g 9 .sc (l.map .str)))
theorem loop28m (w : List Mc) (sp : Sp) {O : List Obj} {R : List Arr} (hb : w.length < big) (hN : w.length < N) (k m : Nat) {ts : Slots}
    (q3 : look 3 ts = .slc .full []) (q11 : look 11 ts = .slc sp (w.map mcv)) (q12 : look 12 ts = .int .i64 w.length) (q13 : look 13 ts = .int .i64 0) :
    ∃ e s', iter true (evalC G true cl yl N c28b0) ⟨[3, 11, 12, 13], [(3, none), (13, none)], true⟩ k m N ⟨ts, ⟨O, R⟩, []⟩ = some (e, s') ∧ e ≠ .normal ∧
      (e = .exit 0 ∧ s'.mks = [] ∧ ∃ X Y P, s'.m = ⟨O ++ X, R ++ Y⟩ ∧ look 3 s'.ts = P ∧ NRowF R.length (R ++ Y) P (w.map Mc.nm)) := by
  unfold big at hb
  refine (iter_inv (mu := true) (step := evalC G true cl yl N c28b0) (an := ⟨[3, 11, 12, 13], [(3, none), (13, none)], true⟩) (k := k) (m := m) (N := N) w (fun _ => (none : Option Unit))
    (fun i s => look 11 s.ts = .slc sp (w.map mcv) ∧ look 12 s.ts = .int .i64 w.length ∧ look 13 s.ts = .int .i64 (i : Int) ∧ s.mks = [] ∧ ∃ X Y P, s.m = ⟨O ++ X, R ++ Y⟩ ∧ look 3 s.ts = P ∧ NRowF R.length (R ++ Y) P ((w.take i).map Mc.nm))
    (fun r e s' => e = .exit 0 ∧ s'.mks = [] ∧ ∃ X Y P, s'.m = ⟨O ++ X, R ++ Y⟩ ∧ look 3 s'.ts = P ∧ NRowF R.length (R ++ Y) P (w.map Mc.nm)) hN ⟨q11, q12, q13, rfl, [], [], _, by simp, q3, .inl ⟨by simp, rfl⟩⟩ ?_ ?_)
  · rintro i d ⟨ts, M, mks⟩ hx hi ⟨p11, p12, p13, rfl, X, Y, P, rfl, p3, hP⟩
    have hx' := (List.getElem?_eq_some_iff.1 hx).2
    have w1 := wrap_succ (i := i) (by omega)
    have hlen : ((w.take i).map Mc.nm).length = i := by simp; omega
    have hq : (i + 1) * 16 ≤ 140737488355328 := by omega
    have hq2 : i + 1 ≤ 140737488355328 := by omega
    simp only at p11 p12 p13 p3
    rw [take_succ_of hx, List.map_append]
    rcases hP with ⟨hl, rfl⟩ | ⟨hl, a, g, hra, rfl, hr⟩
    · have hi0 : i = 0 := by rw [hl] at hlen; simpa using hlen.symm
      subst hi0
      rw [hl]
      have w1' : wrapF .i64 1 = 1 := rfl
      simp -implicitDefEqProofs [c28b0, p11, p12, p13, p3, mcc_eq, flat, hi, hx', srcOf, rowOf, appM, w1']
      exact ⟨_, _, ⟨rfl, rfl⟩, .inr ⟨by simp, _, 0, by omega, rfl, by simp⟩⟩
    · have hR1 := fun Z => get_old hr Z
      have hcl : (((w.take i).map Mc.nm).map AV.str).length = i := by rw [List.length_map, hlen]
      have hla : a < (R ++ Y).length := (List.getElem?_eq_some_iff.1 hr).1
      rw [hlen] at p3
      generalize hns : (w.take i).map Mc.nm = ns at *
      generalize hcs : ns.map AV.str = cs at *
      have hst := fun (Z : List Arr) (x : Arr) => set_ge (R := R) (Y := Z) hra x
      simp -implicitDefEqProofs at hR1
      simp -implicitDefEqProofs [c28b0, p11, p12, p13, p3, mcc_eq, flat, hi, hx', srcOf, rowOf, appM, hR1, hst, hcl, hq, hq2, w1]
      refine ⟨_, _, ⟨rfl, rfl⟩, .inr ⟨by simp, a, g + 1, hra, by simp [hlen], ?_⟩⟩
      rw [← hst, List.getElem?_set_self (by simp at hla ⊢; omega)]
      simp [hcs]
  · rintro ⟨ts, M, mks⟩ ⟨p11, p12, p13, rfl, X, Y, P, rfl, p3, hP⟩
    rw [List.take_length] at hP
    simp only at p11 p12 p13 p3
    simp -implicitDefEqProofs [c28b0, p12, p13]
    exact ⟨X, Y, ⟨rfl, rfl⟩, by rw [p3]; exact hP⟩
theorem ev28m (w : List Mc) {id : Nat} {a : Option Nat} {O : List Obj} {R : List Arr} (hs : SetAt O R id a w) (hb : w.length < big) (hN : w.length < N) :
    ∃ X Y P, callA G true cl yl N c28 [.ptr id 0] ⟨O, R⟩ = some (P, ⟨O ++ X, R ++ Y⟩) ∧ NRowF R.length (R ++ Y) P (w.map Mc.nm) := by
  obtain ⟨sp, hg⟩ := hs.get
  obtain ⟨e, ⟨ts, M, mks⟩, h1, h2, rfl, rfl, X, Y, P, rfl, h3, hP⟩ := loop28m (G := G) (cl := cl) (yl := yl) (N := N) w sp (O := O) (R := R) hb hN O.length R.length
    (ts := [(13, .int .i64 0), (12, .int .i64 w.length), (11, .slc sp (w.map mcv)), (10, .ptr id 0), (9, .ptr id 0), (8, .ptr id 0), (3, .slc .full []), (7, .bool false), (6, .ptr id 0), (2, .slc .full []), (0, .ptr id 0)]) rfl rfl rfl rfl
  simp at h3
  refine ⟨X, Y, P, ?_, hP⟩
  have hu : ∀ (α : Type) (x : α) (f : AV → α), (match P with | .undef => x | r => f r) = f P := by
    intro α x f
    rcases hP with ⟨-, rfl⟩ | ⟨-, a, g, -, rfl, -⟩ <;> rfl
  rcases hP with ⟨-, rfl⟩ | ⟨-, a, g, -, rfl, -⟩ <;> simp -implicitDefEqProofs [c28, hg, h1, h3]
end
section
variable {G : Nat → Option AV} {cl : Caller} {yl : Nat → List AV → Mem → Option (AV × Mem)} {N : Nat}
theorem ev76 (l : List Vr) (hb : l.length < big) (hN : l.length < N) : pureA G false cl yl N c76 [.slc .shared (l.map vrv), .slc .shared (l.map vrv)] = some (.bool true, none) := by
  unfold big at hb
  have h1 := iter_all (mu := false) (step := evalC G false cl yl N c76b0) (an := ⟨[0, 1, 12, 13], [(13, none)], false⟩) (k := 0) (m := 0) (N := N) l
    (fun i => ⟨[(0, .slc .shared (l.map vrv)), (1, .slc .shared (l.map vrv)), (12, .int .i64 l.length), (13, .int .i64 (i : Int))], ⟨[], []⟩, []⟩)
    (.exit 0) ⟨[(14, .bool false), (0, .slc .shared (l.map vrv)), (1, .slc .shared (l.map vrv)), (12, .int .i64 l.length), (13, .int .i64 l.length)], ⟨[], []⟩, []⟩ hN (by simp) ?_ ?_
  · simp at h1
    simp -implicitDefEqProofs [c76, h1]
  · intro i v hx hi
    have w1 := wrap_succ (i := i) (by omega)
    have hx' := (List.getElem?_eq_some_iff.1 hx).2
    have he : eqL [2, 1] [.str v.nm, .int .i64 v.so] [.str v.nm, .int .i64 v.so] = some true := by simp [eqL, kindEq]
    have hv : vrv v = .agg [.str v.nm, .int .i64 v.so] := rfl
    simp -implicitDefEqProofs [c76b0, hi, hx', w1, hv, he, -agg_vrv]
  · simp -implicitDefEqProofs [c76b0]
theorem ev62 (m : Mc) (h76 : ∀ M, cl 76 [.slc .shared (m.ps.map vrv), .slc .shared (m.ps.map vrv)] M = some (.bool true, M)) (h77 : ∀ M, cl 77 [av m.bd, av m.bd] M = some (.bool true, M)) :
    pureA G false cl yl N c62 [mcv m, mcv m] = some (.bool true, none) := by
  simp -implicitDefEqProofs [c62, mcc_eq, strA, h76, h77]
def spB' (b : Bool) : Sp := if b then .full else .shared
theorem ev61 (b1 b2 : Bool) (w : List Mc) (hb : w.length < big) (hN : w.length < N) (h62 : ∀ m ∈ w, ∀ M, cl 62 [mcv m, mcv m] M = some (.bool true, M)) :
    pureA G false cl yl N c61 [.slc (spB' b1) (w.map mcv), .slc (spB' b2) (w.map mcv), .fn 62 [] []] = some (.bool true, none) := by
  unfold big at hb
  have h1 := iter_all (mu := false) (step := evalC G false cl yl N c61b0) (an := ⟨[1, 2, 15, 16, 17], [(17, none)], false⟩) (k := 0) (m := 0) (N := N) w
    (fun i => ⟨[(1, .slc (spB' b2) (w.map mcv)), (2, .fn 62 [] []), (15, .slc (spB' b1) (w.map mcv)), (16, .int .i64 w.length), (17, .int .i64 (i : Int))], ⟨[], []⟩, []⟩)
    (.exit 0) ⟨[(18, .bool false), (1, .slc (spB' b2) (w.map mcv)), (2, .fn 62 [] []), (15, .slc (spB' b1) (w.map mcv)), (16, .int .i64 w.length), (17, .int .i64 w.length)], ⟨[], []⟩, []⟩ hN (by simp) ?_ ?_
  · cases b1 <;> cases b2 <;> simp [spB'] at h1 <;> simp -implicitDefEqProofs [c61, spB', h1, pureV, pureL]
  · intro i m hx hi
    have w1 := wrap_succ (i := i) (by omega)
    have hx' := (List.getElem?_eq_some_iff.1 hx).2
    have k := h62 m (mem_of_get hx)
    cases b1 <;> cases b2 <;> simp -implicitDefEqProofs [c61b0, spB', hi, hx', w1, k]
  · simp -implicitDefEqProofs [c61b0]
theorem ev61n (b1 b2 : Bool) (w1 w2 : List Mc) (h : w1.length ≠ w2.length) :
    pureA G false cl yl N c61 [.slc (spB' b1) (w1.map mcv), .slc (spB' b2) (w2.map mcv), .fn 62 [] []] = some (.bool false, none) := by
  have h' : ((w1.length : Int) != (w2.length : Int)) = true := by simp; omega
  cases b1 <;> cases b2 <;> simp -implicitDefEqProofs [c61, spB', h', pureV, pureL]
theorem ev22 (w1 w2 : List Mc) (b : Bool) {O : List Obj} {R : List Arr} {id1 id2 : Nat} {a1 a2 : Option Nat} (h1 : SetAt O R id1 a1 w1) (h2 : SetAt O R id2 a2 w2)
    (h61 : ∀ sp1 sp2 M, cl 61 [.slc sp1 (w1.map mcv), .slc sp2 (w2.map mcv), .fn 62 [] []] M = some (.bool b, M)) :
    callA G false cl yl N c22 [.ptr id1 0, .ptr id2 0] ⟨O, R⟩ = some (.bool b, ⟨O, R⟩) := by
  obtain ⟨s1, g1⟩ := h1.get
  obtain ⟨s2, g2⟩ := h2.get
  have k := h61 s1 s2
  simp -implicitDefEqProofs [c22, g1, g2, k]
theorem ev22_nn (M : Mem) : callA G false cl yl N c22 [.nilp, .nilp] M = some (.bool true, M) := by simp -implicitDefEqProofs [c22]
theorem ev22_pn (i : Nat) (M : Mem) : callA G false cl yl N c22 [.ptr i 0, .nilp] M = some (.bool false, M) := by simp -implicitDefEqProofs [c22]
theorem ev22_np (i : Nat) (M : Mem) : callA G false cl yl N c22 [.nilp, .ptr i 0] M = some (.bool false, M) := by simp -implicitDefEqProofs [c22]
theorem ev15_nil (x : Str) (O : List Obj) (R : List Arr) : Gr (callA G true cl yl N c15 [.nilp, .str x] ⟨O, R⟩) (.tup [mc0, .bool false]) O R := by
  unfold Gr; apply Exists.intro
  simp -implicitDefEqProofs [c15, mc0]
  rfl
def q0V : AV := .agg [.slc .full [], .int .i64 0, .slc .full [], .int .i64 0, .int .i64 0, .int .i64 0, .slc .full []]
theorem ev24_nil (O : List Obj) (R : List Arr) : Gr (callA G false cl yl N c24 [.nilp, q0V] ⟨O, R⟩) (.tup [q0V, .int .i64 1]) O R := by
  unfold Gr; apply Exists.intro
  simp -implicitDefEqProofs [c24, q0V]
  rfl
theorem ev18_nil (M : Mem) : callA G false cl yl N c18 [.nilp] M = some (.tup [.str [], .int .i64 1], M) := by simp -implicitDefEqProofs [c18]
theorem ev12_nil' (cs : List AV) (hc : cs.length = 8) (O : List Obj) (R : List Arr) : Gr (callA G false cl yl N c12 [.nilp, .agg cs] ⟨O, R⟩) (.int .i64 1) O R := by
  unfold Gr; apply Exists.intro
  simp -implicitDefEqProofs [c12]
  rfl
theorem ev28_nil (M : Mem) : callA G true cl yl N c28 [.nilp] M = some (.slc .full [], M) := by simp -implicitDefEqProofs [c28]
theorem ev26_nil (O : List Obj) (R : List Arr) : Gr (callA G false cl yl N c26 [.nilp, q0V] ⟨O, R⟩) (.slc .full []) O R := by
  unfold Gr; apply Exists.intro
  simp -implicitDefEqProofs [c26, q0V]
  rfl
theorem ev29_nil (M : Mem) : callA G false cl yl N c29 [.nilp] M = some (.nilp, M) := by simp -implicitDefEqProofs [c29]
def NewV (r0 : Nat) (R : List Arr) (v : AV) (w : List Mc) : Prop := (w = [] ∧ v = .slc .full []) ∨ (w ≠ [] ∧ ∃ a, r0 ≤ a ∧ v = .slc (.own a) (w.map mcv) ∧ R[a]? = some (.app w.length 42 8))
theorem loop29 (w : List Mc) (sp : Sp) {O : List Obj} {R : List Arr} (hb : w.length < big) (hN : w.length < N) (h41 : ∀ d ∈ w, ∀ M, cl 41 [mcv d] M = some (mcv d, M)) :
    ∃ e s', iter false (evalC G false cl yl N c29b0) ⟨[3, 12, 13, 14], [(14, none)], true⟩ (O.length + 1) R.length N ⟨[(3, .ptr O.length 0), (12, .slc sp (w.map mcv)), (13, .int .i64 w.length), (14, .int .i64 0)], ⟨O ++ [.cells [.slc .full []]], R⟩, []⟩ = some (e, s') ∧ e ≠ .normal ∧
      (e = .exit 0 ∧ s'.mks = [] ∧ look 3 s'.ts = .ptr O.length 0 ∧ ∃ v X Y, s'.m = ⟨O ++ (.cells [v] :: X), R ++ Y⟩ ∧ NewV R.length (R ++ Y) v w) := by
  unfold big at hb
  refine (iter_inv (mu := false) (step := evalC G false cl yl N c29b0) (an := ⟨[3, 12, 13, 14], [(14, none)], true⟩) (k := O.length + 1) (m := R.length) (N := N) w (fun _ => (none : Option Unit))
    (fun i st => ∃ v X Y, st = ⟨[(3, .ptr O.length 0), (12, .slc sp (w.map mcv)), (13, .int .i64 w.length), (14, .int .i64 (i : Int))], ⟨O ++ (.cells [v] :: X), R ++ Y⟩, []⟩ ∧ NewV R.length (R ++ Y) v (w.take i))
    (fun r e s' => e = .exit 0 ∧ s'.mks = [] ∧ look 3 s'.ts = .ptr O.length 0 ∧ ∃ v X Y, s'.m = ⟨O ++ (.cells [v] :: X), R ++ Y⟩ ∧ NewV R.length (R ++ Y) v w) (s0 := ⟨[(3, .ptr O.length 0), (12, .slc sp (w.map mcv)), (13, .int .i64 w.length), (14, .int .i64 0)], ⟨O ++ [.cells [.slc .full []]], R⟩, []⟩) hN ⟨.slc .full [], [], [], by simp, .inl ⟨by simp, rfl⟩⟩ ?_ ?_)
  · rintro i d st hx hi ⟨v, X, Y, rfl, hV⟩
    have hx' := (List.getElem?_eq_some_iff.1 hx).2
    have k41 := h41 d (mem_of_get hx)
    have w1 := wrap_succ (i := i) (by omega)
    have hlen : (w.take i).length = i := by simp; omega
    have hq : (i + 1) * 120 ≤ 140737488355328 := by omega
    have hq2 : i + 1 ≤ 140737488355328 := by omega
    have hz1 := szOk_mcv d []
    rw [take_succ_of hx]
    rcases hV with ⟨hl, rfl⟩ | ⟨hl, a, hra, rfl, hr⟩
    · have hi0 : i = 0 := by rw [hl] at hlen; simpa using hlen.symm
      subst hi0
      rw [hl]
      have w1' : wrapF .i64 1 = 1 := rfl
      simp -implicitDefEqProofs [c29b0, hi, hx', k41, hz1, w1']
      exact ⟨_, _, _, ⟨⟨rfl, rfl⟩, rfl⟩, .inr ⟨by simp, _, by omega, rfl, by simp⟩⟩
    · have hR1 := fun Z => get_old hr Z
      rw [hlen] at hR1
      have hla : a < (R ++ Y).length := (List.getElem?_eq_some_iff.1 hr).1
      have hst := fun (Z : List Arr) (x : Arr) => set_ge (R := R) (Y := Z) hra x
      have hz := szOk_mcvL (w.take i)
      have hzl : ((w.take i).map mcv).length = i := by rw [List.length_map, hlen]
      have hi0 : ¬ i = 0 := fun h => hl (by rw [h]; simp)
      generalize hw : w.take i = u at *
      simp -implicitDefEqProofs at hR1
      have hR2 := hR1 []
      simp -implicitDefEqProofs at hR2
      simp -implicitDefEqProofs [c29b0, hi, hx', k41, hz1, hz, hR1, hR2, hst, hlen, hq, hq2, w1]
      refine ⟨_, _, _, ⟨⟨rfl, rfl⟩, rfl⟩, .inr ⟨by simp, a, hra, by simp, ?_⟩⟩
      rw [← hst, List.getElem?_set_self (by simpa using hla)]
      simp [hlen]
  · rintro st ⟨v, X, Y, rfl, hV⟩
    rw [List.take_length] at hV
    simp -implicitDefEqProofs [c29b0]
    exact ⟨_, _, _, ⟨⟨rfl, rfl⟩, rfl⟩, hV⟩
theorem NewV.set {O X : List Obj} {R : List Arr} {r0 : Nat} {v : AV} {w : List Mc} (h : NewV r0 R v w) : ∃ a, SetAt (O ++ (.cells [v] :: X)) R O.length a w ∧ ∀ b, a = some b → r0 ≤ b := by
  rcases h with ⟨rfl, rfl⟩ | ⟨-, a, h1, rfl, h2⟩
  · exact ⟨none, .nil (by simp), fun b h => by cases h⟩
  · exact ⟨some a, .own (by simp) h2, fun b h => by cases h; exact h1⟩
theorem ev29 (w : List Mc) {O : List Obj} {R : List Arr} {id : Nat} {a : Option Nat} (hs : SetAt O R id a w) (hb : w.length < big) (hN : w.length < N) (h41 : ∀ d ∈ w, ∀ M, cl 41 [mcv d] M = some (mcv d, M))
    (h10 : cl 10 [] ⟨O, R⟩ = some (.ptr O.length 0, ⟨O ++ [.cells [.slc .full []]], R⟩)) :
    ∃ X Y a', callA G false cl yl N c29 [.ptr id 0] ⟨O, R⟩ = some (.ptr O.length 0, ⟨O ++ X, R ++ Y⟩) ∧ SetAt (O ++ X) (R ++ Y) O.length a' w ∧ ∀ b, a' = some b → R.length ≤ b := by
  obtain ⟨sp, hg⟩ := hs.get
  have hg' := fun r => get_old hg r
  obtain ⟨e, ⟨ts, M, mks⟩, h1, -, rfl, rfl, h3, v, X, Y, rfl, hV⟩ := loop29 (G := G) (cl := cl) (yl := yl) (N := N) w sp (O := O) (R := R) hb hN h41
  obtain ⟨a', h4, h5⟩ := hV.set (O := O) (X := X)
  simp at h3
  refine ⟨.cells [v] :: X, Y, a', ?_, h4, h5⟩
  simp -implicitDefEqProofs [c29, hg', h10, h1, h3]
end
def Old {α : Type} (l l1 : List α) : Prop := ∀ (i : Nat) (x : α), l[i]? = some x → l1[i]? = some x
theorem Old.refl {α : Type} (l : List α) : Old l l := fun _ _ h => h
theorem Old.trans {α : Type} {l l1 l2 : List α} (h : Old l l1) (k : Old l1 l2) : Old l l2 := fun i x hi => k i x (h i x hi)
theorem Old.app {α : Type} (l r : List α) : Old l (l ++ r) := fun _ _ h => get_old h r
theorem Old.pre {α : Type} {l l1 : List α} (h : Old l l1) : ∃ X, l1 = l ++ X := by
  refine ⟨l1.drop l.length, ?_⟩
  apply List.ext_getElem?
  intro i
  by_cases hi : i < l.length
  · rw [List.getElem?_append_left hi, List.getElem?_eq_getElem hi]
    exact h i _ (List.getElem?_eq_getElem hi)
  · rw [List.getElem?_append_right (by omega), List.getElem?_drop]
    congr 1
    omega
theorem Old.len {α : Type} {l l1 : List α} (h : Old l l1) : l.length ≤ l1.length := by
  obtain ⟨X, rfl⟩ := h.pre
  simp
theorem Added.oldO {O O' : List Obj} {R R' : List Arr} {id : Nat} {a a' : Option Nat} {w : List Mc} (h : Added O R id a w O' R' a') {n : Nat} (hn : n ≤ id) : Old (O.take n) O' := by
  intro i o hi
  rw [List.getElem?_take] at hi
  split at hi
  · exact h.obj i o (by omega) hi
  · cases hi
section
variable {G : Nat → Option AV} {cl : Caller} {yl : Nat → List AV → Mem → Option (AV × Mem)} {N : Nat}
def S17 (l : List Mc) (O : List Obj) (R : List Arr) (i : Nat) (st : St) : Prop :=
  ∃ O1 R1 a w, st = ⟨[(0, .slc .shared (l.map mcv)), (4, .ptr O.length 0), (5, .slc (.own R.length) (w.map mcv)), (6, .int .i64 (i : Int))], ⟨O1, R1⟩, []⟩ ∧ SetAt O1 R1 O.length a w ∧ R1[R.length]? = some (rowA w.length 34 8) ∧ (∀ b, a = some b → R.length < b) ∧ Gd w ∧ Old O O1 ∧ Old R R1
theorem loop17 (l : List Mc) (hl : l.length ≤ 5) (hm : ∀ d ∈ l, OkM d) (hN : 6 < N) (h : Cs3 cl l) (O : List Obj) (R : List Arr) :
    ∃ e s', iter false (evalC G false cl yl N c17b0) ⟨[0, 4, 5, 6], [(5, none), (6, none)], true⟩ (O.length + 1) (R.length + 1) N ⟨[(0, .slc .shared (l.map mcv)), (4, .ptr O.length 0), (5, .slc (.own R.length) []), (6, .int .i64 0)], ⟨O ++ [.cells [.slc .full []]], R ++ [.app 0 0 0]⟩, []⟩ = some (e, s') ∧ e ≠ .normal ∧
      (e = .exit 0 ∧ s'.mks = [] ∧ ∃ O1 R1 a w, s'.m = ⟨O1, R1⟩ ∧ look 4 s'.ts = .ptr O.length 0 ∧ look 5 s'.ts = .slc (.own R.length) (w.map mcv) ∧ SetAt O1 R1 O.length a w ∧ (∀ b, a = some b → R.length < b) ∧ Gd w ∧ Old O O1 ∧ Old R R1) := by
  obtain ⟨h8, h9, h10, h11, h13, h12y, h12n, h14, h15, h16⟩ := h
  refine (iter_inv (mu := false) (step := evalC G false cl yl N c17b0) (an := ⟨[0, 4, 5, 6], [(5, none), (6, none)], true⟩) (k := O.length + 1) (m := R.length + 1) (N := N) l (fun _ => (none : Option Unit)) (S17 l O R)
    (fun r e s' => e = .exit 0 ∧ s'.mks = [] ∧ ∃ O1 R1 a w, s'.m = ⟨O1, R1⟩ ∧ look 4 s'.ts = .ptr O.length 0 ∧ look 5 s'.ts = .slc (.own R.length) (w.map mcv) ∧ SetAt O1 R1 O.length a w ∧ (∀ b, a = some b → R.length < b) ∧ Gd w ∧ Old O O1 ∧ Old R R1) (by omega)
    ⟨O ++ [.cells [.slc .full []]], R ++ [.app 0 0 0], none, [], rfl, .nil (by simp), by simp [rowA], fun b h => (by cases h), gd_nil, .app _ _, .app _ _⟩ ?_ ?_)
  · rintro i d st hx hi ⟨O1, R1, a, w, rfl, hs, hr, ha, hg, hO, hR⟩
    have hx' := (List.getElem?_eq_some_iff.1 hx).2
    have hd := mem_of_get hx
    have w1 := wrap_succ (i := i) (by omega)
    have k11 := fun M => h11 w d (.own R.length) M hg hd (by simp)
    have k13 := h13 d hd
    by_cases hc : may w d = 0
    · obtain ⟨O', R', a', k12, hA⟩ := h12y w d O1 R1 O.length a hs hg hd hc
      rw [hc] at k11
      have hr' : R'[R.length]? = some (rowA w.length 34 8) := hA.row R.length _ (fun e => by have := ha R.length e.symm; omega) hr
      have hRlen : R.length < R1.length := (List.getElem?_eq_some_iff.1 hr).1
      have ha' : ∀ b, a' = some b → R.length < b := by
        intro b hb
        rcases hA.own with e | ⟨-, k, hk, e⟩
        · rw [e] at hb; exact ha b hb
        · rw [e] at hb; cases hb; omega
      have hg' := hg.snoc hc (hm d hd)
      have hq : (w.length + 1) * 120 ≤ 140737488355328 := by have := hg.len; omega
      have hq2 : w.length + 1 ≤ 140737488355328 := by have := hg.len; omega
      have hz := szOk_mcvL w
      have hz1 := szOk_mcv d []
      have hrr : w = [] ∨ ¬ w = [] := Decidable.em _
      simp only [rowA] at hr'
      have fin : S17 l O R (i + 1) ⟨[(0, .slc .shared (l.map mcv)), (4, .ptr O.length 0), (5, .slc (.own R.length) (w.map mcv ++ [mcv d])), (6, .int .i64 ((i + 1 : Nat) : Int))], ⟨O', R'.set R.length (.app (w.length + 1) 34 8)⟩, []⟩ := by
        have hne : a' ≠ some R.length := fun e => by have := ha' _ e; omega
        refine ⟨O', R'.set R.length (.app (w.length + 1) 34 8), a', w ++ [d], by simp, hA.set.setRow hne _, ?_, ha', hg', ?_, ?_⟩
        · have : R.length < R'.length := (List.getElem?_eq_some_iff.1 hr').1
          simp [rowA, this]
        · intro j o hj
          exact hA.obj j o (by have := (List.getElem?_eq_some_iff.1 hj).1; omega) (hO j o hj)
        · intro j r hj
          have hjl := (List.getElem?_eq_some_iff.1 hj).1
          rw [List.getElem?_set_ne (by omega)]
          exact hA.row j r (fun e => by have := ha j e.symm; omega) (hR j r hj)
      simp -implicitDefEqProofs [c17b0, hi, hx', w1, k11, k13, k12, hr', hq, hq2, hz, hz1, hrr]
      simpa using fin
    · obtain ⟨X, k12⟩ := h12n w d O1 R1 O.length a hs hg hd hc
      have hc' : (may w d == 0) = false := by simp [hc]
      have fin : S17 l O R (i + 1) ⟨[(0, .slc .shared (l.map mcv)), (4, .ptr O.length 0), (5, .slc (.own R.length) (w.map mcv)), (6, .int .i64 ((i + 1 : Nat) : Int))], ⟨O1, R1⟩, []⟩ :=
        ⟨O1, R1, a, w, rfl, hs, hr, ha, hg, hO, hR⟩
      simp -implicitDefEqProofs [c17b0, hi, hx', w1, k11, hc']
      simpa using fin
  · rintro st ⟨O1, R1, a, w, rfl, hs, hr, ha, hg, hO, hR⟩
    simp -implicitDefEqProofs [c17b0]
    exact ⟨O1, R1, ⟨rfl, rfl⟩, a, w, rfl, hs, ha, hg, hO, hR⟩
theorem ev17 (l : List Mc) (hl : l.length ≤ 5) (hm : ∀ d ∈ l, OkM d) (hN : 6 < N) (h : Cs3 cl l) (O : List Obj) (R : List Arr) :
    ∃ X Y a w, callA G false cl yl N c17 [.slc .shared (l.map mcv)] ⟨O, R⟩ = some (.tup [.ptr O.length 0, .slc (.own R.length) (w.map mcv)], ⟨O ++ X, R ++ Y⟩) ∧ SetAt (O ++ X) (R ++ Y) O.length a w ∧ (∀ b, a = some b → R.length < b) ∧ Gd w := by
  obtain ⟨e, ⟨ts, M, mks⟩, h1, -, rfl, rfl, O1, R1, a, w, rfl, h3, h4, hs, ha, hg, hO, hR⟩ := loop17 (G := G) (cl := cl) (yl := yl) (N := N) l hl hm hN h O R
  obtain ⟨X, rfl⟩ := hO.pre
  obtain ⟨Y, rfl⟩ := hR.pre
  have k10 := h.h10 O R
  simp at h3 h4
  refine ⟨X, Y, a, w, ?_, hs, ha, hg⟩
  simp -implicitDefEqProofs [c17, k10, h1, h3, h4]
end
end Go.Proofs.Ae
